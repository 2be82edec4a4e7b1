/- The ties: the program's text comes to the plain functions. Nothing is assumed. -/
import Derived.Test.YtakkbbpdfmkbnaaPuFnExactPrincipalMatrixa
import Derived.Test.YtakkbbpdfmkbnaaTiFnExactPrincipalMatrixa
import Derived.Test.YtakkbbpdfmkbnaaPuFnExactPrincipalMatrixb
set_option linter.unusedVariables false
set_option linter.unusedSimpArgs false
set_option maxRecDepth 100000
namespace Go.Fw
open Go.Proofs
/-! ### slices.Clone[[]int,int] -/
noncomputable def f62sig : Sig := ⟨[⟨.sl 3 (.int .i64), false, false⟩], [⟨.sl 3 (.int .i64), false, false⟩]⟩
noncomputable def e62 : Entry := ⟨f62sig, (some fun X => slices_Clone_int_int.P X.1), fun X => ((), ((slices_Clone_int_int.g X.1), ()))⟩
noncomputable def f62G : Nat → Option Entry := (fun _ => none)
theorem f62GOk : GOk Try.prog f62G := GOk.nil
noncomputable def f62lE : Clean := ⟨[], [], [], [], []⟩
noncomputable def f62s0 (s0 : List Int) : St := initSt f62sig.ps (s0, ())
noncomputable def f62s1 (t2 : List Int) : St := stOf [(2, .c (.own 1000128))] [] [(1000128, (⟨3, .int .i64, t2, true, false⟩ : Row))]
noncomputable def f62l1 : Clean := ⟨[2], [], [⟨⟨false, 2, 0⟩, 30000000, 3, .int .i64, true⟩], [], [(⟨false, 2, 0⟩, 1000128)]⟩
noncomputable def f62B : Nat → Option Clean := lookL [(1000000, f62l1)]
noncomputable abbrev f62i {ρ : Type} (N : Nat) (c : Code) (p : Plan) (σ : St) (K : KT ρ) : Option ρ := iCode f62G tab f62B N c p σ K
noncomputable def f62c0 := codeAt (bodyOf Try.f62) []
theorem f62t0 {ρ : Type} (N : Nat) (s0 : List Int) (K : KT ρ) : f62i N f62c0 .n (f62s0 s0) (joinK (some f62lE) K) =
  slices_Clone_int_int.Z0 N s0 (fun t2 => K .ret (f62s1 t2)) := by kernel_rfl
theorem f62m (N : Nat) (s0 : List Int) : f62i N f62c0 .n (f62s0 s0) (joinK (some f62lE) (finK tab f62sig Try.f62.results.toList)) = slices_Clone_int_int.Z0 N s0 (fun t2 => some ((), (t2, ()))) :=
  (f62t0 N s0 (finK tab f62sig Try.f62.results.toList)).trans (by kernel_rfl)
theorem f62ok (h : slices_Clone_int_int.Spec) : EntryOk Try.prog 62 e62 :=
  entry_of_code (sig := f62sig) (c := f62c0) (pl := .n) (je := (some f62lE)) (B := f62B) Try.func62 (by kernel_rfl) (by kernel_rfl) (by kernel_rfl) tabOk f62GOk (by kernel_rfl) (by kernel_rfl) (by kernel_rfl) (by kernel_rfl) fun X hb hp => by
    obtain ⟨s0, _⟩ := X
    obtain ⟨N, h⟩ := h s0 hb.1 hp
    exact ⟨N, (f62m N s0).trans (h N (Nat.le_refl N))⟩
theorem e62ok : EntryOk Try.prog 62 e62 := f62ok slices_Clone_int_int.ok
end Go.Fw
set_option linter.unusedVariables false
set_option linter.unusedSimpArgs false
set_option maxRecDepth 100000
namespace Go.Fw
open Go.Proofs
/-! ### loop.example/g03115/impl.PrincipalMatrix -/
noncomputable def f30sig : Sig := ⟨[⟨.pair (.int .i64) (.pair (.int .i64) (.sl 3 (.int .i64))), true, false⟩], [⟨.pair (.int .i64) (.pair (.int .i64) (.sl 3 (.int .i64))), true, false⟩, ⟨.bool, false, false⟩]⟩
noncomputable def e30 : Entry := ⟨f30sig, none, fun X => ((), ((impl_PrincipalMatrix.g X.1).1, ((impl_PrincipalMatrix.g X.1).2, ())))⟩
noncomputable def f30G : Nat → Option Entry := addG (addG (fun _ => none) 61 e61) 62 e62
theorem f30GOk : GOk Try.prog f30G := ((GOk.nil).add e61ok (by kernel_rfl)).add e62ok (by kernel_rfl)
noncomputable def f30lE : Clean := ⟨[], [], [], [], []⟩
noncomputable def f30s0 (m0 : Int × Int × List Int) : St := initSt f30sig.ps (m0, ())
noncomputable def f30s1 (m1_0 : Int) (m1_1 : Int) (m1_2 : List Int) (t2_0 : Int) (t2_1 : Int) : St := stOf [(1, .c (.box 1 0)), (2, .c (.box 2 0))] [(1, (26, [.int .i64 m1_0, .int .i64 m1_1, .sn 3 (.int .i64) m1_2 none])), (2, (26, [.int .i64 t2_0, .int .i64 t2_1, .nil]))] []
noncomputable def f30l1 : Clean := ⟨[1, 2], [1, 2], [], [], []⟩
noncomputable def f30s2 (out4_2 : List Int) (m1_0 : Int) (m1_1 : Int) (m1_2 : List Int) (t2_0 : Int) (t2_1 : Int) (out4_0 : Int) (out4_1 : Int) : St := stOf [(1, .c (.box 1 0)), (2, .c (.box 2 0)), (4, .c (.box 4 0))] [(1, (26, [.int .i64 m1_0, .int .i64 m1_1, .sn 3 (.int .i64) m1_2 none])), (2, (26, [.int .i64 t2_0, .int .i64 t2_1, .nil])), (4, (26, [.int .i64 out4_0, .int .i64 out4_1, .own 20000258]))] [(20000258, (⟨3, .int .i64, out4_2, true, false⟩ : Row))]
noncomputable def f30l2 : Clean := ⟨[1, 2, 4], [1, 2, 4], [], [], [(⟨true, 4, 2⟩, 20000258)]⟩
noncomputable def f30s3 (out4_2 : List Int) (i5 : Int) (m1_0 : Int) (m1_1 : Int) (m1_2 : List Int) (t2_0 : Int) (t2_1 : Int) (out4_0 : Int) (out4_1 : Int) : St := stOf [(1, .c (.box 1 0)), (2, .c (.box 2 0)), (4, .c (.box 4 0)), (5, .c (.int .i64 i5))] [(1, (26, [.int .i64 m1_0, .int .i64 m1_1, .sn 3 (.int .i64) m1_2 none])), (2, (26, [.int .i64 t2_0, .int .i64 t2_1, .nil])), (4, (26, [.int .i64 out4_0, .int .i64 out4_1, .own 20000258]))] [(20000258, (⟨3, .int .i64, out4_2, true, false⟩ : Row))]
noncomputable def f30l3 : Clean := ⟨[1, 2, 4, 5], [1, 2, 4], [], [], [(⟨true, 4, 2⟩, 20000258)]⟩
noncomputable def f30s4 (out4_2 : List Int) (i5 : Int) (j6 : Int) (m1_0 : Int) (m1_1 : Int) (m1_2 : List Int) (t2_0 : Int) (t2_1 : Int) (out4_0 : Int) (out4_1 : Int) : St := stOf [(1, .c (.box 1 0)), (2, .c (.box 2 0)), (4, .c (.box 4 0)), (5, .c (.int .i64 i5)), (6, .c (.int .i64 j6))] [(1, (26, [.int .i64 m1_0, .int .i64 m1_1, .sn 3 (.int .i64) m1_2 none])), (2, (26, [.int .i64 t2_0, .int .i64 t2_1, .nil])), (4, (26, [.int .i64 out4_0, .int .i64 out4_1, .own 20000258]))] [(20000258, (⟨3, .int .i64, out4_2, true, false⟩ : Row))]
noncomputable def f30l4 : Clean := ⟨[1, 2, 4, 5, 6], [1, 2, 4], [], [], [(⟨true, 4, 2⟩, 20000258)]⟩
noncomputable def f30s5 (out4_2 : List Int) (t2_0 : Int) (t2_1 : Int) (out4_0 : Int) (out4_1 : Int) : St := stOf [(2, .c (.box 2 0)), (4, .c (.box 4 0))] [(2, (26, [.int .i64 t2_0, .int .i64 t2_1, .nil])), (4, (26, [.int .i64 out4_0, .int .i64 out4_1, .own 20000258]))] [(20000258, (⟨3, .int .i64, out4_2, true, false⟩ : Row))]
noncomputable def f30l5 : Clean := ⟨[2, 4], [2, 4], [], [], [(⟨true, 4, 2⟩, 20000258)]⟩
noncomputable def f30s6 (t2_2 : List Int) (t3 : Bool) (t2_0 : Int) (t2_1 : Int) : St := stOf [(2, .c (.box 2 0)), (3, .c (.bool t3))] [(2, (26, [.int .i64 t2_0, .int .i64 t2_1, .own 20000130]))] [(20000130, (⟨3, .int .i64, t2_2, true, false⟩ : Row))]
noncomputable def f30l6 : Clean := ⟨[2, 3], [2], [⟨⟨true, 2, 2⟩, 30000000, 3, .int .i64, true⟩], [], [(⟨true, 2, 2⟩, 20000130)]⟩
noncomputable def f30B : Nat → Option Clean := lookL [(2, f30l3), (1, f30l3), (0, f30l5), (1000000, f30l6)]
noncomputable abbrev f30i {ρ : Type} (N : Nat) (c : Code) (p : Plan) (σ : St) (K : KT ρ) : Option ρ := iCode f30G tab f30B N c p σ K
noncomputable def f30c1 := codeAt (bodyOf Try.f30) [0]
theorem f30t1 {ρ : Type} (N : Nat) (m0 : Int × Int × List Int) (K : KT ρ) : f30i N f30c1 .n (f30s0 m0) (joinK (some f30l1) K) =
  impl_PrincipalMatrix.Z1 N m0 (fun m1_0 m1_1 m1_2 t2_0 t2_1 => K .nrm (f30s1 m1_0 m1_1 m1_2 t2_0 t2_1)) := by kernel_rfl
noncomputable def f30c3 := codeAt (bodyOf Try.f30) [1,0]
theorem f30t3 {ρ : Type} (N : Nat) (m1_0 : Int) (m1_1 : Int) (m1_2 : List Int) (t2_0 : Int) (t2_1 : Int) (K : KT ρ) : f30i N f30c3 .n (f30s1 m1_0 m1_1 m1_2 t2_0 t2_1) (joinK (some f30l1) K) =
  impl_PrincipalMatrix.Z3 N m1_0 m1_1 m1_2 t2_0 t2_1 (fun m1_0 m1_1 m1_2 t2_0 t2_1 => K .nrm (f30s1 m1_0 m1_1 m1_2 t2_0 t2_1)) (fun t2_2 t3 t2_0 t2_1 => K .ret (f30s6 t2_2 t3 t2_0 t2_1)) := by kernel_rfl
noncomputable def f30c5 := codeAt (bodyOf Try.f30) [1,1,0]
theorem f30t5 {ρ : Type} (N : Nat) (m1_0 : Int) (m1_1 : Int) (m1_2 : List Int) (t2_0 : Int) (t2_1 : Int) (K : KT ρ) : f30i N f30c5 .n (f30s1 m1_0 m1_1 m1_2 t2_0 t2_1) (joinK (some f30l2) K) =
  impl_PrincipalMatrix.Z5 N m1_0 m1_1 m1_2 t2_0 t2_1 (fun out4_2 m1_0 m1_1 m1_2 t2_0 t2_1 out4_0 out4_1 => K .nrm (f30s2 out4_2 m1_0 m1_1 m1_2 t2_0 t2_1 out4_0 out4_1)) := by kernel_rfl
noncomputable def f30c8 := codeAt (bodyOf Try.f30) [1,1,1,0,0]
theorem f30t8 {ρ : Type} (N : Nat) (out4_2 : List Int) (m1_0 : Int) (m1_1 : Int) (m1_2 : List Int) (t2_0 : Int) (t2_1 : Int) (out4_0 : Int) (out4_1 : Int) (K : KT ρ) : f30i N f30c8 .n (f30s2 out4_2 m1_0 m1_1 m1_2 t2_0 t2_1 out4_0 out4_1) (joinK (some f30l3) K) =
  impl_PrincipalMatrix.Z8 N out4_2 m1_0 m1_1 m1_2 t2_0 t2_1 out4_0 out4_1 (fun out4_2 i5 m1_0 m1_1 m1_2 t2_0 t2_1 out4_0 out4_1 => K .nrm (f30s3 out4_2 i5 m1_0 m1_1 m1_2 t2_0 t2_1 out4_0 out4_1)) := by kernel_rfl
noncomputable def f30c12 := codeAt (bodyOf Try.f30) [1,1,1,0,1,0,0,0]
theorem f30t12 {ρ : Type} (N : Nat) (out4_2 : List Int) (i5 : Int) (m1_0 : Int) (m1_1 : Int) (m1_2 : List Int) (t2_0 : Int) (t2_1 : Int) (out4_0 : Int) (out4_1 : Int) (K : KT ρ) : f30i N f30c12 .n (f30s3 out4_2 i5 m1_0 m1_1 m1_2 t2_0 t2_1 out4_0 out4_1) (joinK (some f30l3) K) =
  impl_PrincipalMatrix.Z12 N out4_2 i5 m1_0 m1_1 m1_2 t2_0 t2_1 out4_0 out4_1 (fun out4_2 i5 m1_0 m1_1 m1_2 t2_0 t2_1 out4_0 out4_1 => K .nrm (f30s3 out4_2 i5 m1_0 m1_1 m1_2 t2_0 t2_1 out4_0 out4_1)) (fun out4_2 t2_0 t2_1 out4_0 out4_1 => K (.exit 0) (f30s5 out4_2 t2_0 t2_1 out4_0 out4_1)) := by kernel_rfl
noncomputable def f30c16 := codeAt (bodyOf Try.f30) [1,1,1,0,1,0,0,1,0,0,0]
theorem f30t16 {ρ : Type} (N : Nat) (out4_2 : List Int) (i5 : Int) (m1_0 : Int) (m1_1 : Int) (m1_2 : List Int) (t2_0 : Int) (t2_1 : Int) (out4_0 : Int) (out4_1 : Int) (K : KT ρ) : f30i N f30c16 .n (f30s3 out4_2 i5 m1_0 m1_1 m1_2 t2_0 t2_1 out4_0 out4_1) (joinK (some f30l4) K) =
  impl_PrincipalMatrix.Z16 N out4_2 i5 m1_0 m1_1 m1_2 t2_0 t2_1 out4_0 out4_1 (fun out4_2 i5 j6 m1_0 m1_1 m1_2 t2_0 t2_1 out4_0 out4_1 => K .nrm (f30s4 out4_2 i5 j6 m1_0 m1_1 m1_2 t2_0 t2_1 out4_0 out4_1)) := by kernel_rfl
noncomputable def f30c19 := codeAt (bodyOf Try.f30) [1,1,1,0,1,0,0,1,0,0,1,0,0]
theorem f30t19 {ρ : Type} (N : Nat) (out4_2 : List Int) (i5 : Int) (j6 : Int) (m1_0 : Int) (m1_1 : Int) (m1_2 : List Int) (t2_0 : Int) (t2_1 : Int) (out4_0 : Int) (out4_1 : Int) (K : KT ρ) : f30i N f30c19 .n (f30s4 out4_2 i5 j6 m1_0 m1_1 m1_2 t2_0 t2_1 out4_0 out4_1) (joinK (some f30l4) K) =
  impl_PrincipalMatrix.Z19 N out4_2 i5 j6 m1_0 m1_1 m1_2 t2_0 t2_1 out4_0 out4_1 (fun out4_2 i5 j6 m1_0 m1_1 m1_2 t2_0 t2_1 out4_0 out4_1 => K .nrm (f30s4 out4_2 i5 j6 m1_0 m1_1 m1_2 t2_0 t2_1 out4_0 out4_1)) (fun out4_2 i5 m1_0 m1_1 m1_2 t2_0 t2_1 out4_0 out4_1 => K (.exit 2) (f30s3 out4_2 i5 m1_0 m1_1 m1_2 t2_0 t2_1 out4_0 out4_1)) := by kernel_rfl
noncomputable def f30c18 := codeAt (bodyOf Try.f30) [1,1,1,0,1,0,0,1,0,0,1,0]
noncomputable def f30p18 : Plan := .mk none (some f30l4) .n .n
noncomputable abbrev f30w18 {ρ : Type} (N : Nat) (M : Nat) (σ : St) (K : KT ρ) : Option ρ := loopC (fun σ K => f30i N f30c19 .n σ K) f30l4 M σ K
theorem f30t18L {ρ : Type} (N : Nat) (K : KT ρ) : ∀ (M : Nat) (out4_2 : List Int) (i5 : Int) (j6 : Int) (m1_0 : Int) (m1_1 : Int) (m1_2 : List Int) (t2_0 : Int) (t2_1 : Int) (out4_0 : Int) (out4_1 : Int), f30w18 N M (f30s4 out4_2 i5 j6 m1_0 m1_1 m1_2 t2_0 t2_1 out4_0 out4_1) K =
  impl_PrincipalMatrix.Z18L N (fun out4_2 i5 m1_0 m1_1 m1_2 t2_0 t2_1 out4_0 out4_1 => K (.exit 2) (f30s3 out4_2 i5 m1_0 m1_1 m1_2 t2_0 t2_1 out4_0 out4_1)) M out4_2 i5 j6 m1_0 m1_1 m1_2 t2_0 t2_1 out4_0 out4_1
  | 0, _, _, _, _, _, _, _, _, _, _ => rfl
  | M + 1, out4_2, i5, j6, m1_0, m1_1, m1_2, t2_0, t2_1, out4_0, out4_1 => viaRound (fun k => impl_PrincipalMatrix.Z19 N out4_2 i5 j6 m1_0 m1_1 m1_2 t2_0 t2_1 out4_0 out4_1 k (fun out4_2 i5 m1_0 m1_1 m1_2 t2_0 t2_1 out4_0 out4_1 => K (.exit 2) (f30s3 out4_2 i5 m1_0 m1_1 m1_2 t2_0 t2_1 out4_0 out4_1))) (f30t19 N out4_2 i5 j6 m1_0 m1_1 m1_2 t2_0 t2_1 out4_0 out4_1 (seqK (fun σ => f30w18 N M σ K) K)) (funext fun out4_2 => funext fun i5 => funext fun j6 => funext fun m1_0 => funext fun m1_1 => funext fun m1_2 => funext fun t2_0 => funext fun t2_1 => funext fun out4_0 => funext fun out4_1 => f30t18L N K M out4_2 i5 j6 m1_0 m1_1 m1_2 t2_0 t2_1 out4_0 out4_1) (by kernel_rfl) (by kernel_rfl)
theorem f30t18 {ρ : Type} (N : Nat) (out4_2 : List Int) (i5 : Int) (j6 : Int) (m1_0 : Int) (m1_1 : Int) (m1_2 : List Int) (t2_0 : Int) (t2_1 : Int) (out4_0 : Int) (out4_1 : Int) (K : KT ρ) : f30i N f30c18 f30p18 (f30s4 out4_2 i5 j6 m1_0 m1_1 m1_2 t2_0 t2_1 out4_0 out4_1) (joinK (some f30l3) K) =
  impl_PrincipalMatrix.Z18 N out4_2 i5 j6 m1_0 m1_1 m1_2 t2_0 t2_1 out4_0 out4_1 (fun out4_2 i5 m1_0 m1_1 m1_2 t2_0 t2_1 out4_0 out4_1 => K (.exit 2) (f30s3 out4_2 i5 m1_0 m1_1 m1_2 t2_0 t2_1 out4_0 out4_1)) :=
  viaLoop (by kernel_rfl) (by kernel_rfl) (σ' := f30s4 out4_2 i5 j6 m1_0 m1_1 m1_2 t2_0 t2_1 out4_0 out4_1) (by kernel_rfl) (f30t18L N (joinK (some f30l3) K) N out4_2 i5 j6 m1_0 m1_1 m1_2 t2_0 t2_1 out4_0 out4_1) (by kernel_rfl)
noncomputable def f30c17 := codeAt (bodyOf Try.f30) [1,1,1,0,1,0,0,1,0,0,1]
noncomputable def f30p17 : Plan := .mk (some f30l3) none f30p18 .n
theorem f30t17 {ρ : Type} (N : Nat) (out4_2 : List Int) (i5 : Int) (j6 : Int) (m1_0 : Int) (m1_1 : Int) (m1_2 : List Int) (t2_0 : Int) (t2_1 : Int) (out4_0 : Int) (out4_1 : Int) (K : KT ρ) : f30i N f30c17 f30p17 (f30s4 out4_2 i5 j6 m1_0 m1_1 m1_2 t2_0 t2_1 out4_0 out4_1) (joinK (some f30l3) K) =
  impl_PrincipalMatrix.Z17 N out4_2 i5 j6 m1_0 m1_1 m1_2 t2_0 t2_1 out4_0 out4_1 (fun out4_2 i5 m1_0 m1_1 m1_2 t2_0 t2_1 out4_0 out4_1 => K .nrm (f30s3 out4_2 i5 m1_0 m1_1 m1_2 t2_0 t2_1 out4_0 out4_1)) :=
  viaBlock (by kernel_rfl) (by kernel_rfl) (f30t18 N out4_2 i5 j6 m1_0 m1_1 m1_2 t2_0 t2_1 out4_0 out4_1 (blockK 2 (joinK (some f30l3) K))) (by kernel_rfl)
noncomputable def f30c15 := codeAt (bodyOf Try.f30) [1,1,1,0,1,0,0,1,0,0]
noncomputable def f30p15 : Plan := .mk (some f30l4) none .n f30p17
theorem f30t15 {ρ : Type} (N : Nat) (out4_2 : List Int) (i5 : Int) (m1_0 : Int) (m1_1 : Int) (m1_2 : List Int) (t2_0 : Int) (t2_1 : Int) (out4_0 : Int) (out4_1 : Int) (K : KT ρ) : f30i N f30c15 f30p15 (f30s3 out4_2 i5 m1_0 m1_1 m1_2 t2_0 t2_1 out4_0 out4_1) (joinK (some f30l3) K) =
  impl_PrincipalMatrix.Z15 N out4_2 i5 m1_0 m1_1 m1_2 t2_0 t2_1 out4_0 out4_1 (fun out4_2 i5 m1_0 m1_1 m1_2 t2_0 t2_1 out4_0 out4_1 => K .nrm (f30s3 out4_2 i5 m1_0 m1_1 m1_2 t2_0 t2_1 out4_0 out4_1)) :=
  viaSeq (fun k => impl_PrincipalMatrix.Z16 N out4_2 i5 m1_0 m1_1 m1_2 t2_0 t2_1 out4_0 out4_1 k) (by kernel_rfl) (by kernel_rfl) (f30t16 N out4_2 i5 m1_0 m1_1 m1_2 t2_0 t2_1 out4_0 out4_1 (seqK (fun σ => f30i N f30c17 f30p17 σ (joinK (some f30l3) K)) (joinK (some f30l3) K))) (funext fun out4_2 => funext fun i5 => funext fun j6 => funext fun m1_0 => funext fun m1_1 => funext fun m1_2 => funext fun t2_0 => funext fun t2_1 => funext fun out4_0 => funext fun out4_1 => f30t17 N out4_2 i5 j6 m1_0 m1_1 m1_2 t2_0 t2_1 out4_0 out4_1 K) (by kernel_rfl) (by kernel_rfl)
noncomputable def f30c14 := codeAt (bodyOf Try.f30) [1,1,1,0,1,0,0,1,0]
noncomputable def f30p14 : Plan := .mk (some f30l3) none f30p15 .n
theorem f30t14 {ρ : Type} (N : Nat) (out4_2 : List Int) (i5 : Int) (m1_0 : Int) (m1_1 : Int) (m1_2 : List Int) (t2_0 : Int) (t2_1 : Int) (out4_0 : Int) (out4_1 : Int) (K : KT ρ) : f30i N f30c14 f30p14 (f30s3 out4_2 i5 m1_0 m1_1 m1_2 t2_0 t2_1 out4_0 out4_1) (joinK (some f30l3) K) =
  impl_PrincipalMatrix.Z14 N out4_2 i5 m1_0 m1_1 m1_2 t2_0 t2_1 out4_0 out4_1 (fun out4_2 i5 m1_0 m1_1 m1_2 t2_0 t2_1 out4_0 out4_1 => K .nrm (f30s3 out4_2 i5 m1_0 m1_1 m1_2 t2_0 t2_1 out4_0 out4_1)) :=
  viaBlock (by kernel_rfl) (by kernel_rfl) (f30t15 N out4_2 i5 m1_0 m1_1 m1_2 t2_0 t2_1 out4_0 out4_1 (blockK 1 (joinK (some f30l3) K))) (by kernel_rfl)
noncomputable def f30c20 := codeAt (bodyOf Try.f30) [1,1,1,0,1,0,0,1,1]
theorem f30t20 {ρ : Type} (N : Nat) (out4_2 : List Int) (i5 : Int) (m1_0 : Int) (m1_1 : Int) (m1_2 : List Int) (t2_0 : Int) (t2_1 : Int) (out4_0 : Int) (out4_1 : Int) (K : KT ρ) : f30i N f30c20 .n (f30s3 out4_2 i5 m1_0 m1_1 m1_2 t2_0 t2_1 out4_0 out4_1) (joinK (some f30l3) K) =
  impl_PrincipalMatrix.Z20 N out4_2 i5 m1_0 m1_1 m1_2 t2_0 t2_1 out4_0 out4_1 (fun out4_2 i5 m1_0 m1_1 m1_2 t2_0 t2_1 out4_0 out4_1 => K .nrm (f30s3 out4_2 i5 m1_0 m1_1 m1_2 t2_0 t2_1 out4_0 out4_1)) := by kernel_rfl
noncomputable def f30c13 := codeAt (bodyOf Try.f30) [1,1,1,0,1,0,0,1]
noncomputable def f30p13 : Plan := .mk (some f30l3) none f30p14 .n
theorem f30t13 {ρ : Type} (N : Nat) (out4_2 : List Int) (i5 : Int) (m1_0 : Int) (m1_1 : Int) (m1_2 : List Int) (t2_0 : Int) (t2_1 : Int) (out4_0 : Int) (out4_1 : Int) (K : KT ρ) : f30i N f30c13 f30p13 (f30s3 out4_2 i5 m1_0 m1_1 m1_2 t2_0 t2_1 out4_0 out4_1) (joinK (some f30l3) K) =
  impl_PrincipalMatrix.Z13 N out4_2 i5 m1_0 m1_1 m1_2 t2_0 t2_1 out4_0 out4_1 (fun out4_2 i5 m1_0 m1_1 m1_2 t2_0 t2_1 out4_0 out4_1 => K .nrm (f30s3 out4_2 i5 m1_0 m1_1 m1_2 t2_0 t2_1 out4_0 out4_1)) :=
  viaSeq (fun k => impl_PrincipalMatrix.Z14 N out4_2 i5 m1_0 m1_1 m1_2 t2_0 t2_1 out4_0 out4_1 k) (by kernel_rfl) (by kernel_rfl) (f30t14 N out4_2 i5 m1_0 m1_1 m1_2 t2_0 t2_1 out4_0 out4_1 (seqK (fun σ => f30i N f30c20 .n σ (joinK (some f30l3) K)) (joinK (some f30l3) K))) (funext fun out4_2 => funext fun i5 => funext fun m1_0 => funext fun m1_1 => funext fun m1_2 => funext fun t2_0 => funext fun t2_1 => funext fun out4_0 => funext fun out4_1 => f30t20 N out4_2 i5 m1_0 m1_1 m1_2 t2_0 t2_1 out4_0 out4_1 K) (by kernel_rfl) (by kernel_rfl)
noncomputable def f30c11 := codeAt (bodyOf Try.f30) [1,1,1,0,1,0,0]
noncomputable def f30p11 : Plan := .mk (some f30l3) none .n f30p13
theorem f30t11 {ρ : Type} (N : Nat) (out4_2 : List Int) (i5 : Int) (m1_0 : Int) (m1_1 : Int) (m1_2 : List Int) (t2_0 : Int) (t2_1 : Int) (out4_0 : Int) (out4_1 : Int) (K : KT ρ) : f30i N f30c11 f30p11 (f30s3 out4_2 i5 m1_0 m1_1 m1_2 t2_0 t2_1 out4_0 out4_1) (joinK (some f30l3) K) =
  impl_PrincipalMatrix.Z11 N out4_2 i5 m1_0 m1_1 m1_2 t2_0 t2_1 out4_0 out4_1 (fun out4_2 i5 m1_0 m1_1 m1_2 t2_0 t2_1 out4_0 out4_1 => K .nrm (f30s3 out4_2 i5 m1_0 m1_1 m1_2 t2_0 t2_1 out4_0 out4_1)) (fun out4_2 t2_0 t2_1 out4_0 out4_1 => K (.exit 0) (f30s5 out4_2 t2_0 t2_1 out4_0 out4_1)) :=
  viaSeq (fun k => impl_PrincipalMatrix.Z12 N out4_2 i5 m1_0 m1_1 m1_2 t2_0 t2_1 out4_0 out4_1 k (fun out4_2 t2_0 t2_1 out4_0 out4_1 => K (.exit 0) (f30s5 out4_2 t2_0 t2_1 out4_0 out4_1))) (by kernel_rfl) (by kernel_rfl) (f30t12 N out4_2 i5 m1_0 m1_1 m1_2 t2_0 t2_1 out4_0 out4_1 (seqK (fun σ => f30i N f30c13 f30p13 σ (joinK (some f30l3) K)) (joinK (some f30l3) K))) (funext fun out4_2 => funext fun i5 => funext fun m1_0 => funext fun m1_1 => funext fun m1_2 => funext fun t2_0 => funext fun t2_1 => funext fun out4_0 => funext fun out4_1 => f30t13 N out4_2 i5 m1_0 m1_1 m1_2 t2_0 t2_1 out4_0 out4_1 K) (by kernel_rfl) (by kernel_rfl)
noncomputable def f30c10 := codeAt (bodyOf Try.f30) [1,1,1,0,1,0]
noncomputable def f30p10 : Plan := .mk none (some f30l3) f30p11 .n
noncomputable abbrev f30w10 {ρ : Type} (N : Nat) (M : Nat) (σ : St) (K : KT ρ) : Option ρ := loopC (fun σ K => f30i N f30c11 f30p11 σ K) f30l3 M σ K
theorem f30t10L {ρ : Type} (N : Nat) (K : KT ρ) : ∀ (M : Nat) (out4_2 : List Int) (i5 : Int) (m1_0 : Int) (m1_1 : Int) (m1_2 : List Int) (t2_0 : Int) (t2_1 : Int) (out4_0 : Int) (out4_1 : Int), f30w10 N M (f30s3 out4_2 i5 m1_0 m1_1 m1_2 t2_0 t2_1 out4_0 out4_1) K =
  impl_PrincipalMatrix.Z10L N (fun out4_2 t2_0 t2_1 out4_0 out4_1 => K (.exit 0) (f30s5 out4_2 t2_0 t2_1 out4_0 out4_1)) M out4_2 i5 m1_0 m1_1 m1_2 t2_0 t2_1 out4_0 out4_1
  | 0, _, _, _, _, _, _, _, _, _ => rfl
  | M + 1, out4_2, i5, m1_0, m1_1, m1_2, t2_0, t2_1, out4_0, out4_1 => viaRound (fun k => impl_PrincipalMatrix.Z11 N out4_2 i5 m1_0 m1_1 m1_2 t2_0 t2_1 out4_0 out4_1 k (fun out4_2 t2_0 t2_1 out4_0 out4_1 => K (.exit 0) (f30s5 out4_2 t2_0 t2_1 out4_0 out4_1))) (f30t11 N out4_2 i5 m1_0 m1_1 m1_2 t2_0 t2_1 out4_0 out4_1 (seqK (fun σ => f30w10 N M σ K) K)) (funext fun out4_2 => funext fun i5 => funext fun m1_0 => funext fun m1_1 => funext fun m1_2 => funext fun t2_0 => funext fun t2_1 => funext fun out4_0 => funext fun out4_1 => f30t10L N K M out4_2 i5 m1_0 m1_1 m1_2 t2_0 t2_1 out4_0 out4_1) (by kernel_rfl) (by kernel_rfl)
theorem f30t10 {ρ : Type} (N : Nat) (out4_2 : List Int) (i5 : Int) (m1_0 : Int) (m1_1 : Int) (m1_2 : List Int) (t2_0 : Int) (t2_1 : Int) (out4_0 : Int) (out4_1 : Int) (K : KT ρ) : f30i N f30c10 f30p10 (f30s3 out4_2 i5 m1_0 m1_1 m1_2 t2_0 t2_1 out4_0 out4_1) (joinK (some f30l5) K) =
  impl_PrincipalMatrix.Z10 N out4_2 i5 m1_0 m1_1 m1_2 t2_0 t2_1 out4_0 out4_1 (fun out4_2 t2_0 t2_1 out4_0 out4_1 => K (.exit 0) (f30s5 out4_2 t2_0 t2_1 out4_0 out4_1)) :=
  viaLoop (by kernel_rfl) (by kernel_rfl) (σ' := f30s3 out4_2 i5 m1_0 m1_1 m1_2 t2_0 t2_1 out4_0 out4_1) (by kernel_rfl) (f30t10L N (joinK (some f30l5) K) N out4_2 i5 m1_0 m1_1 m1_2 t2_0 t2_1 out4_0 out4_1) (by kernel_rfl)
noncomputable def f30c9 := codeAt (bodyOf Try.f30) [1,1,1,0,1]
noncomputable def f30p9 : Plan := .mk (some f30l5) none f30p10 .n
theorem f30t9 {ρ : Type} (N : Nat) (out4_2 : List Int) (i5 : Int) (m1_0 : Int) (m1_1 : Int) (m1_2 : List Int) (t2_0 : Int) (t2_1 : Int) (out4_0 : Int) (out4_1 : Int) (K : KT ρ) : f30i N f30c9 f30p9 (f30s3 out4_2 i5 m1_0 m1_1 m1_2 t2_0 t2_1 out4_0 out4_1) (joinK (some f30l5) K) =
  impl_PrincipalMatrix.Z9 N out4_2 i5 m1_0 m1_1 m1_2 t2_0 t2_1 out4_0 out4_1 (fun out4_2 t2_0 t2_1 out4_0 out4_1 => K .nrm (f30s5 out4_2 t2_0 t2_1 out4_0 out4_1)) :=
  viaBlock (by kernel_rfl) (by kernel_rfl) (f30t10 N out4_2 i5 m1_0 m1_1 m1_2 t2_0 t2_1 out4_0 out4_1 (blockK 0 (joinK (some f30l5) K))) (by kernel_rfl)
noncomputable def f30c7 := codeAt (bodyOf Try.f30) [1,1,1,0]
noncomputable def f30p7 : Plan := .mk (some f30l3) none .n f30p9
theorem f30t7 {ρ : Type} (N : Nat) (out4_2 : List Int) (m1_0 : Int) (m1_1 : Int) (m1_2 : List Int) (t2_0 : Int) (t2_1 : Int) (out4_0 : Int) (out4_1 : Int) (K : KT ρ) : f30i N f30c7 f30p7 (f30s2 out4_2 m1_0 m1_1 m1_2 t2_0 t2_1 out4_0 out4_1) (joinK (some f30l5) K) =
  impl_PrincipalMatrix.Z7 N out4_2 m1_0 m1_1 m1_2 t2_0 t2_1 out4_0 out4_1 (fun out4_2 t2_0 t2_1 out4_0 out4_1 => K .nrm (f30s5 out4_2 t2_0 t2_1 out4_0 out4_1)) :=
  viaSeq (fun k => impl_PrincipalMatrix.Z8 N out4_2 m1_0 m1_1 m1_2 t2_0 t2_1 out4_0 out4_1 k) (by kernel_rfl) (by kernel_rfl) (f30t8 N out4_2 m1_0 m1_1 m1_2 t2_0 t2_1 out4_0 out4_1 (seqK (fun σ => f30i N f30c9 f30p9 σ (joinK (some f30l5) K)) (joinK (some f30l5) K))) (funext fun out4_2 => funext fun i5 => funext fun m1_0 => funext fun m1_1 => funext fun m1_2 => funext fun t2_0 => funext fun t2_1 => funext fun out4_0 => funext fun out4_1 => f30t9 N out4_2 i5 m1_0 m1_1 m1_2 t2_0 t2_1 out4_0 out4_1 K) (by kernel_rfl) (by kernel_rfl)
noncomputable def f30c21 := codeAt (bodyOf Try.f30) [1,1,1,1]
theorem f30t21 {ρ : Type} (N : Nat) (out4_2 : List Int) (t2_0 : Int) (t2_1 : Int) (out4_0 : Int) (out4_1 : Int) (K : KT ρ) : f30i N f30c21 .n (f30s5 out4_2 t2_0 t2_1 out4_0 out4_1) (joinK (some f30lE) K) =
  impl_PrincipalMatrix.Z21 N out4_2 t2_0 t2_1 out4_0 out4_1 (fun t2_2 t3 t2_0 t2_1 => K .ret (f30s6 t2_2 t3 t2_0 t2_1)) := by kernel_rfl
noncomputable def f30c6 := codeAt (bodyOf Try.f30) [1,1,1]
noncomputable def f30p6 : Plan := .mk (some f30l5) none f30p7 .n
theorem f30t6 {ρ : Type} (N : Nat) (out4_2 : List Int) (m1_0 : Int) (m1_1 : Int) (m1_2 : List Int) (t2_0 : Int) (t2_1 : Int) (out4_0 : Int) (out4_1 : Int) (K : KT ρ) : f30i N f30c6 f30p6 (f30s2 out4_2 m1_0 m1_1 m1_2 t2_0 t2_1 out4_0 out4_1) (joinK (some f30lE) K) =
  impl_PrincipalMatrix.Z6 N out4_2 m1_0 m1_1 m1_2 t2_0 t2_1 out4_0 out4_1 (fun t2_2 t3 t2_0 t2_1 => K .ret (f30s6 t2_2 t3 t2_0 t2_1)) :=
  viaSeq (fun k => impl_PrincipalMatrix.Z7 N out4_2 m1_0 m1_1 m1_2 t2_0 t2_1 out4_0 out4_1 k) (by kernel_rfl) (by kernel_rfl) (f30t7 N out4_2 m1_0 m1_1 m1_2 t2_0 t2_1 out4_0 out4_1 (seqK (fun σ => f30i N f30c21 .n σ (joinK (some f30lE) K)) (joinK (some f30lE) K))) (funext fun out4_2 => funext fun t2_0 => funext fun t2_1 => funext fun out4_0 => funext fun out4_1 => f30t21 N out4_2 t2_0 t2_1 out4_0 out4_1 K) (by kernel_rfl) (by kernel_rfl)
noncomputable def f30c4 := codeAt (bodyOf Try.f30) [1,1]
noncomputable def f30p4 : Plan := .mk (some f30l2) none .n f30p6
theorem f30t4 {ρ : Type} (N : Nat) (m1_0 : Int) (m1_1 : Int) (m1_2 : List Int) (t2_0 : Int) (t2_1 : Int) (K : KT ρ) : f30i N f30c4 f30p4 (f30s1 m1_0 m1_1 m1_2 t2_0 t2_1) (joinK (some f30lE) K) =
  impl_PrincipalMatrix.Z4 N m1_0 m1_1 m1_2 t2_0 t2_1 (fun t2_2 t3 t2_0 t2_1 => K .ret (f30s6 t2_2 t3 t2_0 t2_1)) :=
  viaSeq (fun k => impl_PrincipalMatrix.Z5 N m1_0 m1_1 m1_2 t2_0 t2_1 k) (by kernel_rfl) (by kernel_rfl) (f30t5 N m1_0 m1_1 m1_2 t2_0 t2_1 (seqK (fun σ => f30i N f30c6 f30p6 σ (joinK (some f30lE) K)) (joinK (some f30lE) K))) (funext fun out4_2 => funext fun m1_0 => funext fun m1_1 => funext fun m1_2 => funext fun t2_0 => funext fun t2_1 => funext fun out4_0 => funext fun out4_1 => f30t6 N out4_2 m1_0 m1_1 m1_2 t2_0 t2_1 out4_0 out4_1 K) (by kernel_rfl) (by kernel_rfl)
noncomputable def f30c2 := codeAt (bodyOf Try.f30) [1]
noncomputable def f30p2 : Plan := .mk (some f30l1) none .n f30p4
theorem f30t2 {ρ : Type} (N : Nat) (m1_0 : Int) (m1_1 : Int) (m1_2 : List Int) (t2_0 : Int) (t2_1 : Int) (K : KT ρ) : f30i N f30c2 f30p2 (f30s1 m1_0 m1_1 m1_2 t2_0 t2_1) (joinK (some f30lE) K) =
  impl_PrincipalMatrix.Z2 N m1_0 m1_1 m1_2 t2_0 t2_1 (fun t2_2 t3 t2_0 t2_1 => K .ret (f30s6 t2_2 t3 t2_0 t2_1)) :=
  viaSeq (fun k => impl_PrincipalMatrix.Z3 N m1_0 m1_1 m1_2 t2_0 t2_1 k (fun t2_2 t3 t2_0 t2_1 => K .ret (f30s6 t2_2 t3 t2_0 t2_1))) (by kernel_rfl) (by kernel_rfl) (f30t3 N m1_0 m1_1 m1_2 t2_0 t2_1 (seqK (fun σ => f30i N f30c4 f30p4 σ (joinK (some f30lE) K)) (joinK (some f30lE) K))) (funext fun m1_0 => funext fun m1_1 => funext fun m1_2 => funext fun t2_0 => funext fun t2_1 => f30t4 N m1_0 m1_1 m1_2 t2_0 t2_1 K) (by kernel_rfl) (by kernel_rfl)
noncomputable def f30c0 := codeAt (bodyOf Try.f30) []
noncomputable def f30p0 : Plan := .mk (some f30l1) none .n f30p2
theorem f30t0 {ρ : Type} (N : Nat) (m0 : Int × Int × List Int) (K : KT ρ) : f30i N f30c0 f30p0 (f30s0 m0) (joinK (some f30lE) K) =
  impl_PrincipalMatrix.Z0 N m0 (fun t2_2 t3 t2_0 t2_1 => K .ret (f30s6 t2_2 t3 t2_0 t2_1)) :=
  viaSeq (fun k => impl_PrincipalMatrix.Z1 N m0 k) (by kernel_rfl) (by kernel_rfl) (f30t1 N m0 (seqK (fun σ => f30i N f30c2 f30p2 σ (joinK (some f30lE) K)) (joinK (some f30lE) K))) (funext fun m1_0 => funext fun m1_1 => funext fun m1_2 => funext fun t2_0 => funext fun t2_1 => f30t2 N m1_0 m1_1 m1_2 t2_0 t2_1 K) (by kernel_rfl) (by kernel_rfl)
theorem f30m (N : Nat) (m0 : Int × Int × List Int) : f30i N f30c0 f30p0 (f30s0 m0) (joinK (some f30lE) (finK tab f30sig Try.f30.results.toList)) = impl_PrincipalMatrix.Z0 N m0 (fun t2_2 t3 t2_0 t2_1 => some ((), ((t2_0, (t2_1, t2_2)), (t3, ())))) :=
  (f30t0 N m0 (finK tab f30sig Try.f30.results.toList)).trans (by kernel_rfl)
theorem f30ok (h : impl_PrincipalMatrix.Spec) : EntryOk Try.prog 30 e30 :=
  entry_of_code (sig := f30sig) (c := f30c0) (pl := f30p0) (je := (some f30lE)) (B := f30B) Try.func30 (by kernel_rfl) (by kernel_rfl) (by kernel_rfl) tabOk f30GOk (by kernel_rfl) (by kernel_rfl) (by kernel_rfl) (by kernel_rfl) fun X hb hp => by
    obtain ⟨m0, _⟩ := X
    obtain ⟨N, h⟩ := h m0 hb.1
    exact ⟨N, (f30m N m0).trans (h N (Nat.le_refl N))⟩
theorem e30ok : EntryOk Try.prog 30 e30 := f30ok impl_PrincipalMatrix.ok
end Go.Fw
set_option linter.unusedVariables false
set_option linter.unusedSimpArgs false
set_option maxRecDepth 100000
namespace Go.Fw
open Go.Proofs
/-! ### loop.example/g03115/laws.eqIntS -/
noncomputable def f44sig : Sig := ⟨[⟨.sl 3 (.int .i64), false, false⟩, ⟨.sl 3 (.int .i64), false, false⟩], [⟨.bool, false, false⟩]⟩
noncomputable def e44 : Entry := ⟨f44sig, none, fun X => ((), ((laws_eqIntS.g X.1 X.2.1), ()))⟩
noncomputable def f44G : Nat → Option Entry := (fun _ => none)
theorem f44GOk : GOk Try.prog f44G := GOk.nil
noncomputable def f44lE : Clean := ⟨[], [], [], [], []⟩
noncomputable def f44s0 (a0 : List Int) (b1 : List Int) : St := initSt f44sig.ps (a0, (b1, ()))
noncomputable def f44s1 (a0 : List Int) (b1 : List Int) : St := stOf [(0, .c (.sn 3 (.int .i64) a0 none)), (1, .c (.sn 3 (.int .i64) b1 none))] [] []
noncomputable def f44l1 : Clean := ⟨[0, 1], [], [], [], []⟩
noncomputable def f44s2 (a0 : List Int) (b1 : List Int) (i5 : Int) : St := stOf [(0, .c (.sn 3 (.int .i64) a0 none)), (1, .c (.sn 3 (.int .i64) b1 none)), (5, .c (.int .i64 i5))] [] []
noncomputable def f44l2 : Clean := ⟨[0, 1, 5], [], [], [], []⟩
noncomputable def f44s3  : St := stOf [] [] []
noncomputable def f44l3 : Clean := ⟨[], [], [], [], []⟩
noncomputable def f44s4 (t4 : Bool) : St := stOf [(4, .c (.bool t4))] [] []
noncomputable def f44l4 : Clean := ⟨[4], [], [], [], []⟩
noncomputable def f44B : Nat → Option Clean := lookL [(0, f44l3), (1000000, f44l4)]
noncomputable abbrev f44i {ρ : Type} (N : Nat) (c : Code) (p : Plan) (σ : St) (K : KT ρ) : Option ρ := iCode f44G tab f44B N c p σ K
noncomputable def f44c1 := codeAt (bodyOf Try.f44) [0]
theorem f44t1 {ρ : Type} (N : Nat) (a0 : List Int) (b1 : List Int) (K : KT ρ) : f44i N f44c1 .n (f44s0 a0 b1) (joinK (some f44l1) K) =
  laws_eqIntS.Z1 N a0 b1 (fun a0 b1 => K .nrm (f44s1 a0 b1)) := by kernel_rfl
noncomputable def f44c3 := codeAt (bodyOf Try.f44) [1,0]
theorem f44t3 {ρ : Type} (N : Nat) (a0 : List Int) (b1 : List Int) (K : KT ρ) : f44i N f44c3 .n (f44s1 a0 b1) (joinK (some f44l1) K) =
  laws_eqIntS.Z3 N a0 b1 (fun a0 b1 => K .nrm (f44s1 a0 b1)) (fun t4 => K .ret (f44s4 t4)) := by kernel_rfl
noncomputable def f44c6 := codeAt (bodyOf Try.f44) [1,1,0,0]
theorem f44t6 {ρ : Type} (N : Nat) (a0 : List Int) (b1 : List Int) (K : KT ρ) : f44i N f44c6 .n (f44s1 a0 b1) (joinK (some f44l2) K) =
  laws_eqIntS.Z6 N a0 b1 (fun a0 b1 i5 => K .nrm (f44s2 a0 b1 i5)) := by kernel_rfl
noncomputable def f44c9 := codeAt (bodyOf Try.f44) [1,1,0,1,0,0]
theorem f44t9 {ρ : Type} (N : Nat) (a0 : List Int) (b1 : List Int) (i5 : Int) (K : KT ρ) : f44i N f44c9 .n (f44s2 a0 b1 i5) (joinK (some f44l2) K) =
  laws_eqIntS.Z9 N a0 b1 i5 (fun a0 b1 i5 => K .nrm (f44s2 a0 b1 i5)) (K (.exit 0) f44s3) (fun t4 => K .ret (f44s4 t4)) := by kernel_rfl
noncomputable def f44c8 := codeAt (bodyOf Try.f44) [1,1,0,1,0]
noncomputable def f44p8 : Plan := .mk none (some f44l2) .n .n
noncomputable abbrev f44w8 {ρ : Type} (N : Nat) (M : Nat) (σ : St) (K : KT ρ) : Option ρ := loopC (fun σ K => f44i N f44c9 .n σ K) f44l2 M σ K
theorem f44t8L {ρ : Type} (N : Nat) (K : KT ρ) : ∀ (M : Nat) (a0 : List Int) (b1 : List Int) (i5 : Int), f44w8 N M (f44s2 a0 b1 i5) K =
  laws_eqIntS.Z8L N (K (.exit 0) f44s3) (fun t4 => K .ret (f44s4 t4)) M a0 b1 i5
  | 0, _, _, _ => rfl
  | M + 1, a0, b1, i5 => viaRound (fun k => laws_eqIntS.Z9 N a0 b1 i5 k (K (.exit 0) f44s3) (fun t4 => K .ret (f44s4 t4))) (f44t9 N a0 b1 i5 (seqK (fun σ => f44w8 N M σ K) K)) (funext fun a0 => funext fun b1 => funext fun i5 => f44t8L N K M a0 b1 i5) (by kernel_rfl) (by kernel_rfl)
theorem f44t8 {ρ : Type} (N : Nat) (a0 : List Int) (b1 : List Int) (i5 : Int) (K : KT ρ) : f44i N f44c8 f44p8 (f44s2 a0 b1 i5) (joinK (some f44l3) K) =
  laws_eqIntS.Z8 N a0 b1 i5 (K (.exit 0) f44s3) (fun t4 => K .ret (f44s4 t4)) :=
  viaLoop (by kernel_rfl) (by kernel_rfl) (σ' := f44s2 a0 b1 i5) (by kernel_rfl) (f44t8L N (joinK (some f44l3) K) N a0 b1 i5) (by kernel_rfl)
noncomputable def f44c7 := codeAt (bodyOf Try.f44) [1,1,0,1]
noncomputable def f44p7 : Plan := .mk (some f44l3) none f44p8 .n
theorem f44t7 {ρ : Type} (N : Nat) (a0 : List Int) (b1 : List Int) (i5 : Int) (K : KT ρ) : f44i N f44c7 f44p7 (f44s2 a0 b1 i5) (joinK (some f44l3) K) =
  laws_eqIntS.Z7 N a0 b1 i5 (K .nrm f44s3) (fun t4 => K .ret (f44s4 t4)) :=
  viaBlock (by kernel_rfl) (by kernel_rfl) (f44t8 N a0 b1 i5 (blockK 0 (joinK (some f44l3) K))) (by kernel_rfl)
noncomputable def f44c5 := codeAt (bodyOf Try.f44) [1,1,0]
noncomputable def f44p5 : Plan := .mk (some f44l2) none .n f44p7
theorem f44t5 {ρ : Type} (N : Nat) (a0 : List Int) (b1 : List Int) (K : KT ρ) : f44i N f44c5 f44p5 (f44s1 a0 b1) (joinK (some f44l3) K) =
  laws_eqIntS.Z5 N a0 b1 (K .nrm f44s3) (fun t4 => K .ret (f44s4 t4)) :=
  viaSeq (fun k => laws_eqIntS.Z6 N a0 b1 k) (by kernel_rfl) (by kernel_rfl) (f44t6 N a0 b1 (seqK (fun σ => f44i N f44c7 f44p7 σ (joinK (some f44l3) K)) (joinK (some f44l3) K))) (funext fun a0 => funext fun b1 => funext fun i5 => f44t7 N a0 b1 i5 K) (by kernel_rfl) (by kernel_rfl)
noncomputable def f44c10 := codeAt (bodyOf Try.f44) [1,1,1]
theorem f44t10 {ρ : Type} (N : Nat)  (K : KT ρ) : f44i N f44c10 .n f44s3 (joinK (some f44lE) K) =
  laws_eqIntS.Z10 N (fun t4 => K .ret (f44s4 t4)) := by kernel_rfl
noncomputable def f44c4 := codeAt (bodyOf Try.f44) [1,1]
noncomputable def f44p4 : Plan := .mk (some f44l3) none f44p5 .n
theorem f44t4 {ρ : Type} (N : Nat) (a0 : List Int) (b1 : List Int) (K : KT ρ) : f44i N f44c4 f44p4 (f44s1 a0 b1) (joinK (some f44lE) K) =
  laws_eqIntS.Z4 N a0 b1 (fun t4 => K .ret (f44s4 t4)) :=
  viaSeq (fun k => laws_eqIntS.Z5 N a0 b1 k (fun t4 => K .ret (f44s4 t4))) (by kernel_rfl) (by kernel_rfl) (f44t5 N a0 b1 (seqK (fun σ => f44i N f44c10 .n σ (joinK (some f44lE) K)) (joinK (some f44lE) K))) (f44t10 N K) (by kernel_rfl) (by kernel_rfl)
noncomputable def f44c2 := codeAt (bodyOf Try.f44) [1]
noncomputable def f44p2 : Plan := .mk (some f44l1) none .n f44p4
theorem f44t2 {ρ : Type} (N : Nat) (a0 : List Int) (b1 : List Int) (K : KT ρ) : f44i N f44c2 f44p2 (f44s1 a0 b1) (joinK (some f44lE) K) =
  laws_eqIntS.Z2 N a0 b1 (fun t4 => K .ret (f44s4 t4)) :=
  viaSeq (fun k => laws_eqIntS.Z3 N a0 b1 k (fun t4 => K .ret (f44s4 t4))) (by kernel_rfl) (by kernel_rfl) (f44t3 N a0 b1 (seqK (fun σ => f44i N f44c4 f44p4 σ (joinK (some f44lE) K)) (joinK (some f44lE) K))) (funext fun a0 => funext fun b1 => f44t4 N a0 b1 K) (by kernel_rfl) (by kernel_rfl)
noncomputable def f44c0 := codeAt (bodyOf Try.f44) []
noncomputable def f44p0 : Plan := .mk (some f44l1) none .n f44p2
theorem f44t0 {ρ : Type} (N : Nat) (a0 : List Int) (b1 : List Int) (K : KT ρ) : f44i N f44c0 f44p0 (f44s0 a0 b1) (joinK (some f44lE) K) =
  laws_eqIntS.Z0 N a0 b1 (fun t4 => K .ret (f44s4 t4)) :=
  viaSeq (fun k => laws_eqIntS.Z1 N a0 b1 k) (by kernel_rfl) (by kernel_rfl) (f44t1 N a0 b1 (seqK (fun σ => f44i N f44c2 f44p2 σ (joinK (some f44lE) K)) (joinK (some f44lE) K))) (funext fun a0 => funext fun b1 => f44t2 N a0 b1 K) (by kernel_rfl) (by kernel_rfl)
theorem f44m (N : Nat) (a0 : List Int) (b1 : List Int) : f44i N f44c0 f44p0 (f44s0 a0 b1) (joinK (some f44lE) (finK tab f44sig Try.f44.results.toList)) = laws_eqIntS.Z0 N a0 b1 (fun t4 => some ((), (t4, ()))) :=
  (f44t0 N a0 b1 (finK tab f44sig Try.f44.results.toList)).trans (by kernel_rfl)
theorem f44ok (h : laws_eqIntS.Spec) : EntryOk Try.prog 44 e44 :=
  entry_of_code (sig := f44sig) (c := f44c0) (pl := f44p0) (je := (some f44lE)) (B := f44B) Try.func44 (by kernel_rfl) (by kernel_rfl) (by kernel_rfl) tabOk f44GOk (by kernel_rfl) (by kernel_rfl) (by kernel_rfl) (by kernel_rfl) fun X hb hp => by
    obtain ⟨a0, b1, _⟩ := X
    obtain ⟨N, h⟩ := h a0 b1 hb.1 hb.2.1
    exact ⟨N, (f44m N a0 b1).trans (h N (Nat.le_refl N))⟩
theorem e44ok : EntryOk Try.prog 44 e44 := f44ok laws_eqIntS.ok
end Go.Fw
set_option linter.unusedVariables false
set_option linter.unusedSimpArgs false
set_option maxRecDepth 100000
namespace Go.Fw
open Go.Proofs
/-! ### loop.example/g03115/laws.eqMatrix -/
noncomputable def f31sig : Sig := ⟨[⟨.pair (.int .i64) (.pair (.int .i64) (.sl 3 (.int .i64))), true, false⟩, ⟨.pair (.int .i64) (.pair (.int .i64) (.sl 3 (.int .i64))), true, false⟩], [⟨.bool, false, false⟩]⟩
noncomputable def e31 : Entry := ⟨f31sig, none, fun X => ((), ((laws_eqMatrix.g X.1 X.2.1), ()))⟩
noncomputable def f31G : Nat → Option Entry := addG (fun _ => none) 44 e44
theorem f31GOk : GOk Try.prog f31G := (GOk.nil).add e44ok (by kernel_rfl)
noncomputable def f31lE : Clean := ⟨[], [], [], [], []⟩
noncomputable def f31s0 (a0 : Int × Int × List Int) (b1 : Int × Int × List Int) : St := initSt f31sig.ps (a0, (b1, ()))
noncomputable def f31s1 (t4 : Bool) : St := stOf [(4, .c (.bool t4))] [] []
noncomputable def f31l1 : Clean := ⟨[4], [], [], [], []⟩
noncomputable def f31B : Nat → Option Clean := lookL [(1000000, f31l1)]
noncomputable abbrev f31i {ρ : Type} (N : Nat) (c : Code) (p : Plan) (σ : St) (K : KT ρ) : Option ρ := iCode f31G tab f31B N c p σ K
noncomputable def f31c0 := codeAt (bodyOf Try.f31) []
theorem f31t0 {ρ : Type} (N : Nat) (a0 : Int × Int × List Int) (b1 : Int × Int × List Int) (K : KT ρ) : f31i N f31c0 .n (f31s0 a0 b1) (joinK (some f31lE) K) =
  laws_eqMatrix.Z0 N a0 b1 (fun t4 => K .ret (f31s1 t4)) := by kernel_rfl
theorem f31m (N : Nat) (a0 : Int × Int × List Int) (b1 : Int × Int × List Int) : f31i N f31c0 .n (f31s0 a0 b1) (joinK (some f31lE) (finK tab f31sig Try.f31.results.toList)) = laws_eqMatrix.Z0 N a0 b1 (fun t4 => some ((), (t4, ()))) :=
  (f31t0 N a0 b1 (finK tab f31sig Try.f31.results.toList)).trans (by kernel_rfl)
theorem f31ok (h : laws_eqMatrix.Spec) : EntryOk Try.prog 31 e31 :=
  entry_of_code (sig := f31sig) (c := f31c0) (pl := .n) (je := (some f31lE)) (B := f31B) Try.func31 (by kernel_rfl) (by kernel_rfl) (by kernel_rfl) tabOk f31GOk (by kernel_rfl) (by kernel_rfl) (by kernel_rfl) (by kernel_rfl) fun X hb hp => by
    obtain ⟨a0, b1, _⟩ := X
    obtain ⟨N, h⟩ := h a0 b1 hb.1 hb.2.1
    exact ⟨N, (f31m N a0 b1).trans (h N (Nat.le_refl N))⟩
theorem e31ok : EntryOk Try.prog 31 e31 := f31ok laws_eqMatrix.ok
end Go.Fw
set_option linter.unusedVariables false
set_option linter.unusedSimpArgs false
set_option maxRecDepth 100000
namespace Go.Fw
open Go.Proofs
/-! ### loop.example/g03115/laws.markIntS -/
noncomputable def f45sig : Sig := ⟨[⟨.sl 3 (.int .i64), false, true⟩, ⟨.int .i64, false, false⟩], [⟨.int .i64, false, false⟩]⟩
noncomputable def e45 : Entry := ⟨f45sig, none, fun X => ((laws_markIntS.g X.1 X.2.1).1, ((laws_markIntS.g X.1 X.2.1).2, ()))⟩
noncomputable def f45G : Nat → Option Entry := (fun _ => none)
theorem f45GOk : GOk Try.prog f45G := GOk.nil
noncomputable def f45lE : Clean := ⟨[], [], [], [], []⟩
noncomputable def f45s0 (a0 : List Int) (k1 : Int) : St := initSt f45sig.ps (a0, (k1, ()))
noncomputable def f45s1 (a0 : List Int) (k1 : Int) : St := stOf [(0, .c (.own 1000000)), (1, .c (.int .i64 k1)), (100000, .c (.own 1000000))] [] [(1000000, (⟨3, .int .i64, a0, true, false⟩ : Row))]
noncomputable def f45l1 : Clean := ⟨[0, 1, 100000], [], [], [], [(⟨false, 0, 0⟩, 1000000)]⟩
noncomputable def f45s2 (a0 : List Int) (k1 : Int) (i5 : Int) : St := stOf [(0, .c (.own 1000000)), (1, .c (.int .i64 k1)), (5, .c (.int .i64 i5)), (100000, .c (.own 1000000))] [] [(1000000, (⟨3, .int .i64, a0, true, false⟩ : Row))]
noncomputable def f45l2 : Clean := ⟨[0, 1, 5, 100000], [], [], [], [(⟨false, 0, 0⟩, 1000000)]⟩
noncomputable def f45s3 (io100000 : List Int) (k1 : Int) : St := stOf [(1, .c (.int .i64 k1)), (100000, .c (.own 7400000))] [] [(7400000, (⟨3, .int .i64, io100000, true, false⟩ : Row))]
noncomputable def f45l3 : Clean := ⟨[1, 100000], [], [], [], [(⟨false, 100000, 0⟩, 7400000)]⟩
noncomputable def f45s4 (io100000 : List Int) (t4 : Int) : St := stOf [(4, .c (.int .i64 t4)), (100000, .c (.own 7400000))] [] [(7400000, (⟨3, .int .i64, io100000, true, false⟩ : Row))]
noncomputable def f45l4 : Clean := ⟨[4, 100000], [], [], [], [(⟨false, 100000, 0⟩, 7400000)]⟩
noncomputable def f45B : Nat → Option Clean := lookL [(0, f45l3), (1000000, f45l4)]
noncomputable abbrev f45i {ρ : Type} (N : Nat) (c : Code) (p : Plan) (σ : St) (K : KT ρ) : Option ρ := iCode f45G tab f45B N c p σ K
noncomputable def f45c1 := codeAt (bodyOf Try.f45) [0]
theorem f45t1 {ρ : Type} (N : Nat) (a0 : List Int) (k1 : Int) (K : KT ρ) : f45i N f45c1 .n (f45s0 a0 k1) (joinK (some f45l1) K) =
  laws_markIntS.Z1 N a0 k1 (fun a0 k1 => K .nrm (f45s1 a0 k1)) := by kernel_rfl
noncomputable def f45c4 := codeAt (bodyOf Try.f45) [1,0,0]
theorem f45t4 {ρ : Type} (N : Nat) (a0 : List Int) (k1 : Int) (K : KT ρ) : f45i N f45c4 .n (f45s1 a0 k1) (joinK (some f45l2) K) =
  laws_markIntS.Z4 N a0 k1 (fun a0 k1 i5 => K .nrm (f45s2 a0 k1 i5)) := by kernel_rfl
noncomputable def f45c7 := codeAt (bodyOf Try.f45) [1,0,1,0,0]
theorem f45t7 {ρ : Type} (N : Nat) (a0 : List Int) (k1 : Int) (i5 : Int) (K : KT ρ) : f45i N f45c7 .n (f45s2 a0 k1 i5) (joinK (some f45l2) K) =
  laws_markIntS.Z7 N a0 k1 i5 (fun a0 k1 i5 => K .nrm (f45s2 a0 k1 i5)) (fun io100000 k1 => K (.exit 0) (f45s3 io100000 k1)) := by kernel_rfl
noncomputable def f45c6 := codeAt (bodyOf Try.f45) [1,0,1,0]
noncomputable def f45p6 : Plan := .mk none (some f45l2) .n .n
noncomputable abbrev f45w6 {ρ : Type} (N : Nat) (M : Nat) (σ : St) (K : KT ρ) : Option ρ := loopC (fun σ K => f45i N f45c7 .n σ K) f45l2 M σ K
theorem f45t6L {ρ : Type} (N : Nat) (K : KT ρ) : ∀ (M : Nat) (a0 : List Int) (k1 : Int) (i5 : Int), f45w6 N M (f45s2 a0 k1 i5) K =
  laws_markIntS.Z6L N (fun io100000 k1 => K (.exit 0) (f45s3 io100000 k1)) M a0 k1 i5
  | 0, _, _, _ => rfl
  | M + 1, a0, k1, i5 => viaRound (fun k => laws_markIntS.Z7 N a0 k1 i5 k (fun io100000 k1 => K (.exit 0) (f45s3 io100000 k1))) (f45t7 N a0 k1 i5 (seqK (fun σ => f45w6 N M σ K) K)) (funext fun a0 => funext fun k1 => funext fun i5 => f45t6L N K M a0 k1 i5) (by kernel_rfl) (by kernel_rfl)
theorem f45t6 {ρ : Type} (N : Nat) (a0 : List Int) (k1 : Int) (i5 : Int) (K : KT ρ) : f45i N f45c6 f45p6 (f45s2 a0 k1 i5) (joinK (some f45l3) K) =
  laws_markIntS.Z6 N a0 k1 i5 (fun io100000 k1 => K (.exit 0) (f45s3 io100000 k1)) :=
  viaLoop (by kernel_rfl) (by kernel_rfl) (σ' := f45s2 a0 k1 i5) (by kernel_rfl) (f45t6L N (joinK (some f45l3) K) N a0 k1 i5) (by kernel_rfl)
noncomputable def f45c5 := codeAt (bodyOf Try.f45) [1,0,1]
noncomputable def f45p5 : Plan := .mk (some f45l3) none f45p6 .n
theorem f45t5 {ρ : Type} (N : Nat) (a0 : List Int) (k1 : Int) (i5 : Int) (K : KT ρ) : f45i N f45c5 f45p5 (f45s2 a0 k1 i5) (joinK (some f45l3) K) =
  laws_markIntS.Z5 N a0 k1 i5 (fun io100000 k1 => K .nrm (f45s3 io100000 k1)) :=
  viaBlock (by kernel_rfl) (by kernel_rfl) (f45t6 N a0 k1 i5 (blockK 0 (joinK (some f45l3) K))) (by kernel_rfl)
noncomputable def f45c3 := codeAt (bodyOf Try.f45) [1,0]
noncomputable def f45p3 : Plan := .mk (some f45l2) none .n f45p5
theorem f45t3 {ρ : Type} (N : Nat) (a0 : List Int) (k1 : Int) (K : KT ρ) : f45i N f45c3 f45p3 (f45s1 a0 k1) (joinK (some f45l3) K) =
  laws_markIntS.Z3 N a0 k1 (fun io100000 k1 => K .nrm (f45s3 io100000 k1)) :=
  viaSeq (fun k => laws_markIntS.Z4 N a0 k1 k) (by kernel_rfl) (by kernel_rfl) (f45t4 N a0 k1 (seqK (fun σ => f45i N f45c5 f45p5 σ (joinK (some f45l3) K)) (joinK (some f45l3) K))) (funext fun a0 => funext fun k1 => funext fun i5 => f45t5 N a0 k1 i5 K) (by kernel_rfl) (by kernel_rfl)
noncomputable def f45c8 := codeAt (bodyOf Try.f45) [1,1]
theorem f45t8 {ρ : Type} (N : Nat) (io100000 : List Int) (k1 : Int) (K : KT ρ) : f45i N f45c8 .n (f45s3 io100000 k1) (joinK (some f45lE) K) =
  laws_markIntS.Z8 N io100000 k1 (fun io100000 t4 => K .ret (f45s4 io100000 t4)) := by kernel_rfl
noncomputable def f45c2 := codeAt (bodyOf Try.f45) [1]
noncomputable def f45p2 : Plan := .mk (some f45l3) none f45p3 .n
theorem f45t2 {ρ : Type} (N : Nat) (a0 : List Int) (k1 : Int) (K : KT ρ) : f45i N f45c2 f45p2 (f45s1 a0 k1) (joinK (some f45lE) K) =
  laws_markIntS.Z2 N a0 k1 (fun io100000 t4 => K .ret (f45s4 io100000 t4)) :=
  viaSeq (fun k => laws_markIntS.Z3 N a0 k1 k) (by kernel_rfl) (by kernel_rfl) (f45t3 N a0 k1 (seqK (fun σ => f45i N f45c8 .n σ (joinK (some f45lE) K)) (joinK (some f45lE) K))) (funext fun io100000 => funext fun k1 => f45t8 N io100000 k1 K) (by kernel_rfl) (by kernel_rfl)
noncomputable def f45c0 := codeAt (bodyOf Try.f45) []
noncomputable def f45p0 : Plan := .mk (some f45l1) none .n f45p2
theorem f45t0 {ρ : Type} (N : Nat) (a0 : List Int) (k1 : Int) (K : KT ρ) : f45i N f45c0 f45p0 (f45s0 a0 k1) (joinK (some f45lE) K) =
  laws_markIntS.Z0 N a0 k1 (fun io100000 t4 => K .ret (f45s4 io100000 t4)) :=
  viaSeq (fun k => laws_markIntS.Z1 N a0 k1 k) (by kernel_rfl) (by kernel_rfl) (f45t1 N a0 k1 (seqK (fun σ => f45i N f45c2 f45p2 σ (joinK (some f45lE) K)) (joinK (some f45lE) K))) (funext fun a0 => funext fun k1 => f45t2 N a0 k1 K) (by kernel_rfl) (by kernel_rfl)
theorem f45m (N : Nat) (a0 : List Int) (k1 : Int) : f45i N f45c0 f45p0 (f45s0 a0 k1) (joinK (some f45lE) (finK tab f45sig Try.f45.results.toList)) = laws_markIntS.Z0 N a0 k1 (fun io100000 t4 => some (io100000, (t4, ()))) :=
  (f45t0 N a0 k1 (finK tab f45sig Try.f45.results.toList)).trans (by kernel_rfl)
theorem f45ok (h : laws_markIntS.Spec) : EntryOk Try.prog 45 e45 :=
  entry_of_code (sig := f45sig) (c := f45c0) (pl := f45p0) (je := (some f45lE)) (B := f45B) Try.func45 (by kernel_rfl) (by kernel_rfl) (by kernel_rfl) tabOk f45GOk (by kernel_rfl) (by kernel_rfl) (by kernel_rfl) (by kernel_rfl) fun X hb hp => by
    obtain ⟨a0, k1, _⟩ := X
    obtain ⟨N, h⟩ := h a0 k1 hb.1
    exact ⟨N, (f45m N a0 k1).trans (h N (Nat.le_refl N))⟩
theorem e45ok : EntryOk Try.prog 45 e45 := f45ok laws_markIntS.ok
end Go.Fw
set_option linter.unusedVariables false
set_option linter.unusedSimpArgs false
set_option maxRecDepth 100000
namespace Go.Fw
open Go.Proofs
/-! ### loop.example/g03115/laws.markMatrix -/
noncomputable def f32sig : Sig := ⟨[⟨.pair (.int .i64) (.pair (.int .i64) (.sl 3 (.int .i64))), true, true⟩, ⟨.int .i64, false, false⟩], [⟨.int .i64, false, false⟩]⟩
noncomputable def e32 : Entry := ⟨f32sig, none, fun X => ((laws_markMatrix.g X.1 X.2.1).1, ((laws_markMatrix.g X.1 X.2.1).2, ()))⟩
noncomputable def f32G : Nat → Option Entry := addG (fun _ => none) 45 e45
theorem f32GOk : GOk Try.prog f32G := (GOk.nil).add e45ok (by kernel_rfl)
noncomputable def f32lE : Clean := ⟨[], [], [], [], []⟩
noncomputable def f32s0 (a0 : Int × Int × List Int) (k1 : Int) : St := initSt f32sig.ps (a0, (k1, ()))
noncomputable def f32s1 (io100000_2 : List Int) (t4 : Int) (io100000_0 : Int) (io100000_1 : Int) : St := stOf [(4, .c (.int .i64 t4)), (100000, .agg [.int .i64 io100000_0, .int .i64 io100000_1, .own 7400002])] [] [(7400002, (⟨3, .int .i64, io100000_2, true, false⟩ : Row))]
noncomputable def f32l1 : Clean := ⟨[4, 100000], [], [], [], [(⟨false, 100000, 2⟩, 7400002)]⟩
noncomputable def f32B : Nat → Option Clean := lookL [(1000000, f32l1)]
noncomputable abbrev f32i {ρ : Type} (N : Nat) (c : Code) (p : Plan) (σ : St) (K : KT ρ) : Option ρ := iCode f32G tab f32B N c p σ K
noncomputable def f32c0 := codeAt (bodyOf Try.f32) []
theorem f32t0 {ρ : Type} (N : Nat) (a0 : Int × Int × List Int) (k1 : Int) (K : KT ρ) : f32i N f32c0 .n (f32s0 a0 k1) (joinK (some f32lE) K) =
  laws_markMatrix.Z0 N a0 k1 (fun io100000_2 t4 io100000_0 io100000_1 => K .ret (f32s1 io100000_2 t4 io100000_0 io100000_1)) := by kernel_rfl
theorem f32m (N : Nat) (a0 : Int × Int × List Int) (k1 : Int) : f32i N f32c0 .n (f32s0 a0 k1) (joinK (some f32lE) (finK tab f32sig Try.f32.results.toList)) = laws_markMatrix.Z0 N a0 k1 (fun io100000_2 t4 io100000_0 io100000_1 => some ((io100000_0, (io100000_1, io100000_2)), (t4, ()))) :=
  (f32t0 N a0 k1 (finK tab f32sig Try.f32.results.toList)).trans (by kernel_rfl)
theorem f32ok (h : laws_markMatrix.Spec) : EntryOk Try.prog 32 e32 :=
  entry_of_code (sig := f32sig) (c := f32c0) (pl := .n) (je := (some f32lE)) (B := f32B) Try.func32 (by kernel_rfl) (by kernel_rfl) (by kernel_rfl) tabOk f32GOk (by kernel_rfl) (by kernel_rfl) (by kernel_rfl) (by kernel_rfl) fun X hb hp => by
    obtain ⟨a0, k1, _⟩ := X
    obtain ⟨N, h⟩ := h a0 k1 hb.1
    exact ⟨N, (f32m N a0 k1).trans (h N (Nat.le_refl N))⟩
theorem e32ok : EntryOk Try.prog 32 e32 := f32ok laws_markMatrix.ok
end Go.Fw
set_option linter.unusedVariables false
set_option linter.unusedSimpArgs false
set_option maxRecDepth 100000
namespace Go.Fw
open Go.Proofs
/-! ### loop.example/g03115/laws.heldIntS -/
noncomputable def f73sig : Sig := ⟨[⟨.sl 3 (.int .i64), false, false⟩, ⟨.int .i64, false, false⟩], [⟨.int .i64, false, false⟩]⟩
noncomputable def e73 : Entry := ⟨f73sig, none, fun X => ((), ((laws_heldIntS.g X.1 X.2.1), ()))⟩
noncomputable def f73G : Nat → Option Entry := (fun _ => none)
theorem f73GOk : GOk Try.prog f73G := GOk.nil
noncomputable def f73lE : Clean := ⟨[], [], [], [], []⟩
noncomputable def f73s0 (a0 : List Int) (k1 : Int) : St := initSt f73sig.ps (a0, (k1, ()))
noncomputable def f73s1 (a0 : List Int) (k1 : Int) : St := stOf [(0, .c (.sn 3 (.int .i64) a0 none)), (1, .c (.int .i64 k1))] [] []
noncomputable def f73l1 : Clean := ⟨[0, 1], [], [], [], []⟩
noncomputable def f73s2 (a0 : List Int) (k1 : Int) (i5 : Int) : St := stOf [(0, .c (.sn 3 (.int .i64) a0 none)), (1, .c (.int .i64 k1)), (5, .c (.int .i64 i5))] [] []
noncomputable def f73l2 : Clean := ⟨[0, 1, 5], [], [], [], []⟩
noncomputable def f73s3 (k1 : Int) : St := stOf [(1, .c (.int .i64 k1))] [] []
noncomputable def f73l3 : Clean := ⟨[1], [], [], [], []⟩
noncomputable def f73s4 (t4 : Int) : St := stOf [(4, .c (.int .i64 t4))] [] []
noncomputable def f73l4 : Clean := ⟨[4], [], [], [], []⟩
noncomputable def f73B : Nat → Option Clean := lookL [(0, f73l3), (1000000, f73l4)]
noncomputable abbrev f73i {ρ : Type} (N : Nat) (c : Code) (p : Plan) (σ : St) (K : KT ρ) : Option ρ := iCode f73G tab f73B N c p σ K
noncomputable def f73c1 := codeAt (bodyOf Try.f73) [0]
theorem f73t1 {ρ : Type} (N : Nat) (a0 : List Int) (k1 : Int) (K : KT ρ) : f73i N f73c1 .n (f73s0 a0 k1) (joinK (some f73l1) K) =
  laws_heldIntS.Z1 N a0 k1 (fun a0 k1 => K .nrm (f73s1 a0 k1)) := by kernel_rfl
noncomputable def f73c4 := codeAt (bodyOf Try.f73) [1,0,0]
theorem f73t4 {ρ : Type} (N : Nat) (a0 : List Int) (k1 : Int) (K : KT ρ) : f73i N f73c4 .n (f73s1 a0 k1) (joinK (some f73l2) K) =
  laws_heldIntS.Z4 N a0 k1 (fun a0 k1 i5 => K .nrm (f73s2 a0 k1 i5)) := by kernel_rfl
noncomputable def f73c7 := codeAt (bodyOf Try.f73) [1,0,1,0,0]
theorem f73t7 {ρ : Type} (N : Nat) (a0 : List Int) (k1 : Int) (i5 : Int) (K : KT ρ) : f73i N f73c7 .n (f73s2 a0 k1 i5) (joinK (some f73l2) K) =
  laws_heldIntS.Z7 N a0 k1 i5 (fun a0 k1 i5 => K .nrm (f73s2 a0 k1 i5)) (fun k1 => K (.exit 0) (f73s3 k1)) (fun t4 => K .ret (f73s4 t4)) := by kernel_rfl
noncomputable def f73c6 := codeAt (bodyOf Try.f73) [1,0,1,0]
noncomputable def f73p6 : Plan := .mk none (some f73l2) .n .n
noncomputable abbrev f73w6 {ρ : Type} (N : Nat) (M : Nat) (σ : St) (K : KT ρ) : Option ρ := loopC (fun σ K => f73i N f73c7 .n σ K) f73l2 M σ K
theorem f73t6L {ρ : Type} (N : Nat) (K : KT ρ) : ∀ (M : Nat) (a0 : List Int) (k1 : Int) (i5 : Int), f73w6 N M (f73s2 a0 k1 i5) K =
  laws_heldIntS.Z6L N (fun k1 => K (.exit 0) (f73s3 k1)) (fun t4 => K .ret (f73s4 t4)) M a0 k1 i5
  | 0, _, _, _ => rfl
  | M + 1, a0, k1, i5 => viaRound (fun k => laws_heldIntS.Z7 N a0 k1 i5 k (fun k1 => K (.exit 0) (f73s3 k1)) (fun t4 => K .ret (f73s4 t4))) (f73t7 N a0 k1 i5 (seqK (fun σ => f73w6 N M σ K) K)) (funext fun a0 => funext fun k1 => funext fun i5 => f73t6L N K M a0 k1 i5) (by kernel_rfl) (by kernel_rfl)
theorem f73t6 {ρ : Type} (N : Nat) (a0 : List Int) (k1 : Int) (i5 : Int) (K : KT ρ) : f73i N f73c6 f73p6 (f73s2 a0 k1 i5) (joinK (some f73l3) K) =
  laws_heldIntS.Z6 N a0 k1 i5 (fun k1 => K (.exit 0) (f73s3 k1)) (fun t4 => K .ret (f73s4 t4)) :=
  viaLoop (by kernel_rfl) (by kernel_rfl) (σ' := f73s2 a0 k1 i5) (by kernel_rfl) (f73t6L N (joinK (some f73l3) K) N a0 k1 i5) (by kernel_rfl)
noncomputable def f73c5 := codeAt (bodyOf Try.f73) [1,0,1]
noncomputable def f73p5 : Plan := .mk (some f73l3) none f73p6 .n
theorem f73t5 {ρ : Type} (N : Nat) (a0 : List Int) (k1 : Int) (i5 : Int) (K : KT ρ) : f73i N f73c5 f73p5 (f73s2 a0 k1 i5) (joinK (some f73l3) K) =
  laws_heldIntS.Z5 N a0 k1 i5 (fun k1 => K .nrm (f73s3 k1)) (fun t4 => K .ret (f73s4 t4)) :=
  viaBlock (by kernel_rfl) (by kernel_rfl) (f73t6 N a0 k1 i5 (blockK 0 (joinK (some f73l3) K))) (by kernel_rfl)
noncomputable def f73c3 := codeAt (bodyOf Try.f73) [1,0]
noncomputable def f73p3 : Plan := .mk (some f73l2) none .n f73p5
theorem f73t3 {ρ : Type} (N : Nat) (a0 : List Int) (k1 : Int) (K : KT ρ) : f73i N f73c3 f73p3 (f73s1 a0 k1) (joinK (some f73l3) K) =
  laws_heldIntS.Z3 N a0 k1 (fun k1 => K .nrm (f73s3 k1)) (fun t4 => K .ret (f73s4 t4)) :=
  viaSeq (fun k => laws_heldIntS.Z4 N a0 k1 k) (by kernel_rfl) (by kernel_rfl) (f73t4 N a0 k1 (seqK (fun σ => f73i N f73c5 f73p5 σ (joinK (some f73l3) K)) (joinK (some f73l3) K))) (funext fun a0 => funext fun k1 => funext fun i5 => f73t5 N a0 k1 i5 K) (by kernel_rfl) (by kernel_rfl)
noncomputable def f73c8 := codeAt (bodyOf Try.f73) [1,1]
theorem f73t8 {ρ : Type} (N : Nat) (k1 : Int) (K : KT ρ) : f73i N f73c8 .n (f73s3 k1) (joinK (some f73lE) K) =
  laws_heldIntS.Z8 N k1 (fun t4 => K .ret (f73s4 t4)) := by kernel_rfl
noncomputable def f73c2 := codeAt (bodyOf Try.f73) [1]
noncomputable def f73p2 : Plan := .mk (some f73l3) none f73p3 .n
theorem f73t2 {ρ : Type} (N : Nat) (a0 : List Int) (k1 : Int) (K : KT ρ) : f73i N f73c2 f73p2 (f73s1 a0 k1) (joinK (some f73lE) K) =
  laws_heldIntS.Z2 N a0 k1 (fun t4 => K .ret (f73s4 t4)) :=
  viaSeq (fun k => laws_heldIntS.Z3 N a0 k1 k (fun t4 => K .ret (f73s4 t4))) (by kernel_rfl) (by kernel_rfl) (f73t3 N a0 k1 (seqK (fun σ => f73i N f73c8 .n σ (joinK (some f73lE) K)) (joinK (some f73lE) K))) (funext fun k1 => f73t8 N k1 K) (by kernel_rfl) (by kernel_rfl)
noncomputable def f73c0 := codeAt (bodyOf Try.f73) []
noncomputable def f73p0 : Plan := .mk (some f73l1) none .n f73p2
theorem f73t0 {ρ : Type} (N : Nat) (a0 : List Int) (k1 : Int) (K : KT ρ) : f73i N f73c0 f73p0 (f73s0 a0 k1) (joinK (some f73lE) K) =
  laws_heldIntS.Z0 N a0 k1 (fun t4 => K .ret (f73s4 t4)) :=
  viaSeq (fun k => laws_heldIntS.Z1 N a0 k1 k) (by kernel_rfl) (by kernel_rfl) (f73t1 N a0 k1 (seqK (fun σ => f73i N f73c2 f73p2 σ (joinK (some f73lE) K)) (joinK (some f73lE) K))) (funext fun a0 => funext fun k1 => f73t2 N a0 k1 K) (by kernel_rfl) (by kernel_rfl)
theorem f73m (N : Nat) (a0 : List Int) (k1 : Int) : f73i N f73c0 f73p0 (f73s0 a0 k1) (joinK (some f73lE) (finK tab f73sig Try.f73.results.toList)) = laws_heldIntS.Z0 N a0 k1 (fun t4 => some ((), (t4, ()))) :=
  (f73t0 N a0 k1 (finK tab f73sig Try.f73.results.toList)).trans (by kernel_rfl)
theorem f73ok (h : laws_heldIntS.Spec) : EntryOk Try.prog 73 e73 :=
  entry_of_code (sig := f73sig) (c := f73c0) (pl := f73p0) (je := (some f73lE)) (B := f73B) Try.func73 (by kernel_rfl) (by kernel_rfl) (by kernel_rfl) tabOk f73GOk (by kernel_rfl) (by kernel_rfl) (by kernel_rfl) (by kernel_rfl) fun X hb hp => by
    obtain ⟨a0, k1, _⟩ := X
    obtain ⟨N, h⟩ := h a0 k1 hb.1
    exact ⟨N, (f73m N a0 k1).trans (h N (Nat.le_refl N))⟩
theorem e73ok : EntryOk Try.prog 73 e73 := f73ok laws_heldIntS.ok
end Go.Fw
set_option linter.unusedVariables false
set_option linter.unusedSimpArgs false
set_option maxRecDepth 100000
namespace Go.Fw
open Go.Proofs
/-! ### loop.example/g03115/laws.heldMatrix -/
noncomputable def f33sig : Sig := ⟨[⟨.pair (.int .i64) (.pair (.int .i64) (.sl 3 (.int .i64))), true, false⟩, ⟨.int .i64, false, false⟩], [⟨.int .i64, false, false⟩]⟩
noncomputable def e33 : Entry := ⟨f33sig, none, fun X => ((), ((laws_heldMatrix.g X.1 X.2.1), ()))⟩
noncomputable def f33G : Nat → Option Entry := addG (fun _ => none) 73 e73
theorem f33GOk : GOk Try.prog f33G := (GOk.nil).add e73ok (by kernel_rfl)
noncomputable def f33lE : Clean := ⟨[], [], [], [], []⟩
noncomputable def f33s0 (a0 : Int × Int × List Int) (k1 : Int) : St := initSt f33sig.ps (a0, (k1, ()))
noncomputable def f33s1 (t4 : Int) : St := stOf [(4, .c (.int .i64 t4))] [] []
noncomputable def f33l1 : Clean := ⟨[4], [], [], [], []⟩
noncomputable def f33B : Nat → Option Clean := lookL [(1000000, f33l1)]
noncomputable abbrev f33i {ρ : Type} (N : Nat) (c : Code) (p : Plan) (σ : St) (K : KT ρ) : Option ρ := iCode f33G tab f33B N c p σ K
noncomputable def f33c0 := codeAt (bodyOf Try.f33) []
theorem f33t0 {ρ : Type} (N : Nat) (a0 : Int × Int × List Int) (k1 : Int) (K : KT ρ) : f33i N f33c0 .n (f33s0 a0 k1) (joinK (some f33lE) K) =
  laws_heldMatrix.Z0 N a0 k1 (fun t4 => K .ret (f33s1 t4)) := by kernel_rfl
theorem f33m (N : Nat) (a0 : Int × Int × List Int) (k1 : Int) : f33i N f33c0 .n (f33s0 a0 k1) (joinK (some f33lE) (finK tab f33sig Try.f33.results.toList)) = laws_heldMatrix.Z0 N a0 k1 (fun t4 => some ((), (t4, ()))) :=
  (f33t0 N a0 k1 (finK tab f33sig Try.f33.results.toList)).trans (by kernel_rfl)
theorem f33ok (h : laws_heldMatrix.Spec) : EntryOk Try.prog 33 e33 :=
  entry_of_code (sig := f33sig) (c := f33c0) (pl := .n) (je := (some f33lE)) (B := f33B) Try.func33 (by kernel_rfl) (by kernel_rfl) (by kernel_rfl) tabOk f33GOk (by kernel_rfl) (by kernel_rfl) (by kernel_rfl) (by kernel_rfl) fun X hb hp => by
    obtain ⟨a0, k1, _⟩ := X
    obtain ⟨N, h⟩ := h a0 k1 hb.1
    exact ⟨N, (f33m N a0 k1).trans (h N (Nat.le_refl N))⟩
theorem e33ok : EntryOk Try.prog 33 e33 := f33ok laws_heldMatrix.ok
end Go.Fw
set_option linter.unusedVariables false
set_option linter.unusedSimpArgs false
set_option maxRecDepth 100000
namespace Go.Fw
open Go.Proofs
/-! ### loop.example/g03115/laws.FnExactPrincipalMatrix -/
noncomputable def f5sig : Sig := ⟨[⟨.pair (.int .i64) (.pair (.int .i64) (.sl 3 (.int .i64))), true, false⟩], [⟨.bool, false, false⟩]⟩
noncomputable def e5 : Entry := ⟨f5sig, none, fun X => ((), ((laws_FnExactPrincipalMatrix.g X.1), ()))⟩
noncomputable def f5G : Nat → Option Entry := addG (addG (addG (addG (addG (addG (addG (fun _ => none) 27 e27) 28 e28) 29 e29) 30 e30) 31 e31) 32 e32) 33 e33
theorem f5GOk : GOk Try.prog f5G := (((((((GOk.nil).add e27ok (by kernel_rfl)).add e28ok (by kernel_rfl)).add e29ok (by kernel_rfl)).add e30ok (by kernel_rfl)).add e31ok (by kernel_rfl)).add e32ok (by kernel_rfl)).add e33ok (by kernel_rfl)
noncomputable def f5lE : Clean := ⟨[], [], [], [], []⟩
noncomputable def f5s0 (aM0 : Int × Int × List Int) : St := initSt f5sig.ps (aM0, ())
noncomputable def f5s1 (aM1_0 : Int) (aM1_1 : Int) (aM1_2 : List Int) : St := stOf [(1, .c (.box 1 0))] [(1, (41, [.int .i64 aM1_0, .int .i64 aM1_1, .sn 3 (.int .i64) aM1_2 none]))] []
noncomputable def f5l1 : Clean := ⟨[1], [1], [], [], []⟩
noncomputable def f5s2 (left3 : Int) (aM1_0 : Int) (aM1_1 : Int) (aM1_2 : List Int) : St := stOf [(1, .c (.box 1 0)), (3, .c (.int .i64 left3))] [(1, (41, [.int .i64 aM1_0, .int .i64 aM1_1, .sn 3 (.int .i64) aM1_2 none]))] []
noncomputable def f5l2 : Clean := ⟨[1, 3], [1], [], [], []⟩
noncomputable def f5s3 (w04_2 : List Int) (w15 : Bool) (aM1_0 : Int) (aM1_1 : Int) (aM1_2 : List Int) (w04_0 : Int) (w04_1 : Int) : St := stOf [(1, .c (.box 1 0)), (4, .c (.box 4 0)), (5, .c (.bool w15))] [(1, (41, [.int .i64 aM1_0, .int .i64 aM1_1, .sn 3 (.int .i64) aM1_2 none])), (4, (26, [.int .i64 w04_0, .int .i64 w04_1, .own 20000258]))] [(20000258, (⟨3, .int .i64, w04_2, true, false⟩ : Row))]
noncomputable def f5l3 : Clean := ⟨[1, 4, 5], [1, 4], [], [], [(⟨true, 4, 2⟩, 20000258)]⟩
noncomputable def f5s4 (w04_2 : List Int) (x06_2 : List Int) (w15 : Bool) (aM1_0 : Int) (aM1_1 : Int) (aM1_2 : List Int) (w04_0 : Int) (w04_1 : Int) (x06_0 : Int) (x06_1 : Int) : St := stOf [(1, .c (.box 1 0)), (4, .c (.box 4 0)), (5, .c (.bool w15)), (6, .c (.box 6 0))] [(1, (41, [.int .i64 aM1_0, .int .i64 aM1_1, .sn 3 (.int .i64) aM1_2 none])), (4, (26, [.int .i64 w04_0, .int .i64 w04_1, .own 20000258])), (6, (26, [.int .i64 x06_0, .int .i64 x06_1, .own 20000386]))] [(20000258, (⟨3, .int .i64, w04_2, true, false⟩ : Row)), (20000386, (⟨3, .int .i64, x06_2, true, false⟩ : Row))]
noncomputable def f5l4 : Clean := ⟨[1, 4, 5, 6], [1, 4, 6], [], [], [(⟨true, 4, 2⟩, 20000258), (⟨true, 6, 2⟩, 20000386)]⟩
noncomputable def f5s5 (w04_2 : List Int) (x06_2 : List Int) (g07_2 : List Int) (w15 : Bool) (g18 : Bool) (aM1_0 : Int) (aM1_1 : Int) (aM1_2 : List Int) (w04_0 : Int) (w04_1 : Int) (x06_0 : Int) (x06_1 : Int) (g07_0 : Int) (g07_1 : Int) : St := stOf [(1, .c (.box 1 0)), (4, .c (.box 4 0)), (5, .c (.bool w15)), (6, .c (.box 6 0)), (7, .c (.box 7 0)), (8, .c (.bool g18))] [(1, (41, [.int .i64 aM1_0, .int .i64 aM1_1, .sn 3 (.int .i64) aM1_2 none])), (4, (26, [.int .i64 w04_0, .int .i64 w04_1, .own 20000258])), (6, (26, [.int .i64 x06_0, .int .i64 x06_1, .own 20000386])), (7, (26, [.int .i64 g07_0, .int .i64 g07_1, .own 20000450]))] [(20000258, (⟨3, .int .i64, w04_2, true, false⟩ : Row)), (20000386, (⟨3, .int .i64, x06_2, true, false⟩ : Row)), (20000450, (⟨3, .int .i64, g07_2, true, false⟩ : Row))]
noncomputable def f5l5 : Clean := ⟨[1, 4, 5, 6, 7, 8], [1, 4, 6, 7], [], [], [(⟨true, 4, 2⟩, 20000258), (⟨true, 6, 2⟩, 20000386), (⟨true, 7, 2⟩, 20000450)]⟩
noncomputable def f5s6 (w04_2 : List Int) (x06_2 : List Int) (g07_2 : List Int) (w15 : Bool) (g18 : Bool) (k9 : Int) (aM1_0 : Int) (aM1_1 : Int) (aM1_2 : List Int) (w04_0 : Int) (w04_1 : Int) (x06_0 : Int) (x06_1 : Int) (g07_0 : Int) (g07_1 : Int) : St := stOf [(1, .c (.box 1 0)), (4, .c (.box 4 0)), (5, .c (.bool w15)), (6, .c (.box 6 0)), (7, .c (.box 7 0)), (8, .c (.bool g18)), (9, .c (.int .i64 k9))] [(1, (41, [.int .i64 aM1_0, .int .i64 aM1_1, .sn 3 (.int .i64) aM1_2 none])), (4, (26, [.int .i64 w04_0, .int .i64 w04_1, .own 20000258])), (6, (26, [.int .i64 x06_0, .int .i64 x06_1, .own 20000386])), (7, (26, [.int .i64 g07_0, .int .i64 g07_1, .own 20000450]))] [(20000258, (⟨3, .int .i64, w04_2, true, false⟩ : Row)), (20000386, (⟨3, .int .i64, x06_2, true, false⟩ : Row)), (20000450, (⟨3, .int .i64, g07_2, true, false⟩ : Row))]
noncomputable def f5l6 : Clean := ⟨[1, 4, 5, 6, 7, 8, 9], [1, 4, 6, 7], [], [], [(⟨true, 4, 2⟩, 20000258), (⟨true, 6, 2⟩, 20000386), (⟨true, 7, 2⟩, 20000450)]⟩
noncomputable def f5s7 (w04_2 : List Int) (g07_2 : List Int) (w15 : Bool) (g18 : Bool) (k9 : Int) (aM1_0 : Int) (aM1_1 : Int) (aM1_2 : List Int) (w04_0 : Int) (w04_1 : Int) (g07_0 : Int) (g07_1 : Int) : St := stOf [(1, .c (.box 1 0)), (4, .c (.box 4 0)), (5, .c (.bool w15)), (7, .c (.box 7 0)), (8, .c (.bool g18)), (9, .c (.int .i64 k9))] [(1, (41, [.int .i64 aM1_0, .int .i64 aM1_1, .sn 3 (.int .i64) aM1_2 none])), (4, (26, [.int .i64 w04_0, .int .i64 w04_1, .own 20000258])), (7, (26, [.int .i64 g07_0, .int .i64 g07_1, .own 20000450]))] [(20000258, (⟨3, .int .i64, w04_2, true, false⟩ : Row)), (20000450, (⟨3, .int .i64, g07_2, true, false⟩ : Row))]
noncomputable def f5l7 : Clean := ⟨[1, 4, 5, 7, 8, 9], [1, 4, 7], [], [], [(⟨true, 4, 2⟩, 20000258), (⟨true, 7, 2⟩, 20000450)]⟩
noncomputable def f5s8 (w04_2 : List Int) (g07_2 : List Int) (w15 : Bool) (aM1_0 : Int) (aM1_1 : Int) (aM1_2 : List Int) (w04_0 : Int) (w04_1 : Int) (g07_0 : Int) (g07_1 : Int) : St := stOf [(1, .c (.box 1 0)), (4, .c (.box 4 0)), (5, .c (.bool w15)), (7, .c (.box 7 0))] [(1, (41, [.int .i64 aM1_0, .int .i64 aM1_1, .sn 3 (.int .i64) aM1_2 none])), (4, (26, [.int .i64 w04_0, .int .i64 w04_1, .own 20000258])), (7, (26, [.int .i64 g07_0, .int .i64 g07_1, .own 20000450]))] [(20000258, (⟨3, .int .i64, w04_2, true, false⟩ : Row)), (20000450, (⟨3, .int .i64, g07_2, true, false⟩ : Row))]
noncomputable def f5l8 : Clean := ⟨[1, 4, 5, 7], [1, 4, 7], [], [], [(⟨true, 4, 2⟩, 20000258), (⟨true, 7, 2⟩, 20000450)]⟩
noncomputable def f5s9 (t2 : Bool) : St := stOf [(2, .c (.bool t2))] [] []
noncomputable def f5l9 : Clean := ⟨[2], [], [], [], []⟩
noncomputable def f5B : Nat → Option Clean := lookL [(1000000, f5l9)]
noncomputable abbrev f5i {ρ : Type} (N : Nat) (c : Code) (p : Plan) (σ : St) (K : KT ρ) : Option ρ := iCode f5G tab f5B N c p σ K
noncomputable def f5c1 := codeAt (bodyOf Try.f5) [0]
theorem f5t1 {ρ : Type} (N : Nat) (aM0 : Int × Int × List Int) (K : KT ρ) : f5i N f5c1 .n (f5s0 aM0) (joinK (some f5l1) K) =
  laws_FnExactPrincipalMatrix.Z1 N aM0 (fun aM1_0 aM1_1 aM1_2 => K .nrm (f5s1 aM1_0 aM1_1 aM1_2)) := by kernel_rfl
noncomputable def f5c3 := codeAt (bodyOf Try.f5) [1,0]
theorem f5t3 {ρ : Type} (N : Nat) (aM1_0 : Int) (aM1_1 : Int) (aM1_2 : List Int) (K : KT ρ) : f5i N f5c3 .n (f5s1 aM1_0 aM1_1 aM1_2) (joinK (some f5l2) K) =
  laws_FnExactPrincipalMatrix.Z3 N aM1_0 aM1_1 aM1_2 (fun left3 aM1_0 aM1_1 aM1_2 => K .nrm (f5s2 left3 aM1_0 aM1_1 aM1_2)) := by kernel_rfl
noncomputable def f5c5 := codeAt (bodyOf Try.f5) [1,1,0]
theorem f5t5 {ρ : Type} (N : Nat) (left3 : Int) (aM1_0 : Int) (aM1_1 : Int) (aM1_2 : List Int) (K : KT ρ) : f5i N f5c5 .n (f5s2 left3 aM1_0 aM1_1 aM1_2) (joinK (some f5l2) K) =
  laws_FnExactPrincipalMatrix.Z5 N left3 aM1_0 aM1_1 aM1_2 (fun left3 aM1_0 aM1_1 aM1_2 => K .nrm (f5s2 left3 aM1_0 aM1_1 aM1_2)) := by kernel_rfl
noncomputable def f5c7 := codeAt (bodyOf Try.f5) [1,1,1,0]
theorem f5t7 {ρ : Type} (N : Nat) (left3 : Int) (aM1_0 : Int) (aM1_1 : Int) (aM1_2 : List Int) (K : KT ρ) : f5i N f5c7 .n (f5s2 left3 aM1_0 aM1_1 aM1_2) (joinK (some f5l1) K) =
  laws_FnExactPrincipalMatrix.Z7 N left3 aM1_0 aM1_1 aM1_2 (fun aM1_0 aM1_1 aM1_2 => K .nrm (f5s1 aM1_0 aM1_1 aM1_2)) (fun t2 => K .ret (f5s9 t2)) := by kernel_rfl
noncomputable def f5c9 := codeAt (bodyOf Try.f5) [1,1,1,1,0]
theorem f5t9 {ρ : Type} (N : Nat) (aM1_0 : Int) (aM1_1 : Int) (aM1_2 : List Int) (K : KT ρ) : f5i N f5c9 .n (f5s1 aM1_0 aM1_1 aM1_2) (joinK (some f5l3) K) =
  laws_FnExactPrincipalMatrix.Z9 N aM1_0 aM1_1 aM1_2 (fun w04_2 w15 aM1_0 aM1_1 aM1_2 w04_0 w04_1 => K .nrm (f5s3 w04_2 w15 aM1_0 aM1_1 aM1_2 w04_0 w04_1)) := by kernel_rfl
noncomputable def f5c11 := codeAt (bodyOf Try.f5) [1,1,1,1,1,0]
theorem f5t11 {ρ : Type} (N : Nat) (w04_2 : List Int) (w15 : Bool) (aM1_0 : Int) (aM1_1 : Int) (aM1_2 : List Int) (w04_0 : Int) (w04_1 : Int) (K : KT ρ) : f5i N f5c11 .n (f5s3 w04_2 w15 aM1_0 aM1_1 aM1_2 w04_0 w04_1) (joinK (some f5l4) K) =
  laws_FnExactPrincipalMatrix.Z11 N w04_2 w15 aM1_0 aM1_1 aM1_2 w04_0 w04_1 (fun w04_2 x06_2 w15 aM1_0 aM1_1 aM1_2 w04_0 w04_1 x06_0 x06_1 => K .nrm (f5s4 w04_2 x06_2 w15 aM1_0 aM1_1 aM1_2 w04_0 w04_1 x06_0 x06_1)) := by kernel_rfl
noncomputable def f5c13 := codeAt (bodyOf Try.f5) [1,1,1,1,1,1,0]
theorem f5t13 {ρ : Type} (N : Nat) (w04_2 : List Int) (x06_2 : List Int) (w15 : Bool) (aM1_0 : Int) (aM1_1 : Int) (aM1_2 : List Int) (w04_0 : Int) (w04_1 : Int) (x06_0 : Int) (x06_1 : Int) (K : KT ρ) : f5i N f5c13 .n (f5s4 w04_2 x06_2 w15 aM1_0 aM1_1 aM1_2 w04_0 w04_1 x06_0 x06_1) (joinK (some f5l5) K) =
  laws_FnExactPrincipalMatrix.Z13 N w04_2 x06_2 w15 aM1_0 aM1_1 aM1_2 w04_0 w04_1 x06_0 x06_1 (fun w04_2 x06_2 g07_2 w15 g18 aM1_0 aM1_1 aM1_2 w04_0 w04_1 x06_0 x06_1 g07_0 g07_1 => K .nrm (f5s5 w04_2 x06_2 g07_2 w15 g18 aM1_0 aM1_1 aM1_2 w04_0 w04_1 x06_0 x06_1 g07_0 g07_1)) := by kernel_rfl
noncomputable def f5c15 := codeAt (bodyOf Try.f5) [1,1,1,1,1,1,1,0]
theorem f5t15 {ρ : Type} (N : Nat) (w04_2 : List Int) (x06_2 : List Int) (g07_2 : List Int) (w15 : Bool) (g18 : Bool) (aM1_0 : Int) (aM1_1 : Int) (aM1_2 : List Int) (w04_0 : Int) (w04_1 : Int) (x06_0 : Int) (x06_1 : Int) (g07_0 : Int) (g07_1 : Int) (K : KT ρ) : f5i N f5c15 .n (f5s5 w04_2 x06_2 g07_2 w15 g18 aM1_0 aM1_1 aM1_2 w04_0 w04_1 x06_0 x06_1 g07_0 g07_1) (joinK (some f5l5) K) =
  laws_FnExactPrincipalMatrix.Z15 N w04_2 x06_2 g07_2 w15 g18 aM1_0 aM1_1 aM1_2 w04_0 w04_1 x06_0 x06_1 g07_0 g07_1 (fun w04_2 x06_2 g07_2 w15 g18 aM1_0 aM1_1 aM1_2 w04_0 w04_1 x06_0 x06_1 g07_0 g07_1 => K .nrm (f5s5 w04_2 x06_2 g07_2 w15 g18 aM1_0 aM1_1 aM1_2 w04_0 w04_1 x06_0 x06_1 g07_0 g07_1)) (fun t2 => K .ret (f5s9 t2)) := by kernel_rfl
noncomputable def f5c17 := codeAt (bodyOf Try.f5) [1,1,1,1,1,1,1,1,0]
theorem f5t17 {ρ : Type} (N : Nat) (w04_2 : List Int) (x06_2 : List Int) (g07_2 : List Int) (w15 : Bool) (g18 : Bool) (aM1_0 : Int) (aM1_1 : Int) (aM1_2 : List Int) (w04_0 : Int) (w04_1 : Int) (x06_0 : Int) (x06_1 : Int) (g07_0 : Int) (g07_1 : Int) (K : KT ρ) : f5i N f5c17 .n (f5s5 w04_2 x06_2 g07_2 w15 g18 aM1_0 aM1_1 aM1_2 w04_0 w04_1 x06_0 x06_1 g07_0 g07_1) (joinK (some f5l5) K) =
  laws_FnExactPrincipalMatrix.Z17 N w04_2 x06_2 g07_2 w15 g18 aM1_0 aM1_1 aM1_2 w04_0 w04_1 x06_0 x06_1 g07_0 g07_1 (fun w04_2 x06_2 g07_2 w15 g18 aM1_0 aM1_1 aM1_2 w04_0 w04_1 x06_0 x06_1 g07_0 g07_1 => K .nrm (f5s5 w04_2 x06_2 g07_2 w15 g18 aM1_0 aM1_1 aM1_2 w04_0 w04_1 x06_0 x06_1 g07_0 g07_1)) (fun t2 => K .ret (f5s9 t2)) := by kernel_rfl
noncomputable def f5c19 := codeAt (bodyOf Try.f5) [1,1,1,1,1,1,1,1,1,0]
theorem f5t19 {ρ : Type} (N : Nat) (w04_2 : List Int) (x06_2 : List Int) (g07_2 : List Int) (w15 : Bool) (g18 : Bool) (aM1_0 : Int) (aM1_1 : Int) (aM1_2 : List Int) (w04_0 : Int) (w04_1 : Int) (x06_0 : Int) (x06_1 : Int) (g07_0 : Int) (g07_1 : Int) (K : KT ρ) : f5i N f5c19 .n (f5s5 w04_2 x06_2 g07_2 w15 g18 aM1_0 aM1_1 aM1_2 w04_0 w04_1 x06_0 x06_1 g07_0 g07_1) (joinK (some f5l6) K) =
  laws_FnExactPrincipalMatrix.Z19 N w04_2 x06_2 g07_2 w15 g18 aM1_0 aM1_1 aM1_2 w04_0 w04_1 x06_0 x06_1 g07_0 g07_1 (fun w04_2 x06_2 g07_2 w15 g18 k9 aM1_0 aM1_1 aM1_2 w04_0 w04_1 x06_0 x06_1 g07_0 g07_1 => K .nrm (f5s6 w04_2 x06_2 g07_2 w15 g18 k9 aM1_0 aM1_1 aM1_2 w04_0 w04_1 x06_0 x06_1 g07_0 g07_1)) := by kernel_rfl
noncomputable def f5c21 := codeAt (bodyOf Try.f5) [1,1,1,1,1,1,1,1,1,1,0]
theorem f5t21 {ρ : Type} (N : Nat) (w04_2 : List Int) (x06_2 : List Int) (g07_2 : List Int) (w15 : Bool) (g18 : Bool) (k9 : Int) (aM1_0 : Int) (aM1_1 : Int) (aM1_2 : List Int) (w04_0 : Int) (w04_1 : Int) (x06_0 : Int) (x06_1 : Int) (g07_0 : Int) (g07_1 : Int) (K : KT ρ) : f5i N f5c21 .n (f5s6 w04_2 x06_2 g07_2 w15 g18 k9 aM1_0 aM1_1 aM1_2 w04_0 w04_1 x06_0 x06_1 g07_0 g07_1) (joinK (some f5l7) K) =
  laws_FnExactPrincipalMatrix.Z21 N w04_2 x06_2 g07_2 w15 g18 k9 aM1_0 aM1_1 aM1_2 w04_0 w04_1 x06_0 x06_1 g07_0 g07_1 (fun w04_2 g07_2 w15 g18 k9 aM1_0 aM1_1 aM1_2 w04_0 w04_1 g07_0 g07_1 => K .nrm (f5s7 w04_2 g07_2 w15 g18 k9 aM1_0 aM1_1 aM1_2 w04_0 w04_1 g07_0 g07_1)) := by kernel_rfl
noncomputable def f5c23 := codeAt (bodyOf Try.f5) [1,1,1,1,1,1,1,1,1,1,1,0]
theorem f5t23 {ρ : Type} (N : Nat) (w04_2 : List Int) (g07_2 : List Int) (w15 : Bool) (g18 : Bool) (k9 : Int) (aM1_0 : Int) (aM1_1 : Int) (aM1_2 : List Int) (w04_0 : Int) (w04_1 : Int) (g07_0 : Int) (g07_1 : Int) (K : KT ρ) : f5i N f5c23 .n (f5s7 w04_2 g07_2 w15 g18 k9 aM1_0 aM1_1 aM1_2 w04_0 w04_1 g07_0 g07_1) (joinK (some f5l8) K) =
  laws_FnExactPrincipalMatrix.Z23 N w04_2 g07_2 w15 g18 k9 aM1_0 aM1_1 aM1_2 w04_0 w04_1 g07_0 g07_1 (fun w04_2 g07_2 w15 aM1_0 aM1_1 aM1_2 w04_0 w04_1 g07_0 g07_1 => K .nrm (f5s8 w04_2 g07_2 w15 aM1_0 aM1_1 aM1_2 w04_0 w04_1 g07_0 g07_1)) (fun t2 => K .ret (f5s9 t2)) := by kernel_rfl
noncomputable def f5c24 := codeAt (bodyOf Try.f5) [1,1,1,1,1,1,1,1,1,1,1,1]
theorem f5t24 {ρ : Type} (N : Nat) (w04_2 : List Int) (g07_2 : List Int) (w15 : Bool) (aM1_0 : Int) (aM1_1 : Int) (aM1_2 : List Int) (w04_0 : Int) (w04_1 : Int) (g07_0 : Int) (g07_1 : Int) (K : KT ρ) : f5i N f5c24 .n (f5s8 w04_2 g07_2 w15 aM1_0 aM1_1 aM1_2 w04_0 w04_1 g07_0 g07_1) (joinK (some f5lE) K) =
  laws_FnExactPrincipalMatrix.Z24 N w04_2 g07_2 w15 aM1_0 aM1_1 aM1_2 w04_0 w04_1 g07_0 g07_1 (fun t2 => K .ret (f5s9 t2)) := by kernel_rfl
noncomputable def f5c22 := codeAt (bodyOf Try.f5) [1,1,1,1,1,1,1,1,1,1,1]
noncomputable def f5p22 : Plan := .mk (some f5l8) none .n .n
theorem f5t22 {ρ : Type} (N : Nat) (w04_2 : List Int) (g07_2 : List Int) (w15 : Bool) (g18 : Bool) (k9 : Int) (aM1_0 : Int) (aM1_1 : Int) (aM1_2 : List Int) (w04_0 : Int) (w04_1 : Int) (g07_0 : Int) (g07_1 : Int) (K : KT ρ) : f5i N f5c22 f5p22 (f5s7 w04_2 g07_2 w15 g18 k9 aM1_0 aM1_1 aM1_2 w04_0 w04_1 g07_0 g07_1) (joinK (some f5lE) K) =
  laws_FnExactPrincipalMatrix.Z22 N w04_2 g07_2 w15 g18 k9 aM1_0 aM1_1 aM1_2 w04_0 w04_1 g07_0 g07_1 (fun t2 => K .ret (f5s9 t2)) :=
  viaSeq (fun k => laws_FnExactPrincipalMatrix.Z23 N w04_2 g07_2 w15 g18 k9 aM1_0 aM1_1 aM1_2 w04_0 w04_1 g07_0 g07_1 k (fun t2 => K .ret (f5s9 t2))) (by kernel_rfl) (by kernel_rfl) (f5t23 N w04_2 g07_2 w15 g18 k9 aM1_0 aM1_1 aM1_2 w04_0 w04_1 g07_0 g07_1 (seqK (fun σ => f5i N f5c24 .n σ (joinK (some f5lE) K)) (joinK (some f5lE) K))) (funext fun w04_2 => funext fun g07_2 => funext fun w15 => funext fun aM1_0 => funext fun aM1_1 => funext fun aM1_2 => funext fun w04_0 => funext fun w04_1 => funext fun g07_0 => funext fun g07_1 => f5t24 N w04_2 g07_2 w15 aM1_0 aM1_1 aM1_2 w04_0 w04_1 g07_0 g07_1 K) (by kernel_rfl) (by kernel_rfl)
noncomputable def f5c20 := codeAt (bodyOf Try.f5) [1,1,1,1,1,1,1,1,1,1]
noncomputable def f5p20 : Plan := .mk (some f5l7) none .n f5p22
theorem f5t20 {ρ : Type} (N : Nat) (w04_2 : List Int) (x06_2 : List Int) (g07_2 : List Int) (w15 : Bool) (g18 : Bool) (k9 : Int) (aM1_0 : Int) (aM1_1 : Int) (aM1_2 : List Int) (w04_0 : Int) (w04_1 : Int) (x06_0 : Int) (x06_1 : Int) (g07_0 : Int) (g07_1 : Int) (K : KT ρ) : f5i N f5c20 f5p20 (f5s6 w04_2 x06_2 g07_2 w15 g18 k9 aM1_0 aM1_1 aM1_2 w04_0 w04_1 x06_0 x06_1 g07_0 g07_1) (joinK (some f5lE) K) =
  laws_FnExactPrincipalMatrix.Z20 N w04_2 x06_2 g07_2 w15 g18 k9 aM1_0 aM1_1 aM1_2 w04_0 w04_1 x06_0 x06_1 g07_0 g07_1 (fun t2 => K .ret (f5s9 t2)) :=
  viaSeq (fun k => laws_FnExactPrincipalMatrix.Z21 N w04_2 x06_2 g07_2 w15 g18 k9 aM1_0 aM1_1 aM1_2 w04_0 w04_1 x06_0 x06_1 g07_0 g07_1 k) (by kernel_rfl) (by kernel_rfl) (f5t21 N w04_2 x06_2 g07_2 w15 g18 k9 aM1_0 aM1_1 aM1_2 w04_0 w04_1 x06_0 x06_1 g07_0 g07_1 (seqK (fun σ => f5i N f5c22 f5p22 σ (joinK (some f5lE) K)) (joinK (some f5lE) K))) (funext fun w04_2 => funext fun g07_2 => funext fun w15 => funext fun g18 => funext fun k9 => funext fun aM1_0 => funext fun aM1_1 => funext fun aM1_2 => funext fun w04_0 => funext fun w04_1 => funext fun g07_0 => funext fun g07_1 => f5t22 N w04_2 g07_2 w15 g18 k9 aM1_0 aM1_1 aM1_2 w04_0 w04_1 g07_0 g07_1 K) (by kernel_rfl) (by kernel_rfl)
noncomputable def f5c18 := codeAt (bodyOf Try.f5) [1,1,1,1,1,1,1,1,1]
noncomputable def f5p18 : Plan := .mk (some f5l6) none .n f5p20
theorem f5t18 {ρ : Type} (N : Nat) (w04_2 : List Int) (x06_2 : List Int) (g07_2 : List Int) (w15 : Bool) (g18 : Bool) (aM1_0 : Int) (aM1_1 : Int) (aM1_2 : List Int) (w04_0 : Int) (w04_1 : Int) (x06_0 : Int) (x06_1 : Int) (g07_0 : Int) (g07_1 : Int) (K : KT ρ) : f5i N f5c18 f5p18 (f5s5 w04_2 x06_2 g07_2 w15 g18 aM1_0 aM1_1 aM1_2 w04_0 w04_1 x06_0 x06_1 g07_0 g07_1) (joinK (some f5lE) K) =
  laws_FnExactPrincipalMatrix.Z18 N w04_2 x06_2 g07_2 w15 g18 aM1_0 aM1_1 aM1_2 w04_0 w04_1 x06_0 x06_1 g07_0 g07_1 (fun t2 => K .ret (f5s9 t2)) :=
  viaSeq (fun k => laws_FnExactPrincipalMatrix.Z19 N w04_2 x06_2 g07_2 w15 g18 aM1_0 aM1_1 aM1_2 w04_0 w04_1 x06_0 x06_1 g07_0 g07_1 k) (by kernel_rfl) (by kernel_rfl) (f5t19 N w04_2 x06_2 g07_2 w15 g18 aM1_0 aM1_1 aM1_2 w04_0 w04_1 x06_0 x06_1 g07_0 g07_1 (seqK (fun σ => f5i N f5c20 f5p20 σ (joinK (some f5lE) K)) (joinK (some f5lE) K))) (funext fun w04_2 => funext fun x06_2 => funext fun g07_2 => funext fun w15 => funext fun g18 => funext fun k9 => funext fun aM1_0 => funext fun aM1_1 => funext fun aM1_2 => funext fun w04_0 => funext fun w04_1 => funext fun x06_0 => funext fun x06_1 => funext fun g07_0 => funext fun g07_1 => f5t20 N w04_2 x06_2 g07_2 w15 g18 k9 aM1_0 aM1_1 aM1_2 w04_0 w04_1 x06_0 x06_1 g07_0 g07_1 K) (by kernel_rfl) (by kernel_rfl)
noncomputable def f5c16 := codeAt (bodyOf Try.f5) [1,1,1,1,1,1,1,1]
noncomputable def f5p16 : Plan := .mk (some f5l5) none .n f5p18
theorem f5t16 {ρ : Type} (N : Nat) (w04_2 : List Int) (x06_2 : List Int) (g07_2 : List Int) (w15 : Bool) (g18 : Bool) (aM1_0 : Int) (aM1_1 : Int) (aM1_2 : List Int) (w04_0 : Int) (w04_1 : Int) (x06_0 : Int) (x06_1 : Int) (g07_0 : Int) (g07_1 : Int) (K : KT ρ) : f5i N f5c16 f5p16 (f5s5 w04_2 x06_2 g07_2 w15 g18 aM1_0 aM1_1 aM1_2 w04_0 w04_1 x06_0 x06_1 g07_0 g07_1) (joinK (some f5lE) K) =
  laws_FnExactPrincipalMatrix.Z16 N w04_2 x06_2 g07_2 w15 g18 aM1_0 aM1_1 aM1_2 w04_0 w04_1 x06_0 x06_1 g07_0 g07_1 (fun t2 => K .ret (f5s9 t2)) :=
  viaSeq (fun k => laws_FnExactPrincipalMatrix.Z17 N w04_2 x06_2 g07_2 w15 g18 aM1_0 aM1_1 aM1_2 w04_0 w04_1 x06_0 x06_1 g07_0 g07_1 k (fun t2 => K .ret (f5s9 t2))) (by kernel_rfl) (by kernel_rfl) (f5t17 N w04_2 x06_2 g07_2 w15 g18 aM1_0 aM1_1 aM1_2 w04_0 w04_1 x06_0 x06_1 g07_0 g07_1 (seqK (fun σ => f5i N f5c18 f5p18 σ (joinK (some f5lE) K)) (joinK (some f5lE) K))) (funext fun w04_2 => funext fun x06_2 => funext fun g07_2 => funext fun w15 => funext fun g18 => funext fun aM1_0 => funext fun aM1_1 => funext fun aM1_2 => funext fun w04_0 => funext fun w04_1 => funext fun x06_0 => funext fun x06_1 => funext fun g07_0 => funext fun g07_1 => f5t18 N w04_2 x06_2 g07_2 w15 g18 aM1_0 aM1_1 aM1_2 w04_0 w04_1 x06_0 x06_1 g07_0 g07_1 K) (by kernel_rfl) (by kernel_rfl)
noncomputable def f5c14 := codeAt (bodyOf Try.f5) [1,1,1,1,1,1,1]
noncomputable def f5p14 : Plan := .mk (some f5l5) none .n f5p16
theorem f5t14 {ρ : Type} (N : Nat) (w04_2 : List Int) (x06_2 : List Int) (g07_2 : List Int) (w15 : Bool) (g18 : Bool) (aM1_0 : Int) (aM1_1 : Int) (aM1_2 : List Int) (w04_0 : Int) (w04_1 : Int) (x06_0 : Int) (x06_1 : Int) (g07_0 : Int) (g07_1 : Int) (K : KT ρ) : f5i N f5c14 f5p14 (f5s5 w04_2 x06_2 g07_2 w15 g18 aM1_0 aM1_1 aM1_2 w04_0 w04_1 x06_0 x06_1 g07_0 g07_1) (joinK (some f5lE) K) =
  laws_FnExactPrincipalMatrix.Z14 N w04_2 x06_2 g07_2 w15 g18 aM1_0 aM1_1 aM1_2 w04_0 w04_1 x06_0 x06_1 g07_0 g07_1 (fun t2 => K .ret (f5s9 t2)) :=
  viaSeq (fun k => laws_FnExactPrincipalMatrix.Z15 N w04_2 x06_2 g07_2 w15 g18 aM1_0 aM1_1 aM1_2 w04_0 w04_1 x06_0 x06_1 g07_0 g07_1 k (fun t2 => K .ret (f5s9 t2))) (by kernel_rfl) (by kernel_rfl) (f5t15 N w04_2 x06_2 g07_2 w15 g18 aM1_0 aM1_1 aM1_2 w04_0 w04_1 x06_0 x06_1 g07_0 g07_1 (seqK (fun σ => f5i N f5c16 f5p16 σ (joinK (some f5lE) K)) (joinK (some f5lE) K))) (funext fun w04_2 => funext fun x06_2 => funext fun g07_2 => funext fun w15 => funext fun g18 => funext fun aM1_0 => funext fun aM1_1 => funext fun aM1_2 => funext fun w04_0 => funext fun w04_1 => funext fun x06_0 => funext fun x06_1 => funext fun g07_0 => funext fun g07_1 => f5t16 N w04_2 x06_2 g07_2 w15 g18 aM1_0 aM1_1 aM1_2 w04_0 w04_1 x06_0 x06_1 g07_0 g07_1 K) (by kernel_rfl) (by kernel_rfl)
noncomputable def f5c12 := codeAt (bodyOf Try.f5) [1,1,1,1,1,1]
noncomputable def f5p12 : Plan := .mk (some f5l5) none .n f5p14
theorem f5t12 {ρ : Type} (N : Nat) (w04_2 : List Int) (x06_2 : List Int) (w15 : Bool) (aM1_0 : Int) (aM1_1 : Int) (aM1_2 : List Int) (w04_0 : Int) (w04_1 : Int) (x06_0 : Int) (x06_1 : Int) (K : KT ρ) : f5i N f5c12 f5p12 (f5s4 w04_2 x06_2 w15 aM1_0 aM1_1 aM1_2 w04_0 w04_1 x06_0 x06_1) (joinK (some f5lE) K) =
  laws_FnExactPrincipalMatrix.Z12 N w04_2 x06_2 w15 aM1_0 aM1_1 aM1_2 w04_0 w04_1 x06_0 x06_1 (fun t2 => K .ret (f5s9 t2)) :=
  viaSeq (fun k => laws_FnExactPrincipalMatrix.Z13 N w04_2 x06_2 w15 aM1_0 aM1_1 aM1_2 w04_0 w04_1 x06_0 x06_1 k) (by kernel_rfl) (by kernel_rfl) (f5t13 N w04_2 x06_2 w15 aM1_0 aM1_1 aM1_2 w04_0 w04_1 x06_0 x06_1 (seqK (fun σ => f5i N f5c14 f5p14 σ (joinK (some f5lE) K)) (joinK (some f5lE) K))) (funext fun w04_2 => funext fun x06_2 => funext fun g07_2 => funext fun w15 => funext fun g18 => funext fun aM1_0 => funext fun aM1_1 => funext fun aM1_2 => funext fun w04_0 => funext fun w04_1 => funext fun x06_0 => funext fun x06_1 => funext fun g07_0 => funext fun g07_1 => f5t14 N w04_2 x06_2 g07_2 w15 g18 aM1_0 aM1_1 aM1_2 w04_0 w04_1 x06_0 x06_1 g07_0 g07_1 K) (by kernel_rfl) (by kernel_rfl)
noncomputable def f5c10 := codeAt (bodyOf Try.f5) [1,1,1,1,1]
noncomputable def f5p10 : Plan := .mk (some f5l4) none .n f5p12
theorem f5t10 {ρ : Type} (N : Nat) (w04_2 : List Int) (w15 : Bool) (aM1_0 : Int) (aM1_1 : Int) (aM1_2 : List Int) (w04_0 : Int) (w04_1 : Int) (K : KT ρ) : f5i N f5c10 f5p10 (f5s3 w04_2 w15 aM1_0 aM1_1 aM1_2 w04_0 w04_1) (joinK (some f5lE) K) =
  laws_FnExactPrincipalMatrix.Z10 N w04_2 w15 aM1_0 aM1_1 aM1_2 w04_0 w04_1 (fun t2 => K .ret (f5s9 t2)) :=
  viaSeq (fun k => laws_FnExactPrincipalMatrix.Z11 N w04_2 w15 aM1_0 aM1_1 aM1_2 w04_0 w04_1 k) (by kernel_rfl) (by kernel_rfl) (f5t11 N w04_2 w15 aM1_0 aM1_1 aM1_2 w04_0 w04_1 (seqK (fun σ => f5i N f5c12 f5p12 σ (joinK (some f5lE) K)) (joinK (some f5lE) K))) (funext fun w04_2 => funext fun x06_2 => funext fun w15 => funext fun aM1_0 => funext fun aM1_1 => funext fun aM1_2 => funext fun w04_0 => funext fun w04_1 => funext fun x06_0 => funext fun x06_1 => f5t12 N w04_2 x06_2 w15 aM1_0 aM1_1 aM1_2 w04_0 w04_1 x06_0 x06_1 K) (by kernel_rfl) (by kernel_rfl)
noncomputable def f5c8 := codeAt (bodyOf Try.f5) [1,1,1,1]
noncomputable def f5p8 : Plan := .mk (some f5l3) none .n f5p10
theorem f5t8 {ρ : Type} (N : Nat) (aM1_0 : Int) (aM1_1 : Int) (aM1_2 : List Int) (K : KT ρ) : f5i N f5c8 f5p8 (f5s1 aM1_0 aM1_1 aM1_2) (joinK (some f5lE) K) =
  laws_FnExactPrincipalMatrix.Z8 N aM1_0 aM1_1 aM1_2 (fun t2 => K .ret (f5s9 t2)) :=
  viaSeq (fun k => laws_FnExactPrincipalMatrix.Z9 N aM1_0 aM1_1 aM1_2 k) (by kernel_rfl) (by kernel_rfl) (f5t9 N aM1_0 aM1_1 aM1_2 (seqK (fun σ => f5i N f5c10 f5p10 σ (joinK (some f5lE) K)) (joinK (some f5lE) K))) (funext fun w04_2 => funext fun w15 => funext fun aM1_0 => funext fun aM1_1 => funext fun aM1_2 => funext fun w04_0 => funext fun w04_1 => f5t10 N w04_2 w15 aM1_0 aM1_1 aM1_2 w04_0 w04_1 K) (by kernel_rfl) (by kernel_rfl)
noncomputable def f5c6 := codeAt (bodyOf Try.f5) [1,1,1]
noncomputable def f5p6 : Plan := .mk (some f5l1) none .n f5p8
theorem f5t6 {ρ : Type} (N : Nat) (left3 : Int) (aM1_0 : Int) (aM1_1 : Int) (aM1_2 : List Int) (K : KT ρ) : f5i N f5c6 f5p6 (f5s2 left3 aM1_0 aM1_1 aM1_2) (joinK (some f5lE) K) =
  laws_FnExactPrincipalMatrix.Z6 N left3 aM1_0 aM1_1 aM1_2 (fun t2 => K .ret (f5s9 t2)) :=
  viaSeq (fun k => laws_FnExactPrincipalMatrix.Z7 N left3 aM1_0 aM1_1 aM1_2 k (fun t2 => K .ret (f5s9 t2))) (by kernel_rfl) (by kernel_rfl) (f5t7 N left3 aM1_0 aM1_1 aM1_2 (seqK (fun σ => f5i N f5c8 f5p8 σ (joinK (some f5lE) K)) (joinK (some f5lE) K))) (funext fun aM1_0 => funext fun aM1_1 => funext fun aM1_2 => f5t8 N aM1_0 aM1_1 aM1_2 K) (by kernel_rfl) (by kernel_rfl)
noncomputable def f5c4 := codeAt (bodyOf Try.f5) [1,1]
noncomputable def f5p4 : Plan := .mk (some f5l2) none .n f5p6
theorem f5t4 {ρ : Type} (N : Nat) (left3 : Int) (aM1_0 : Int) (aM1_1 : Int) (aM1_2 : List Int) (K : KT ρ) : f5i N f5c4 f5p4 (f5s2 left3 aM1_0 aM1_1 aM1_2) (joinK (some f5lE) K) =
  laws_FnExactPrincipalMatrix.Z4 N left3 aM1_0 aM1_1 aM1_2 (fun t2 => K .ret (f5s9 t2)) :=
  viaSeq (fun k => laws_FnExactPrincipalMatrix.Z5 N left3 aM1_0 aM1_1 aM1_2 k) (by kernel_rfl) (by kernel_rfl) (f5t5 N left3 aM1_0 aM1_1 aM1_2 (seqK (fun σ => f5i N f5c6 f5p6 σ (joinK (some f5lE) K)) (joinK (some f5lE) K))) (funext fun left3 => funext fun aM1_0 => funext fun aM1_1 => funext fun aM1_2 => f5t6 N left3 aM1_0 aM1_1 aM1_2 K) (by kernel_rfl) (by kernel_rfl)
noncomputable def f5c2 := codeAt (bodyOf Try.f5) [1]
noncomputable def f5p2 : Plan := .mk (some f5l2) none .n f5p4
theorem f5t2 {ρ : Type} (N : Nat) (aM1_0 : Int) (aM1_1 : Int) (aM1_2 : List Int) (K : KT ρ) : f5i N f5c2 f5p2 (f5s1 aM1_0 aM1_1 aM1_2) (joinK (some f5lE) K) =
  laws_FnExactPrincipalMatrix.Z2 N aM1_0 aM1_1 aM1_2 (fun t2 => K .ret (f5s9 t2)) :=
  viaSeq (fun k => laws_FnExactPrincipalMatrix.Z3 N aM1_0 aM1_1 aM1_2 k) (by kernel_rfl) (by kernel_rfl) (f5t3 N aM1_0 aM1_1 aM1_2 (seqK (fun σ => f5i N f5c4 f5p4 σ (joinK (some f5lE) K)) (joinK (some f5lE) K))) (funext fun left3 => funext fun aM1_0 => funext fun aM1_1 => funext fun aM1_2 => f5t4 N left3 aM1_0 aM1_1 aM1_2 K) (by kernel_rfl) (by kernel_rfl)
noncomputable def f5c0 := codeAt (bodyOf Try.f5) []
noncomputable def f5p0 : Plan := .mk (some f5l1) none .n f5p2
theorem f5t0 {ρ : Type} (N : Nat) (aM0 : Int × Int × List Int) (K : KT ρ) : f5i N f5c0 f5p0 (f5s0 aM0) (joinK (some f5lE) K) =
  laws_FnExactPrincipalMatrix.Z0 N aM0 (fun t2 => K .ret (f5s9 t2)) :=
  viaSeq (fun k => laws_FnExactPrincipalMatrix.Z1 N aM0 k) (by kernel_rfl) (by kernel_rfl) (f5t1 N aM0 (seqK (fun σ => f5i N f5c2 f5p2 σ (joinK (some f5lE) K)) (joinK (some f5lE) K))) (funext fun aM1_0 => funext fun aM1_1 => funext fun aM1_2 => f5t2 N aM1_0 aM1_1 aM1_2 K) (by kernel_rfl) (by kernel_rfl)
theorem f5m (N : Nat) (aM0 : Int × Int × List Int) : f5i N f5c0 f5p0 (f5s0 aM0) (joinK (some f5lE) (finK tab f5sig Try.f5.results.toList)) = laws_FnExactPrincipalMatrix.Z0 N aM0 (fun t2 => some ((), (t2, ()))) :=
  (f5t0 N aM0 (finK tab f5sig Try.f5.results.toList)).trans (by kernel_rfl)
theorem f5ok (h : laws_FnExactPrincipalMatrix.Spec) : EntryOk Try.prog 5 e5 :=
  entry_of_code (sig := f5sig) (c := f5c0) (pl := f5p0) (je := (some f5lE)) (B := f5B) Try.func5 (by kernel_rfl) (by kernel_rfl) (by kernel_rfl) tabOk f5GOk (by kernel_rfl) (by kernel_rfl) (by kernel_rfl) (by kernel_rfl) fun X hb hp => by
    obtain ⟨aM0, _⟩ := X
    obtain ⟨N, h⟩ := h aM0 hb.1
    exact ⟨N, (f5m N aM0).trans (h N (Nat.le_refl N))⟩
theorem e5ok : EntryOk Try.prog 5 e5 := f5ok laws_FnExactPrincipalMatrix.ok
end Go.Fw
