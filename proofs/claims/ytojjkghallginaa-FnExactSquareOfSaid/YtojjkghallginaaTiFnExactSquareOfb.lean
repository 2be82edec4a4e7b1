/- The ties: the program's text comes to the plain functions. Nothing is assumed. -/
import Derived.Test.YtojjkghallginaaPuFnExactSquareOfa
import Derived.Test.YtojjkghallginaaTiFnExactSquareOfa
set_option linter.unusedVariables false
set_option linter.unusedSimpArgs false
set_option maxRecDepth 100000
namespace Go.Fw
open Go.Proofs
/-! ### loop.example/g03115/laws.markIntS -/
noncomputable def f23sig : Sig := ⟨[⟨.sl 3 (.int .i64), false, true⟩, ⟨.int .i64, false, false⟩], [⟨.int .i64, false, false⟩]⟩
noncomputable def e23 : Entry := ⟨f23sig, none, fun X => ((laws_markIntS.g X.1 X.2.1).1, ((laws_markIntS.g X.1 X.2.1).2, ()))⟩
noncomputable def f23G : Nat → Option Entry := (fun _ => none)
theorem f23GOk : GOk Try.prog f23G := GOk.nil
noncomputable def f23lE : Clean := ⟨[], [], [], [], []⟩
noncomputable def f23s0 (a0 : List Int) (k1 : Int) : St := initSt f23sig.ps (a0, (k1, ()))
noncomputable def f23s1 (a0 : List Int) (k1 : Int) : St := stOf [(0, .c (.own 1000000)), (1, .c (.int .i64 k1)), (100000, .c (.own 1000000))] [] [(1000000, (⟨3, .int .i64, a0, true, false⟩ : Row))]
noncomputable def f23l1 : Clean := ⟨[0, 1, 100000], [], [], [], [(⟨false, 0, 0⟩, 1000000)]⟩
noncomputable def f23s2 (a0 : List Int) (k1 : Int) (i5 : Int) : St := stOf [(0, .c (.own 1000000)), (1, .c (.int .i64 k1)), (5, .c (.int .i64 i5)), (100000, .c (.own 1000000))] [] [(1000000, (⟨3, .int .i64, a0, true, false⟩ : Row))]
noncomputable def f23l2 : Clean := ⟨[0, 1, 5, 100000], [], [], [], [(⟨false, 0, 0⟩, 1000000)]⟩
noncomputable def f23s3 (io100000 : List Int) (k1 : Int) : St := stOf [(1, .c (.int .i64 k1)), (100000, .c (.own 7400000))] [] [(7400000, (⟨3, .int .i64, io100000, true, false⟩ : Row))]
noncomputable def f23l3 : Clean := ⟨[1, 100000], [], [], [], [(⟨false, 100000, 0⟩, 7400000)]⟩
noncomputable def f23s4 (io100000 : List Int) (t4 : Int) : St := stOf [(4, .c (.int .i64 t4)), (100000, .c (.own 7400000))] [] [(7400000, (⟨3, .int .i64, io100000, true, false⟩ : Row))]
noncomputable def f23l4 : Clean := ⟨[4, 100000], [], [], [], [(⟨false, 100000, 0⟩, 7400000)]⟩
noncomputable def f23B : Nat → Option Clean := lookL [(0, f23l3), (1000000, f23l4)]
noncomputable abbrev f23i {ρ : Type} (N : Nat) (c : Code) (p : Plan) (σ : St) (K : KT ρ) : Option ρ := iCode f23G tab f23B N c p σ K
noncomputable def f23c1 := codeAt (bodyOf Try.f23) [0]
theorem f23t1 {ρ : Type} (N : Nat) (a0 : List Int) (k1 : Int) (K : KT ρ) : f23i N f23c1 .n (f23s0 a0 k1) (joinK (some f23l1) K) =
  laws_markIntS.Z1 N a0 k1 (fun a0 k1 => K .nrm (f23s1 a0 k1)) := by kernel_rfl
noncomputable def f23c4 := codeAt (bodyOf Try.f23) [1,0,0]
theorem f23t4 {ρ : Type} (N : Nat) (a0 : List Int) (k1 : Int) (K : KT ρ) : f23i N f23c4 .n (f23s1 a0 k1) (joinK (some f23l2) K) =
  laws_markIntS.Z4 N a0 k1 (fun a0 k1 i5 => K .nrm (f23s2 a0 k1 i5)) := by kernel_rfl
noncomputable def f23c7 := codeAt (bodyOf Try.f23) [1,0,1,0,0]
theorem f23t7 {ρ : Type} (N : Nat) (a0 : List Int) (k1 : Int) (i5 : Int) (K : KT ρ) : f23i N f23c7 .n (f23s2 a0 k1 i5) (joinK (some f23l2) K) =
  laws_markIntS.Z7 N a0 k1 i5 (fun a0 k1 i5 => K .nrm (f23s2 a0 k1 i5)) (fun io100000 k1 => K (.exit 0) (f23s3 io100000 k1)) := by kernel_rfl
noncomputable def f23c6 := codeAt (bodyOf Try.f23) [1,0,1,0]
noncomputable def f23p6 : Plan := .mk none (some f23l2) .n .n
noncomputable abbrev f23w6 {ρ : Type} (N : Nat) (M : Nat) (σ : St) (K : KT ρ) : Option ρ := loopC (fun σ K => f23i N f23c7 .n σ K) f23l2 M σ K
theorem f23t6L {ρ : Type} (N : Nat) (K : KT ρ) : ∀ (M : Nat) (a0 : List Int) (k1 : Int) (i5 : Int), f23w6 N M (f23s2 a0 k1 i5) K =
  laws_markIntS.Z6L N (fun io100000 k1 => K (.exit 0) (f23s3 io100000 k1)) M a0 k1 i5
  | 0, _, _, _ => rfl
  | M + 1, a0, k1, i5 => viaRound (fun k => laws_markIntS.Z7 N a0 k1 i5 k (fun io100000 k1 => K (.exit 0) (f23s3 io100000 k1))) (f23t7 N a0 k1 i5 (seqK (fun σ => f23w6 N M σ K) K)) (funext fun a0 => funext fun k1 => funext fun i5 => f23t6L N K M a0 k1 i5) (by kernel_rfl) (by kernel_rfl)
theorem f23t6 {ρ : Type} (N : Nat) (a0 : List Int) (k1 : Int) (i5 : Int) (K : KT ρ) : f23i N f23c6 f23p6 (f23s2 a0 k1 i5) (joinK (some f23l3) K) =
  laws_markIntS.Z6 N a0 k1 i5 (fun io100000 k1 => K (.exit 0) (f23s3 io100000 k1)) :=
  viaLoop (by kernel_rfl) (by kernel_rfl) (σ' := f23s2 a0 k1 i5) (by kernel_rfl) (f23t6L N (joinK (some f23l3) K) N a0 k1 i5) (by kernel_rfl)
noncomputable def f23c5 := codeAt (bodyOf Try.f23) [1,0,1]
noncomputable def f23p5 : Plan := .mk (some f23l3) none f23p6 .n
theorem f23t5 {ρ : Type} (N : Nat) (a0 : List Int) (k1 : Int) (i5 : Int) (K : KT ρ) : f23i N f23c5 f23p5 (f23s2 a0 k1 i5) (joinK (some f23l3) K) =
  laws_markIntS.Z5 N a0 k1 i5 (fun io100000 k1 => K .nrm (f23s3 io100000 k1)) :=
  viaBlock (by kernel_rfl) (by kernel_rfl) (f23t6 N a0 k1 i5 (blockK 0 (joinK (some f23l3) K))) (by kernel_rfl)
noncomputable def f23c3 := codeAt (bodyOf Try.f23) [1,0]
noncomputable def f23p3 : Plan := .mk (some f23l2) none .n f23p5
theorem f23t3 {ρ : Type} (N : Nat) (a0 : List Int) (k1 : Int) (K : KT ρ) : f23i N f23c3 f23p3 (f23s1 a0 k1) (joinK (some f23l3) K) =
  laws_markIntS.Z3 N a0 k1 (fun io100000 k1 => K .nrm (f23s3 io100000 k1)) :=
  viaSeq (fun k => laws_markIntS.Z4 N a0 k1 k) (by kernel_rfl) (by kernel_rfl) (f23t4 N a0 k1 (seqK (fun σ => f23i N f23c5 f23p5 σ (joinK (some f23l3) K)) (joinK (some f23l3) K))) (funext fun a0 => funext fun k1 => funext fun i5 => f23t5 N a0 k1 i5 K) (by kernel_rfl) (by kernel_rfl)
noncomputable def f23c8 := codeAt (bodyOf Try.f23) [1,1]
theorem f23t8 {ρ : Type} (N : Nat) (io100000 : List Int) (k1 : Int) (K : KT ρ) : f23i N f23c8 .n (f23s3 io100000 k1) (joinK (some f23lE) K) =
  laws_markIntS.Z8 N io100000 k1 (fun io100000 t4 => K .ret (f23s4 io100000 t4)) := by kernel_rfl
noncomputable def f23c2 := codeAt (bodyOf Try.f23) [1]
noncomputable def f23p2 : Plan := .mk (some f23l3) none f23p3 .n
theorem f23t2 {ρ : Type} (N : Nat) (a0 : List Int) (k1 : Int) (K : KT ρ) : f23i N f23c2 f23p2 (f23s1 a0 k1) (joinK (some f23lE) K) =
  laws_markIntS.Z2 N a0 k1 (fun io100000 t4 => K .ret (f23s4 io100000 t4)) :=
  viaSeq (fun k => laws_markIntS.Z3 N a0 k1 k) (by kernel_rfl) (by kernel_rfl) (f23t3 N a0 k1 (seqK (fun σ => f23i N f23c8 .n σ (joinK (some f23lE) K)) (joinK (some f23lE) K))) (funext fun io100000 => funext fun k1 => f23t8 N io100000 k1 K) (by kernel_rfl) (by kernel_rfl)
noncomputable def f23c0 := codeAt (bodyOf Try.f23) []
noncomputable def f23p0 : Plan := .mk (some f23l1) none .n f23p2
theorem f23t0 {ρ : Type} (N : Nat) (a0 : List Int) (k1 : Int) (K : KT ρ) : f23i N f23c0 f23p0 (f23s0 a0 k1) (joinK (some f23lE) K) =
  laws_markIntS.Z0 N a0 k1 (fun io100000 t4 => K .ret (f23s4 io100000 t4)) :=
  viaSeq (fun k => laws_markIntS.Z1 N a0 k1 k) (by kernel_rfl) (by kernel_rfl) (f23t1 N a0 k1 (seqK (fun σ => f23i N f23c2 f23p2 σ (joinK (some f23lE) K)) (joinK (some f23lE) K))) (funext fun a0 => funext fun k1 => f23t2 N a0 k1 K) (by kernel_rfl) (by kernel_rfl)
theorem f23m (N : Nat) (a0 : List Int) (k1 : Int) : f23i N f23c0 f23p0 (f23s0 a0 k1) (joinK (some f23lE) (finK tab f23sig Try.f23.results.toList)) = laws_markIntS.Z0 N a0 k1 (fun io100000 t4 => some (io100000, (t4, ()))) :=
  (f23t0 N a0 k1 (finK tab f23sig Try.f23.results.toList)).trans (by kernel_rfl)
theorem f23ok (h : laws_markIntS.Spec) : EntryOk Try.prog 23 e23 :=
  entry_of_code (sig := f23sig) (c := f23c0) (pl := f23p0) (je := (some f23lE)) (B := f23B) Try.func23 (by kernel_rfl) (by kernel_rfl) (by kernel_rfl) tabOk f23GOk (by kernel_rfl) (by kernel_rfl) (by kernel_rfl) (by kernel_rfl) fun X hb hp => by
    obtain ⟨a0, k1, _⟩ := X
    obtain ⟨N, h⟩ := h a0 k1 hb.1
    exact ⟨N, (f23m N a0 k1).trans (h N (Nat.le_refl N))⟩
theorem e23ok : EntryOk Try.prog 23 e23 := f23ok laws_markIntS.ok
end Go.Fw
set_option linter.unusedVariables false
set_option linter.unusedSimpArgs false
set_option maxRecDepth 100000
namespace Go.Fw
open Go.Proofs
/-! ### loop.example/g03115/laws.markMatrix -/
noncomputable def f37sig : Sig := ⟨[⟨.pair (.int .i64) (.pair (.int .i64) (.sl 3 (.int .i64))), true, true⟩, ⟨.int .i64, false, false⟩], [⟨.int .i64, false, false⟩]⟩
noncomputable def e37 : Entry := ⟨f37sig, none, fun X => ((laws_markMatrix.g X.1 X.2.1).1, ((laws_markMatrix.g X.1 X.2.1).2, ()))⟩
noncomputable def f37G : Nat → Option Entry := addG (fun _ => none) 23 e23
theorem f37GOk : GOk Try.prog f37G := (GOk.nil).add e23ok (by kernel_rfl)
noncomputable def f37lE : Clean := ⟨[], [], [], [], []⟩
noncomputable def f37s0 (a0 : Int × Int × List Int) (k1 : Int) : St := initSt f37sig.ps (a0, (k1, ()))
noncomputable def f37s1 (io100000_2 : List Int) (t4 : Int) (io100000_0 : Int) (io100000_1 : Int) : St := stOf [(4, .c (.int .i64 t4)), (100000, .agg [.int .i64 io100000_0, .int .i64 io100000_1, .own 7400002])] [] [(7400002, (⟨3, .int .i64, io100000_2, true, false⟩ : Row))]
noncomputable def f37l1 : Clean := ⟨[4, 100000], [], [], [], [(⟨false, 100000, 2⟩, 7400002)]⟩
noncomputable def f37B : Nat → Option Clean := lookL [(1000000, f37l1)]
noncomputable abbrev f37i {ρ : Type} (N : Nat) (c : Code) (p : Plan) (σ : St) (K : KT ρ) : Option ρ := iCode f37G tab f37B N c p σ K
noncomputable def f37c0 := codeAt (bodyOf Try.f37) []
theorem f37t0 {ρ : Type} (N : Nat) (a0 : Int × Int × List Int) (k1 : Int) (K : KT ρ) : f37i N f37c0 .n (f37s0 a0 k1) (joinK (some f37lE) K) =
  laws_markMatrix.Z0 N a0 k1 (fun io100000_2 t4 io100000_0 io100000_1 => K .ret (f37s1 io100000_2 t4 io100000_0 io100000_1)) := by kernel_rfl
theorem f37m (N : Nat) (a0 : Int × Int × List Int) (k1 : Int) : f37i N f37c0 .n (f37s0 a0 k1) (joinK (some f37lE) (finK tab f37sig Try.f37.results.toList)) = laws_markMatrix.Z0 N a0 k1 (fun io100000_2 t4 io100000_0 io100000_1 => some ((io100000_0, (io100000_1, io100000_2)), (t4, ()))) :=
  (f37t0 N a0 k1 (finK tab f37sig Try.f37.results.toList)).trans (by kernel_rfl)
theorem f37ok (h : laws_markMatrix.Spec) : EntryOk Try.prog 37 e37 :=
  entry_of_code (sig := f37sig) (c := f37c0) (pl := .n) (je := (some f37lE)) (B := f37B) Try.func37 (by kernel_rfl) (by kernel_rfl) (by kernel_rfl) tabOk f37GOk (by kernel_rfl) (by kernel_rfl) (by kernel_rfl) (by kernel_rfl) fun X hb hp => by
    obtain ⟨a0, k1, _⟩ := X
    obtain ⟨N, h⟩ := h a0 k1 hb.1
    exact ⟨N, (f37m N a0 k1).trans (h N (Nat.le_refl N))⟩
theorem e37ok : EntryOk Try.prog 37 e37 := f37ok laws_markMatrix.ok
end Go.Fw
set_option linter.unusedVariables false
set_option linter.unusedSimpArgs false
set_option maxRecDepth 100000
namespace Go.Fw
open Go.Proofs
/-! ### loop.example/g03115/laws.heldIntS -/
noncomputable def f38sig : Sig := ⟨[⟨.sl 3 (.int .i64), false, false⟩, ⟨.int .i64, false, false⟩], [⟨.int .i64, false, false⟩]⟩
noncomputable def e38 : Entry := ⟨f38sig, none, fun X => ((), ((laws_heldIntS.g X.1 X.2.1), ()))⟩
noncomputable def f38G : Nat → Option Entry := (fun _ => none)
theorem f38GOk : GOk Try.prog f38G := GOk.nil
noncomputable def f38lE : Clean := ⟨[], [], [], [], []⟩
noncomputable def f38s0 (a0 : List Int) (k1 : Int) : St := initSt f38sig.ps (a0, (k1, ()))
noncomputable def f38s1 (a0 : List Int) (k1 : Int) : St := stOf [(0, .c (.sn 3 (.int .i64) a0 none)), (1, .c (.int .i64 k1))] [] []
noncomputable def f38l1 : Clean := ⟨[0, 1], [], [], [], []⟩
noncomputable def f38s2 (a0 : List Int) (k1 : Int) (i5 : Int) : St := stOf [(0, .c (.sn 3 (.int .i64) a0 none)), (1, .c (.int .i64 k1)), (5, .c (.int .i64 i5))] [] []
noncomputable def f38l2 : Clean := ⟨[0, 1, 5], [], [], [], []⟩
noncomputable def f38s3 (k1 : Int) : St := stOf [(1, .c (.int .i64 k1))] [] []
noncomputable def f38l3 : Clean := ⟨[1], [], [], [], []⟩
noncomputable def f38s4 (t4 : Int) : St := stOf [(4, .c (.int .i64 t4))] [] []
noncomputable def f38l4 : Clean := ⟨[4], [], [], [], []⟩
noncomputable def f38B : Nat → Option Clean := lookL [(0, f38l3), (1000000, f38l4)]
noncomputable abbrev f38i {ρ : Type} (N : Nat) (c : Code) (p : Plan) (σ : St) (K : KT ρ) : Option ρ := iCode f38G tab f38B N c p σ K
noncomputable def f38c1 := codeAt (bodyOf Try.f38) [0]
theorem f38t1 {ρ : Type} (N : Nat) (a0 : List Int) (k1 : Int) (K : KT ρ) : f38i N f38c1 .n (f38s0 a0 k1) (joinK (some f38l1) K) =
  laws_heldIntS.Z1 N a0 k1 (fun a0 k1 => K .nrm (f38s1 a0 k1)) := by kernel_rfl
noncomputable def f38c4 := codeAt (bodyOf Try.f38) [1,0,0]
theorem f38t4 {ρ : Type} (N : Nat) (a0 : List Int) (k1 : Int) (K : KT ρ) : f38i N f38c4 .n (f38s1 a0 k1) (joinK (some f38l2) K) =
  laws_heldIntS.Z4 N a0 k1 (fun a0 k1 i5 => K .nrm (f38s2 a0 k1 i5)) := by kernel_rfl
noncomputable def f38c7 := codeAt (bodyOf Try.f38) [1,0,1,0,0]
theorem f38t7 {ρ : Type} (N : Nat) (a0 : List Int) (k1 : Int) (i5 : Int) (K : KT ρ) : f38i N f38c7 .n (f38s2 a0 k1 i5) (joinK (some f38l2) K) =
  laws_heldIntS.Z7 N a0 k1 i5 (fun a0 k1 i5 => K .nrm (f38s2 a0 k1 i5)) (fun k1 => K (.exit 0) (f38s3 k1)) (fun t4 => K .ret (f38s4 t4)) := by kernel_rfl
noncomputable def f38c6 := codeAt (bodyOf Try.f38) [1,0,1,0]
noncomputable def f38p6 : Plan := .mk none (some f38l2) .n .n
noncomputable abbrev f38w6 {ρ : Type} (N : Nat) (M : Nat) (σ : St) (K : KT ρ) : Option ρ := loopC (fun σ K => f38i N f38c7 .n σ K) f38l2 M σ K
theorem f38t6L {ρ : Type} (N : Nat) (K : KT ρ) : ∀ (M : Nat) (a0 : List Int) (k1 : Int) (i5 : Int), f38w6 N M (f38s2 a0 k1 i5) K =
  laws_heldIntS.Z6L N (fun k1 => K (.exit 0) (f38s3 k1)) (fun t4 => K .ret (f38s4 t4)) M a0 k1 i5
  | 0, _, _, _ => rfl
  | M + 1, a0, k1, i5 => viaRound (fun k => laws_heldIntS.Z7 N a0 k1 i5 k (fun k1 => K (.exit 0) (f38s3 k1)) (fun t4 => K .ret (f38s4 t4))) (f38t7 N a0 k1 i5 (seqK (fun σ => f38w6 N M σ K) K)) (funext fun a0 => funext fun k1 => funext fun i5 => f38t6L N K M a0 k1 i5) (by kernel_rfl) (by kernel_rfl)
theorem f38t6 {ρ : Type} (N : Nat) (a0 : List Int) (k1 : Int) (i5 : Int) (K : KT ρ) : f38i N f38c6 f38p6 (f38s2 a0 k1 i5) (joinK (some f38l3) K) =
  laws_heldIntS.Z6 N a0 k1 i5 (fun k1 => K (.exit 0) (f38s3 k1)) (fun t4 => K .ret (f38s4 t4)) :=
  viaLoop (by kernel_rfl) (by kernel_rfl) (σ' := f38s2 a0 k1 i5) (by kernel_rfl) (f38t6L N (joinK (some f38l3) K) N a0 k1 i5) (by kernel_rfl)
noncomputable def f38c5 := codeAt (bodyOf Try.f38) [1,0,1]
noncomputable def f38p5 : Plan := .mk (some f38l3) none f38p6 .n
theorem f38t5 {ρ : Type} (N : Nat) (a0 : List Int) (k1 : Int) (i5 : Int) (K : KT ρ) : f38i N f38c5 f38p5 (f38s2 a0 k1 i5) (joinK (some f38l3) K) =
  laws_heldIntS.Z5 N a0 k1 i5 (fun k1 => K .nrm (f38s3 k1)) (fun t4 => K .ret (f38s4 t4)) :=
  viaBlock (by kernel_rfl) (by kernel_rfl) (f38t6 N a0 k1 i5 (blockK 0 (joinK (some f38l3) K))) (by kernel_rfl)
noncomputable def f38c3 := codeAt (bodyOf Try.f38) [1,0]
noncomputable def f38p3 : Plan := .mk (some f38l2) none .n f38p5
theorem f38t3 {ρ : Type} (N : Nat) (a0 : List Int) (k1 : Int) (K : KT ρ) : f38i N f38c3 f38p3 (f38s1 a0 k1) (joinK (some f38l3) K) =
  laws_heldIntS.Z3 N a0 k1 (fun k1 => K .nrm (f38s3 k1)) (fun t4 => K .ret (f38s4 t4)) :=
  viaSeq (fun k => laws_heldIntS.Z4 N a0 k1 k) (by kernel_rfl) (by kernel_rfl) (f38t4 N a0 k1 (seqK (fun σ => f38i N f38c5 f38p5 σ (joinK (some f38l3) K)) (joinK (some f38l3) K))) (funext fun a0 => funext fun k1 => funext fun i5 => f38t5 N a0 k1 i5 K) (by kernel_rfl) (by kernel_rfl)
noncomputable def f38c8 := codeAt (bodyOf Try.f38) [1,1]
theorem f38t8 {ρ : Type} (N : Nat) (k1 : Int) (K : KT ρ) : f38i N f38c8 .n (f38s3 k1) (joinK (some f38lE) K) =
  laws_heldIntS.Z8 N k1 (fun t4 => K .ret (f38s4 t4)) := by kernel_rfl
noncomputable def f38c2 := codeAt (bodyOf Try.f38) [1]
noncomputable def f38p2 : Plan := .mk (some f38l3) none f38p3 .n
theorem f38t2 {ρ : Type} (N : Nat) (a0 : List Int) (k1 : Int) (K : KT ρ) : f38i N f38c2 f38p2 (f38s1 a0 k1) (joinK (some f38lE) K) =
  laws_heldIntS.Z2 N a0 k1 (fun t4 => K .ret (f38s4 t4)) :=
  viaSeq (fun k => laws_heldIntS.Z3 N a0 k1 k (fun t4 => K .ret (f38s4 t4))) (by kernel_rfl) (by kernel_rfl) (f38t3 N a0 k1 (seqK (fun σ => f38i N f38c8 .n σ (joinK (some f38lE) K)) (joinK (some f38lE) K))) (funext fun k1 => f38t8 N k1 K) (by kernel_rfl) (by kernel_rfl)
noncomputable def f38c0 := codeAt (bodyOf Try.f38) []
noncomputable def f38p0 : Plan := .mk (some f38l1) none .n f38p2
theorem f38t0 {ρ : Type} (N : Nat) (a0 : List Int) (k1 : Int) (K : KT ρ) : f38i N f38c0 f38p0 (f38s0 a0 k1) (joinK (some f38lE) K) =
  laws_heldIntS.Z0 N a0 k1 (fun t4 => K .ret (f38s4 t4)) :=
  viaSeq (fun k => laws_heldIntS.Z1 N a0 k1 k) (by kernel_rfl) (by kernel_rfl) (f38t1 N a0 k1 (seqK (fun σ => f38i N f38c2 f38p2 σ (joinK (some f38lE) K)) (joinK (some f38lE) K))) (funext fun a0 => funext fun k1 => f38t2 N a0 k1 K) (by kernel_rfl) (by kernel_rfl)
theorem f38m (N : Nat) (a0 : List Int) (k1 : Int) : f38i N f38c0 f38p0 (f38s0 a0 k1) (joinK (some f38lE) (finK tab f38sig Try.f38.results.toList)) = laws_heldIntS.Z0 N a0 k1 (fun t4 => some ((), (t4, ()))) :=
  (f38t0 N a0 k1 (finK tab f38sig Try.f38.results.toList)).trans (by kernel_rfl)
theorem f38ok (h : laws_heldIntS.Spec) : EntryOk Try.prog 38 e38 :=
  entry_of_code (sig := f38sig) (c := f38c0) (pl := f38p0) (je := (some f38lE)) (B := f38B) Try.func38 (by kernel_rfl) (by kernel_rfl) (by kernel_rfl) tabOk f38GOk (by kernel_rfl) (by kernel_rfl) (by kernel_rfl) (by kernel_rfl) fun X hb hp => by
    obtain ⟨a0, k1, _⟩ := X
    obtain ⟨N, h⟩ := h a0 k1 hb.1
    exact ⟨N, (f38m N a0 k1).trans (h N (Nat.le_refl N))⟩
theorem e38ok : EntryOk Try.prog 38 e38 := f38ok laws_heldIntS.ok
end Go.Fw
set_option linter.unusedVariables false
set_option linter.unusedSimpArgs false
set_option maxRecDepth 100000
namespace Go.Fw
open Go.Proofs
/-! ### loop.example/g03115/laws.heldMatrix -/
noncomputable def f45sig : Sig := ⟨[⟨.pair (.int .i64) (.pair (.int .i64) (.sl 3 (.int .i64))), true, false⟩, ⟨.int .i64, false, false⟩], [⟨.int .i64, false, false⟩]⟩
noncomputable def e45 : Entry := ⟨f45sig, none, fun X => ((), ((laws_heldMatrix.g X.1 X.2.1), ()))⟩
noncomputable def f45G : Nat → Option Entry := addG (fun _ => none) 38 e38
theorem f45GOk : GOk Try.prog f45G := (GOk.nil).add e38ok (by kernel_rfl)
noncomputable def f45lE : Clean := ⟨[], [], [], [], []⟩
noncomputable def f45s0 (a0 : Int × Int × List Int) (k1 : Int) : St := initSt f45sig.ps (a0, (k1, ()))
noncomputable def f45s1 (t4 : Int) : St := stOf [(4, .c (.int .i64 t4))] [] []
noncomputable def f45l1 : Clean := ⟨[4], [], [], [], []⟩
noncomputable def f45B : Nat → Option Clean := lookL [(1000000, f45l1)]
noncomputable abbrev f45i {ρ : Type} (N : Nat) (c : Code) (p : Plan) (σ : St) (K : KT ρ) : Option ρ := iCode f45G tab f45B N c p σ K
noncomputable def f45c0 := codeAt (bodyOf Try.f45) []
theorem f45t0 {ρ : Type} (N : Nat) (a0 : Int × Int × List Int) (k1 : Int) (K : KT ρ) : f45i N f45c0 .n (f45s0 a0 k1) (joinK (some f45lE) K) =
  laws_heldMatrix.Z0 N a0 k1 (fun t4 => K .ret (f45s1 t4)) := by kernel_rfl
theorem f45m (N : Nat) (a0 : Int × Int × List Int) (k1 : Int) : f45i N f45c0 .n (f45s0 a0 k1) (joinK (some f45lE) (finK tab f45sig Try.f45.results.toList)) = laws_heldMatrix.Z0 N a0 k1 (fun t4 => some ((), (t4, ()))) :=
  (f45t0 N a0 k1 (finK tab f45sig Try.f45.results.toList)).trans (by kernel_rfl)
theorem f45ok (h : laws_heldMatrix.Spec) : EntryOk Try.prog 45 e45 :=
  entry_of_code (sig := f45sig) (c := f45c0) (pl := .n) (je := (some f45lE)) (B := f45B) Try.func45 (by kernel_rfl) (by kernel_rfl) (by kernel_rfl) tabOk f45GOk (by kernel_rfl) (by kernel_rfl) (by kernel_rfl) (by kernel_rfl) fun X hb hp => by
    obtain ⟨a0, k1, _⟩ := X
    obtain ⟨N, h⟩ := h a0 k1 hb.1
    exact ⟨N, (f45m N a0 k1).trans (h N (Nat.le_refl N))⟩
theorem e45ok : EntryOk Try.prog 45 e45 := f45ok laws_heldMatrix.ok
end Go.Fw
set_option linter.unusedVariables false
set_option linter.unusedSimpArgs false
set_option maxRecDepth 100000
namespace Go.Fw
open Go.Proofs
/-! ### loop.example/g03115/laws.FnExactSquareOf -/
noncomputable def f12sig : Sig := ⟨[⟨.pair (.int .i64) (.pair (.int .i64) (.sl 3 (.int .i64))), true, false⟩], [⟨.bool, false, false⟩]⟩
noncomputable def e12 : Entry := ⟨f12sig, none, fun X => ((), ((laws_FnExactSquareOf.g X.1), ()))⟩
noncomputable def f12G : Nat → Option Entry := addG (addG (addG (addG (addG (addG (addG (fun _ => none) 30 e30) 32 e32) 34 e34) 37 e37) 43 e43) 44 e44) 45 e45
theorem f12GOk : GOk Try.prog f12G := (((((((GOk.nil).add e30ok (by kernel_rfl)).add e32ok (by kernel_rfl)).add e34ok (by kernel_rfl)).add e37ok (by kernel_rfl)).add e43ok (by kernel_rfl)).add e44ok (by kernel_rfl)).add e45ok (by kernel_rfl)
noncomputable def f12lE : Clean := ⟨[], [], [], [], []⟩
noncomputable def f12s0 (aM0 : Int × Int × List Int) : St := initSt f12sig.ps (aM0, ())
noncomputable def f12s1 (t2 : Bool) : St := stOf [(2, .c (.bool t2))] [] []
noncomputable def f12l1 : Clean := ⟨[2], [], [], [], []⟩
noncomputable def f12B : Nat → Option Clean := lookL [(1000000, f12l1)]
noncomputable abbrev f12i {ρ : Type} (N : Nat) (c : Code) (p : Plan) (σ : St) (K : KT ρ) : Option ρ := iCode f12G tab f12B N c p σ K
noncomputable def f12c0 := codeAt (bodyOf Try.f12) []
theorem f12t0 {ρ : Type} (N : Nat) (aM0 : Int × Int × List Int) (K : KT ρ) : f12i N f12c0 .n (f12s0 aM0) (joinK (some f12lE) K) =
  laws_FnExactSquareOf.Z0 N aM0 (fun t2 => K .ret (f12s1 t2)) := by kernel_rfl
theorem f12m (N : Nat) (aM0 : Int × Int × List Int) : f12i N f12c0 .n (f12s0 aM0) (joinK (some f12lE) (finK tab f12sig Try.f12.results.toList)) = laws_FnExactSquareOf.Z0 N aM0 (fun t2 => some ((), (t2, ()))) :=
  (f12t0 N aM0 (finK tab f12sig Try.f12.results.toList)).trans (by kernel_rfl)
theorem f12ok (h : laws_FnExactSquareOf.Spec) : EntryOk Try.prog 12 e12 :=
  entry_of_code (sig := f12sig) (c := f12c0) (pl := .n) (je := (some f12lE)) (B := f12B) Try.func12 (by kernel_rfl) (by kernel_rfl) (by kernel_rfl) tabOk f12GOk (by kernel_rfl) (by kernel_rfl) (by kernel_rfl) (by kernel_rfl) fun X hb hp => by
    obtain ⟨aM0, _⟩ := X
    obtain ⟨N, h⟩ := h aM0 hb.1
    exact ⟨N, (f12m N aM0).trans (h N (Nat.le_refl N))⟩
theorem e12ok : EntryOk Try.prog 12 e12 := f12ok laws_FnExactSquareOf.ok
end Go.Fw
