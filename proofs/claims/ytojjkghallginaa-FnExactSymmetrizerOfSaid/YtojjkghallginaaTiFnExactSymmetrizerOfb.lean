/- The ties: the program's text comes to the plain functions. Nothing is assumed. -/
import Derived.Test.YtojjkghallginaaPuFnExactSymmetrizerOfa
import Derived.Test.YtojjkghallginaaTiFnExactSymmetrizerOfa
set_option linter.unusedVariables false
set_option linter.unusedSimpArgs false
set_option maxRecDepth 100000
namespace Go.Fw
open Go.Proofs
/-! ### loop.example/g03115/laws.heldIntS -/
noncomputable def f38sig : Sig := ⟨[⟨.sl 3 (.int .i64), false, false⟩, ⟨.int .i64, false, false⟩], [⟨.int .i64, false, false⟩]⟩
noncomputable def e38 : Entry := ⟨f38sig, none, fun X => ((), ((laws_heldIntS.g X.1 X.2.1), ()))⟩
noncomputable def f38G : Nat → Option Entry := (fun _ => none)
theorem f38GOk : GOk Try.prog f38G := GOk.nil
noncomputable def f38lE : Clean := ⟨[], [], [], [], []⟩
noncomputable def f38s0 (a0 : List Int) (k1 : Int) : St := initSt f38sig.ps (a0, (k1, ()))
noncomputable def f38s1 (a0 : List Int) (k1 : Int) : St := stOf [(0, .c (.sn 3 (.int .i64) a0 none)), (1, .c (.int .i64 k1))] [] []
noncomputable def f38l1 : Clean := ⟨[0, 1], [], [], [], []⟩
noncomputable def f38s2 (a0 : List Int) (k1 : Int) (i5 : Int) : St := stOf [(0, .c (.sn 3 (.int .i64) a0 none)), (1, .c (.int .i64 k1)), (5, .c (.int .i64 i5))] [] []
noncomputable def f38l2 : Clean := ⟨[0, 1, 5], [], [], [], []⟩
noncomputable def f38s3 (k1 : Int) : St := stOf [(1, .c (.int .i64 k1))] [] []
noncomputable def f38l3 : Clean := ⟨[1], [], [], [], []⟩
noncomputable def f38s4 (t4 : Int) : St := stOf [(4, .c (.int .i64 t4))] [] []
noncomputable def f38l4 : Clean := ⟨[4], [], [], [], []⟩
noncomputable def f38B : Nat → Option Clean := lookL [(0, f38l3), (1000000, f38l4)]
noncomputable abbrev f38i {ρ : Type} (N : Nat) (c : Code) (p : Plan) (σ : St) (K : KT ρ) : Option ρ := iCode f38G tab f38B N c p σ K
noncomputable def f38c1 := codeAt (bodyOf Try.f38) [0]
theorem f38t1 {ρ : Type} (N : Nat) (a0 : List Int) (k1 : Int) (K : KT ρ) : f38i N f38c1 .n (f38s0 a0 k1) (joinK (some f38l1) K) =
  laws_heldIntS.Z1 N a0 k1 (fun a0 k1 => K .nrm (f38s1 a0 k1)) := by kernel_rfl
noncomputable def f38c4 := codeAt (bodyOf Try.f38) [1,0,0]
theorem f38t4 {ρ : Type} (N : Nat) (a0 : List Int) (k1 : Int) (K : KT ρ) : f38i N f38c4 .n (f38s1 a0 k1) (joinK (some f38l2) K) =
  laws_heldIntS.Z4 N a0 k1 (fun a0 k1 i5 => K .nrm (f38s2 a0 k1 i5)) := by kernel_rfl
noncomputable def f38c7 := codeAt (bodyOf Try.f38) [1,0,1,0,0]
theorem f38t7 {ρ : Type} (N : Nat) (a0 : List Int) (k1 : Int) (i5 : Int) (K : KT ρ) : f38i N f38c7 .n (f38s2 a0 k1 i5) (joinK (some f38l2) K) =
  laws_heldIntS.Z7 N a0 k1 i5 (fun a0 k1 i5 => K .nrm (f38s2 a0 k1 i5)) (fun k1 => K (.exit 0) (f38s3 k1)) (fun t4 => K .ret (f38s4 t4)) := by kernel_rfl
noncomputable def f38c6 := codeAt (bodyOf Try.f38) [1,0,1,0]
noncomputable def f38p6 : Plan := .mk none (some f38l2) .n .n
noncomputable abbrev f38w6 {ρ : Type} (N : Nat) (M : Nat) (σ : St) (K : KT ρ) : Option ρ := loopC (fun σ K => f38i N f38c7 .n σ K) f38l2 M σ K
theorem f38t6L {ρ : Type} (N : Nat) (K : KT ρ) : ∀ (M : Nat) (a0 : List Int) (k1 : Int) (i5 : Int), f38w6 N M (f38s2 a0 k1 i5) K =
  laws_heldIntS.Z6L N (fun k1 => K (.exit 0) (f38s3 k1)) (fun t4 => K .ret (f38s4 t4)) M a0 k1 i5
  | 0, _, _, _ => rfl
  | M + 1, a0, k1, i5 => viaRound (fun k => laws_heldIntS.Z7 N a0 k1 i5 k (fun k1 => K (.exit 0) (f38s3 k1)) (fun t4 => K .ret (f38s4 t4))) (f38t7 N a0 k1 i5 (seqK (fun σ => f38w6 N M σ K) K)) (funext fun a0 => funext fun k1 => funext fun i5 => f38t6L N K M a0 k1 i5) (by kernel_rfl) (by kernel_rfl)
theorem f38t6 {ρ : Type} (N : Nat) (a0 : List Int) (k1 : Int) (i5 : Int) (K : KT ρ) : f38i N f38c6 f38p6 (f38s2 a0 k1 i5) (joinK (some f38l3) K) =
  laws_heldIntS.Z6 N a0 k1 i5 (fun k1 => K (.exit 0) (f38s3 k1)) (fun t4 => K .ret (f38s4 t4)) :=
  viaLoop (by kernel_rfl) (by kernel_rfl) (σ' := f38s2 a0 k1 i5) (by kernel_rfl) (f38t6L N (joinK (some f38l3) K) N a0 k1 i5) (by kernel_rfl)
noncomputable def f38c5 := codeAt (bodyOf Try.f38) [1,0,1]
noncomputable def f38p5 : Plan := .mk (some f38l3) none f38p6 .n
theorem f38t5 {ρ : Type} (N : Nat) (a0 : List Int) (k1 : Int) (i5 : Int) (K : KT ρ) : f38i N f38c5 f38p5 (f38s2 a0 k1 i5) (joinK (some f38l3) K) =
  laws_heldIntS.Z5 N a0 k1 i5 (fun k1 => K .nrm (f38s3 k1)) (fun t4 => K .ret (f38s4 t4)) :=
  viaBlock (by kernel_rfl) (by kernel_rfl) (f38t6 N a0 k1 i5 (blockK 0 (joinK (some f38l3) K))) (by kernel_rfl)
noncomputable def f38c3 := codeAt (bodyOf Try.f38) [1,0]
noncomputable def f38p3 : Plan := .mk (some f38l2) none .n f38p5
theorem f38t3 {ρ : Type} (N : Nat) (a0 : List Int) (k1 : Int) (K : KT ρ) : f38i N f38c3 f38p3 (f38s1 a0 k1) (joinK (some f38l3) K) =
  laws_heldIntS.Z3 N a0 k1 (fun k1 => K .nrm (f38s3 k1)) (fun t4 => K .ret (f38s4 t4)) :=
  viaSeq (fun k => laws_heldIntS.Z4 N a0 k1 k) (by kernel_rfl) (by kernel_rfl) (f38t4 N a0 k1 (seqK (fun σ => f38i N f38c5 f38p5 σ (joinK (some f38l3) K)) (joinK (some f38l3) K))) (funext fun a0 => funext fun k1 => funext fun i5 => f38t5 N a0 k1 i5 K) (by kernel_rfl) (by kernel_rfl)
noncomputable def f38c8 := codeAt (bodyOf Try.f38) [1,1]
theorem f38t8 {ρ : Type} (N : Nat) (k1 : Int) (K : KT ρ) : f38i N f38c8 .n (f38s3 k1) (joinK (some f38lE) K) =
  laws_heldIntS.Z8 N k1 (fun t4 => K .ret (f38s4 t4)) := by kernel_rfl
noncomputable def f38c2 := codeAt (bodyOf Try.f38) [1]
noncomputable def f38p2 : Plan := .mk (some f38l3) none f38p3 .n
theorem f38t2 {ρ : Type} (N : Nat) (a0 : List Int) (k1 : Int) (K : KT ρ) : f38i N f38c2 f38p2 (f38s1 a0 k1) (joinK (some f38lE) K) =
  laws_heldIntS.Z2 N a0 k1 (fun t4 => K .ret (f38s4 t4)) :=
  viaSeq (fun k => laws_heldIntS.Z3 N a0 k1 k (fun t4 => K .ret (f38s4 t4))) (by kernel_rfl) (by kernel_rfl) (f38t3 N a0 k1 (seqK (fun σ => f38i N f38c8 .n σ (joinK (some f38lE) K)) (joinK (some f38lE) K))) (funext fun k1 => f38t8 N k1 K) (by kernel_rfl) (by kernel_rfl)
noncomputable def f38c0 := codeAt (bodyOf Try.f38) []
noncomputable def f38p0 : Plan := .mk (some f38l1) none .n f38p2
theorem f38t0 {ρ : Type} (N : Nat) (a0 : List Int) (k1 : Int) (K : KT ρ) : f38i N f38c0 f38p0 (f38s0 a0 k1) (joinK (some f38lE) K) =
  laws_heldIntS.Z0 N a0 k1 (fun t4 => K .ret (f38s4 t4)) :=
  viaSeq (fun k => laws_heldIntS.Z1 N a0 k1 k) (by kernel_rfl) (by kernel_rfl) (f38t1 N a0 k1 (seqK (fun σ => f38i N f38c2 f38p2 σ (joinK (some f38lE) K)) (joinK (some f38lE) K))) (funext fun a0 => funext fun k1 => f38t2 N a0 k1 K) (by kernel_rfl) (by kernel_rfl)
theorem f38m (N : Nat) (a0 : List Int) (k1 : Int) : f38i N f38c0 f38p0 (f38s0 a0 k1) (joinK (some f38lE) (finK tab f38sig Try.f38.results.toList)) = laws_heldIntS.Z0 N a0 k1 (fun t4 => some ((), (t4, ()))) :=
  (f38t0 N a0 k1 (finK tab f38sig Try.f38.results.toList)).trans (by kernel_rfl)
theorem f38ok (h : laws_heldIntS.Spec) : EntryOk Try.prog 38 e38 :=
  entry_of_code (sig := f38sig) (c := f38c0) (pl := f38p0) (je := (some f38lE)) (B := f38B) Try.func38 (by kernel_rfl) (by kernel_rfl) (by kernel_rfl) tabOk f38GOk (by kernel_rfl) (by kernel_rfl) (by kernel_rfl) (by kernel_rfl) fun X hb hp => by
    obtain ⟨a0, k1, _⟩ := X
    obtain ⟨N, h⟩ := h a0 k1 hb.1
    exact ⟨N, (f38m N a0 k1).trans (h N (Nat.le_refl N))⟩
theorem e38ok : EntryOk Try.prog 38 e38 := f38ok laws_heldIntS.ok
end Go.Fw
set_option linter.unusedVariables false
set_option linter.unusedSimpArgs false
set_option maxRecDepth 100000
namespace Go.Fw
open Go.Proofs
/-! ### loop.example/g03115/laws.FnExactSymmetrizerOf -/
noncomputable def f9sig : Sig := ⟨[⟨.pair (.int .i64) (.pair (.int .i64) (.sl 3 (.int .i64))), true, false⟩], [⟨.bool, false, false⟩]⟩
noncomputable def e9 : Entry := ⟨f9sig, none, fun X => ((), ((laws_FnExactSymmetrizerOf.g X.1), ()))⟩
noncomputable def f9G : Nat → Option Entry := addG (addG (addG (addG (addG (addG (addG (addG (addG (fun _ => none) 22 e22) 23 e23) 30 e30) 32 e32) 34 e34) 35 e35) 36 e36) 37 e37) 38 e38
theorem f9GOk : GOk Try.prog f9G := (((((((((GOk.nil).add e22ok (by kernel_rfl)).add e23ok (by kernel_rfl)).add e30ok (by kernel_rfl)).add e32ok (by kernel_rfl)).add e34ok (by kernel_rfl)).add e35ok (by kernel_rfl)).add e36ok (by kernel_rfl)).add e37ok (by kernel_rfl)).add e38ok (by kernel_rfl)
noncomputable def f9lE : Clean := ⟨[], [], [], [], []⟩
noncomputable def f9s0 (aM0 : Int × Int × List Int) : St := initSt f9sig.ps (aM0, ())
noncomputable def f9s1 (t2 : Bool) : St := stOf [(2, .c (.bool t2))] [] []
noncomputable def f9l1 : Clean := ⟨[2], [], [], [], []⟩
noncomputable def f9B : Nat → Option Clean := lookL [(1000000, f9l1)]
noncomputable abbrev f9i {ρ : Type} (N : Nat) (c : Code) (p : Plan) (σ : St) (K : KT ρ) : Option ρ := iCode f9G tab f9B N c p σ K
noncomputable def f9c0 := codeAt (bodyOf Try.f9) []
theorem f9t0 {ρ : Type} (N : Nat) (aM0 : Int × Int × List Int) (K : KT ρ) : f9i N f9c0 .n (f9s0 aM0) (joinK (some f9lE) K) =
  laws_FnExactSymmetrizerOf.Z0 N aM0 (fun t2 => K .ret (f9s1 t2)) := by kernel_rfl
theorem f9m (N : Nat) (aM0 : Int × Int × List Int) : f9i N f9c0 .n (f9s0 aM0) (joinK (some f9lE) (finK tab f9sig Try.f9.results.toList)) = laws_FnExactSymmetrizerOf.Z0 N aM0 (fun t2 => some ((), (t2, ()))) :=
  (f9t0 N aM0 (finK tab f9sig Try.f9.results.toList)).trans (by kernel_rfl)
theorem f9ok (h : laws_FnExactSymmetrizerOf.Spec) : EntryOk Try.prog 9 e9 :=
  entry_of_code (sig := f9sig) (c := f9c0) (pl := .n) (je := (some f9lE)) (B := f9B) Try.func9 (by kernel_rfl) (by kernel_rfl) (by kernel_rfl) tabOk f9GOk (by kernel_rfl) (by kernel_rfl) (by kernel_rfl) (by kernel_rfl) fun X hb hp => by
    obtain ⟨aM0, _⟩ := X
    obtain ⟨N, h⟩ := h aM0 hb.1
    exact ⟨N, (f9m N aM0).trans (h N (Nat.le_refl N))⟩
theorem e9ok : EntryOk Try.prog 9 e9 := f9ok laws_FnExactSymmetrizerOf.ok
end Go.Fw
