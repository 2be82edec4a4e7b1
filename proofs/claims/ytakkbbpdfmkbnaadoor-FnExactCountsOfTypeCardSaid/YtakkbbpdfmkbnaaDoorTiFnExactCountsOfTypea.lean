/- The ties: the program's text comes to the plain functions. Nothing is assumed. -/
import Derived.Test.YtakkbbpdfmkbnaaDoorFza
import Derived.Test.YtakkbbpdfmkbnaaDoorProg
import Derived.Test.YtakkbbpdfmkbnaaDoorPuFnExactCountsOfTypea
import Derived.Test.YtakkbbpdfmkbnaaDoorChecked
set_option linter.unusedVariables false
set_option linter.unusedSimpArgs false
set_option maxRecDepth 100000
namespace Go.Fw
open Go.Proofs
def tab : Tab := lookTab [
  (2, ⟨false, .int .i64, [.int .i64 0], [], none, 8⟩),
  (3, ⟨false, .int .i64, [.int .i64 0], [], none, 8⟩),
  (4, ⟨false, .bool, [.bool false], [], none, 1⟩),
  (5, ⟨false, .int .u8, [.int .u8 0], [], none, 1⟩),
  (6, ⟨false, .int .u8, [.int .u8 0], [], none, 1⟩),
  (7, ⟨true, .pair (.int .i64) (.pair (.int .i64) (.pair (.bool) (.int .u8))), [.int .i64 0, .int .i64 0, .bool false, .int .u8 0], [(0, 1, false), (1, 1, false), (2, 1, false), (3, 1, false)], none, 24⟩),
  (8, ⟨true, .pair (.int .i64) (.pair (.int .i64) (.pair (.bool) (.int .u8))), [.int .i64 0, .int .i64 0, .bool false, .int .u8 0], [(0, 1, false), (1, 1, false), (2, 1, false), (3, 1, false)], none, 24⟩),
  (9, ⟨false, .str, [.str ByteArray.empty], [], none, 16⟩),
  (10, ⟨false, .str, [.str ByteArray.empty], [], none, 16⟩),
  (11, ⟨false, .str, [.str ByteArray.empty], [], none, 16⟩),
  (12, ⟨false, .int .u64, [.int .u64 0], [], none, 8⟩),
  (13, ⟨true, .pair (.str) (.int .u64), [.str ByteArray.empty, .int .u64 0], [(0, 1, false), (1, 1, false)], none, 24⟩),
  (14, ⟨true, .pair (.str) (.int .u64), [.str ByteArray.empty, .int .u64 0], [(0, 1, false), (1, 1, false)], none, 24⟩),
  (21, ⟨false, .int .i32, [.int .i32 0], [], none, 4⟩),
  (25, ⟨false, .sl 3 (.int .i64), [.nil], [], some 3, 24⟩),
  (30, ⟨false, .sl 9 (.str), [.nil], [], some 9, 24⟩),
  (39, ⟨false, .sl 5 (.int .u8), [.nil], [], some 5, 24⟩),
  (61, ⟨false, .int .u64, [.int .u64 0], [], none, 8⟩),
  (63, ⟨false, .int .u64, [.int .u64 0], [], none, 8⟩),
  (69, ⟨true, .pair (.int .u8) (.int .u8), [.int .u8 0, .int .u8 0], [(0, 1, false), (1, 1, false)], none, 2⟩),
  (70, ⟨true, .pair (.int .u8) (.int .u8), [.int .u8 0, .int .u8 0], [(0, 1, false), (1, 1, false)], none, 2⟩)]
theorem tabOk : TOk Tryd.prog tab := TOk.of (by kernel_rfl)
noncomputable def tabl : List (String × IntKind × List Int) := []
noncomputable def intl : List (String × IntKind) := [("internal/bytealg.MaxLen", .i64)]
noncomputable instance : Inv Tryd.prog := Inv.tabs _ tabl intl
theorem int0 (w : World) (h : Inv.I Tryd.prog w) : ∃ g, Tryd.prog.globalNamed "internal/bytealg.MaxLen" = some g ∧ ∃ m, w.cell? ⟨g, 0, none⟩ = some (.int .i64 m) := Inv.int_mem (l := tabl) ("internal/bytealg.MaxLen", .i64) (List.mem_of_getElem? (i := 0) rfl) w h
end Go.Fw
namespace Go.Fw
variable {ρ : Type}
open Go.Proofs
noncomputable def f11sig : Sig := ⟨[⟨.str, false, false⟩, ⟨.int .u8, false, false⟩], [⟨.sl 9 (.str), false, false⟩]⟩
noncomputable def e11 : Entry := ⟨f11sig, (some fun X => spec_l1Split.P X.1 X.2.1), fun X => ((), ((spec_l1Split.g X.1 X.2.1), ()))⟩
noncomputable def f11G : Gm := emptyG
theorem f11GOk : GOk Tryd.prog f11G := GOk.nil
noncomputable def f11lE : Clean := ⟨[], [], [], [], []⟩
noncomputable def f11s0 (v0 : ByteArray) (v1 : Int) : St := initSt f11sig.ps (v0, (v1, ()))
noncomputable def f11s1 (v0 : ByteArray) (v1 : Int) : St := stOf [(0, .c (.str v0)), (1, .c (.int .u8 v1))] [] []
noncomputable def f11l1 : Clean := ⟨[0, 1], [], [], [], []⟩
noncomputable def f11s2 (v5 : List ByteArray) (v0 : ByteArray) (v1 : Int) : St := stOf [(0, .c (.str v0)), (1, .c (.int .u8 v1)), (5, xo 1000320)] [] [(1000320, (⟨9, .str, v5, true, false⟩ : Row))]
noncomputable def f11l2 : Clean := ⟨[0, 1, 5], [], [], [], [(⟨false, 5, 0⟩, 1000320)]⟩
noncomputable def f11s3 (v5 : List ByteArray) (v0 : ByteArray) (v1 v6 : Int) : St := stOf [(0, .c (.str v0)), (1, .c (.int .u8 v1)), (5, xo 1000320), (6, xi v6)] [] [(1000320, (⟨9, .str, v5, true, false⟩ : Row))]
noncomputable def f11l3 : Clean := ⟨[0, 1, 5, 6], [], [], [], [(⟨false, 5, 0⟩, 1000320)]⟩
noncomputable def f11s4 (v5 : List ByteArray) (v0 : ByteArray) (v1 v6 v7 : Int) : St := stOf [(0, .c (.str v0)), (1, .c (.int .u8 v1)), (5, xo 1000320), (6, xi v6), (7, xi v7)] [] [(1000320, (⟨9, .str, v5, true, false⟩ : Row))]
noncomputable def f11l4 : Clean := ⟨[0, 1, 5, 6, 7], [], [], [], [(⟨false, 5, 0⟩, 1000320)]⟩
noncomputable def f11s5 (v5 : List ByteArray) : St := stOf [(5, xo 1000320)] [] [(1000320, (⟨9, .str, v5, true, false⟩ : Row))]
noncomputable def f11l5 : Clean := ⟨[5], [], [], [], [(⟨false, 5, 0⟩, 1000320)]⟩
noncomputable def f11s6 (v4 : List ByteArray) : St := stOf [(4, xo 1000256)] [] [(1000256, (⟨9, .str, v4, true, false⟩ : Row))]
noncomputable def f11l6 : Clean := ⟨[4], [], [], [], [(⟨false, 4, 0⟩, 1000256)]⟩
noncomputable def f11B : Nat → Option Clean := lookL [(0, f11l5), (1000000, f11l6)]
noncomputable abbrev f11i {ρ : Type} (N : Nat) (c : Code) (p : Plan) (σ : St) (K : KT ρ) : Option ρ := iCode f11G tab f11B N c p σ K
noncomputable def f11c (n : Nat) : Code := codeN 99 (bodyOf Tryd.f11) n
theorem f11t1 N v0 v1 (K : KT ρ) : f11i N (f11c 2) .n (f11s0 v0 v1) (joinK (some f11l1) K) =
  spec_l1Split.Z1 N v0 v1 (fun v0 v1 => K .nrm (f11s1 v0 v1)) := by kernel_rfl
theorem f11t3 N v0 v1 (K : KT ρ) : f11i N (f11c 5) .n (f11s1 v0 v1) (joinK (some f11l2) K) =
  spec_l1Split.Z3 N v0 v1 (fun v5 v0 v1 => K .nrm (f11s2 v5 v0 v1)) := by kernel_rfl
theorem f11t5 N v5 v0 v1 (K : KT ρ) : f11i N (f11c 11) .n (f11s2 v5 v0 v1) (joinK (some f11l3) K) =
  spec_l1Split.Z5 N v5 v0 v1 (fun v5 v0 v1 v6 => K .nrm (f11s3 v5 v0 v1 v6)) := by kernel_rfl
theorem f11t8 N v5 v0 v1 v6 (K : KT ρ) : f11i N (f11c 39) .n (f11s3 v5 v0 v1 v6) (joinK (some f11l4) K) =
  spec_l1Split.Z8 N v5 v0 v1 v6 (fun v5 v0 v1 v6 v7 => K .nrm (f11s4 v5 v0 v1 v6 v7)) := by kernel_rfl
theorem f11t11 N v5 v0 v1 v6 v7 (K : KT ρ) : f11i N (f11c 151) .n (f11s4 v5 v0 v1 v6 v7) (joinK (some f11l4) K) =
  spec_l1Split.Z11 N v5 v0 v1 v6 v7 (fun v5 v0 v1 v6 v7 => K .nrm (f11s4 v5 v0 v1 v6 v7)) (fun v5 => K (.exit 0) (f11s5 v5)) := by kernel_rfl
noncomputable def f11p10 : Plan := .mk none (some f11l4) .n .n
noncomputable abbrev f11w10 {ρ : Type} (N M : Nat) (σ : St) (K : KT ρ) : Option ρ := loopC (fun σ K => f11i N (f11c 151) .n σ K) f11l4 M σ K
theorem f11t10L {ρ : Type} (N : Nat) (K : KT ρ) : ∀ (M : Nat) (v5 : List ByteArray) (v0 : ByteArray) (v1 v6 v7 : Int), f11w10 N M (f11s4 v5 v0 v1 v6 v7) K =
  spec_l1Split.Z10L N (fun v5 => K (.exit 0) (f11s5 v5)) M v5 v0 v1 v6 v7
  | 0, _, _, _, _, _ => rfl
  | M + 1, v5, v0, v1, v6, v7 => viaRoundS (fun k => spec_l1Split.Z11 N v5 v0 v1 v6 v7 k (fun v5 => K (.exit 0) (f11s5 v5))) (f11t11 N (K := seqK (fun σ => f11w10 N M σ K) K) ..) (fx5 fun v5 v0 v1 v6 v7 => f11t10L N K M v5 v0 v1 v6 v7) (by kernel_rfl)
theorem f11t10 N v5 v0 v1 v6 v7 (K : KT ρ) : f11i N (f11c 87) f11p10 (f11s4 v5 v0 v1 v6 v7) (joinK (some f11l5) K) =
  spec_l1Split.Z10 N v5 v0 v1 v6 v7 (fun v5 => K (.exit 0) (f11s5 v5)) :=
 viaLoopS (by kernel_rfl) (f11t10L N (joinK (some f11l5) K) N v5 v0 v1 v6 v7) (by kernel_rfl)
noncomputable def f11p9 : Plan := .mk (some f11l5) none f11p10 .n
theorem f11t9 N v5 v0 v1 v6 v7 (K : KT ρ) : f11i N (f11c 55) f11p9 (f11s4 v5 v0 v1 v6 v7) (joinK (some f11l5) K) =
  spec_l1Split.Z9 N v5 v0 v1 v6 v7 (fun v5 => K .nrm (f11s5 v5)) :=
 viaBlockS (by kernel_rfl) (f11t10 N (K := blockK 0 (joinK (some f11l5) K)) ..) (by kernel_rfl)
noncomputable def f11p7 : Plan := .mk (some f11l4) none .n f11p9
theorem f11t7 N v5 v0 v1 v6 (K : KT ρ) : f11i N (f11c 23) f11p7 (f11s3 v5 v0 v1 v6) (joinK (some f11l5) K) =
  spec_l1Split.Z7 N v5 v0 v1 v6 (fun v5 => K .nrm (f11s5 v5)) :=
 viaSeqS (fun k => spec_l1Split.Z8 N v5 v0 v1 v6 k) (by kernel_rfl) (f11t8 N (K := seqK (fun σ => f11i N (f11c 55) f11p9 σ (joinK (some f11l5) K)) (joinK (some f11l5) K)) ..) (fx5 fun v5 v0 v1 v6 v7 => f11t9 N v5 v0 v1 v6 v7 K) (by kernel_rfl)
theorem f11t12 N v5 (K : KT ρ) : f11i N (f11c 31) .n (f11s5 v5) (joinK (some f11lE) K) =
  spec_l1Split.Z12 N v5 (fun v4 => K .ret (f11s6 v4)) := by kernel_rfl
noncomputable def f11p6 : Plan := .mk (some f11l5) none f11p7 .n
theorem f11t6 N v5 v0 v1 v6 (K : KT ρ) : f11i N (f11c 15) f11p6 (f11s3 v5 v0 v1 v6) (joinK (some f11lE) K) =
  spec_l1Split.Z6 N v5 v0 v1 v6 (fun v4 => K .ret (f11s6 v4)) :=
 viaSeqS (fun k => spec_l1Split.Z7 N v5 v0 v1 v6 k) (by kernel_rfl) (f11t7 N (K := seqK (fun σ => f11i N (f11c 31) .n σ (joinK (some f11lE) K)) (joinK (some f11lE) K)) ..) (funext fun v5 => f11t12 N v5 K) (by kernel_rfl)
noncomputable def f11p4 : Plan := .mk (some f11l3) none .n f11p6
theorem f11t4 N v5 v0 v1 (K : KT ρ) : f11i N (f11c 7) f11p4 (f11s2 v5 v0 v1) (joinK (some f11lE) K) =
  spec_l1Split.Z4 N v5 v0 v1 (fun v4 => K .ret (f11s6 v4)) :=
 viaSeqS (fun k => spec_l1Split.Z5 N v5 v0 v1 k) (by kernel_rfl) (f11t5 N (K := seqK (fun σ => f11i N (f11c 15) f11p6 σ (joinK (some f11lE) K)) (joinK (some f11lE) K)) ..) (fx4 fun v5 v0 v1 v6 => f11t6 N v5 v0 v1 v6 K) (by kernel_rfl)
noncomputable def f11p2 : Plan := .mk (some f11l2) none .n f11p4
theorem f11t2 N v0 v1 (K : KT ρ) : f11i N (f11c 3) f11p2 (f11s1 v0 v1) (joinK (some f11lE) K) =
  spec_l1Split.Z2 N v0 v1 (fun v4 => K .ret (f11s6 v4)) :=
 viaSeqS (fun k => spec_l1Split.Z3 N v0 v1 k) (by kernel_rfl) (f11t3 N (K := seqK (fun σ => f11i N (f11c 7) f11p4 σ (joinK (some f11lE) K)) (joinK (some f11lE) K)) ..) (fx3 fun v5 v0 v1 => f11t4 N v5 v0 v1 K) (by kernel_rfl)
noncomputable def f11p0 : Plan := .mk (some f11l1) none .n f11p2
theorem f11t0 N v0 v1 (K : KT ρ) : f11i N (f11c 1) f11p0 (f11s0 v0 v1) (joinK (some f11lE) K) =
  spec_l1Split.Z0 N v0 v1 (fun v4 => K .ret (f11s6 v4)) :=
 viaSeqS (fun k => spec_l1Split.Z1 N v0 v1 k) (by kernel_rfl) (f11t1 N (K := seqK (fun σ => f11i N (f11c 3) f11p2 σ (joinK (some f11lE) K)) (joinK (some f11lE) K)) ..) (fx2 fun v0 v1 => f11t2 N v0 v1 K) (by kernel_rfl)
theorem f11m (N : Nat) (v0 : ByteArray) (v1 : Int) : f11i N (f11c 1) f11p0 (f11s0 v0 v1) (joinK (some f11lE) (finK tab f11sig Tryd.f11.results.toList)) = spec_l1Split.Z0 N v0 v1 (fun v4 => some ((), (v4, ()))) :=
  (f11t0 N v0 v1 (finK tab f11sig Tryd.f11.results.toList)).trans (by kernel_rfl)
theorem f11ok (h : spec_l1Split.Spec) : EntryOk Tryd.prog 11 e11 :=
  entry_of_code (sig := f11sig) (c := (f11c 1)) (pl := f11p0) (je := (some f11lE)) (B := f11B) Tryd.func11 (by kernel_rfl) (by kernel_rfl) (by kernel_rfl) tabOk f11GOk (by kernel_rfl) (by kernel_rfl) (by kernel_rfl) (by kernel_rfl) fun X hb hp => by
    obtain ⟨v0, v1, _⟩ := X
    obtain ⟨N, h⟩ := h v0 v1 hp
    exact ⟨N, (f11m N v0 v1).trans (h N (Nat.le_refl N))⟩
theorem e11ok : EntryOk Tryd.prog 11 e11 := f11ok spec_l1Split.ok
end Go.Fw
namespace Go.Fw
variable {ρ : Type}
open Go.Proofs
noncomputable def f18sig : Sig := ⟨[⟨.int .i64, false, false⟩, ⟨.int .i64, false, false⟩, ⟨.int .i64, false, false⟩], [⟨.bool, false, false⟩]⟩
noncomputable def e18 : Entry := ⟨f18sig, none, fun X => ((), ((spec_l1In.g X.1 X.2.1 X.2.2.1), ()))⟩
noncomputable def f18G : Gm := emptyG
theorem f18GOk : GOk Tryd.prog f18G := GOk.nil
noncomputable def f18lE : Clean := ⟨[], [], [], [], []⟩
noncomputable def f18s0 (v0 v1 v2 : Int) : St := initSt f18sig.ps (v0, (v1, (v2, ())))
noncomputable def f18s1 (v6 : Bool) : St := stOf [(6, xB v6)] [] []
noncomputable def f18l1 : Clean := ⟨[6], [], [], [], []⟩
noncomputable def f18B : Nat → Option Clean := lookL [(1000000, f18l1)]
noncomputable abbrev f18i {ρ : Type} (N : Nat) (c : Code) (p : Plan) (σ : St) (K : KT ρ) : Option ρ := iCode f18G tab f18B N c p σ K
noncomputable def f18c (n : Nat) : Code := codeN 99 (bodyOf Tryd.f18) n
theorem f18t0 N v0 v1 v2 (K : KT ρ) : f18i N (f18c 1) .n (f18s0 v0 v1 v2) (joinK (some f18lE) K) =
  spec_l1In.Z0 N v0 v1 v2 (fun v6 => K .ret (f18s1 v6)) := by kernel_rfl
theorem f18m (N : Nat) (v0 v1 v2 : Int) : f18i N (f18c 1) .n (f18s0 v0 v1 v2) (joinK (some f18lE) (finK tab f18sig Tryd.f18.results.toList)) = spec_l1In.Z0 N v0 v1 v2 (fun v6 => some ((), (v6, ()))) :=
  (f18t0 N v0 v1 v2 (finK tab f18sig Tryd.f18.results.toList)).trans (by kernel_rfl)
theorem f18ok (h : spec_l1In.Spec) : EntryOk Tryd.prog 18 e18 :=
  entry_of_code (sig := f18sig) (c := (f18c 1)) (pl := .n) (je := (some f18lE)) (B := f18B) Tryd.func18 (by kernel_rfl) (by kernel_rfl) (by kernel_rfl) tabOk f18GOk (by kernel_rfl) (by kernel_rfl) (by kernel_rfl) (by kernel_rfl) fun X hb hp => by
    obtain ⟨v0, v1, v2, _⟩ := X
    obtain ⟨N, h⟩ := h v0 v1 v2
    exact ⟨N, (f18m N v0 v1 v2).trans (h N (Nat.le_refl N))⟩
theorem e18ok : EntryOk Tryd.prog 18 e18 := f18ok spec_l1In.ok
end Go.Fw
namespace Go.Fw
variable {ρ : Type}
open Go.Proofs
noncomputable def f19sig : Sig := ⟨[⟨.int .i64, false, false⟩, ⟨.int .i64, false, false⟩], [⟨.int .i64, false, false⟩]⟩
noncomputable def e19 : Entry := ⟨f19sig, (some fun X => spec_l3Binomial.P X.1 X.2.1), fun X => ((), ((spec_l3Binomial.g X.1 X.2.1), ()))⟩
noncomputable def f19G : Gm := emptyG
theorem f19GOk : GOk Tryd.prog f19G := GOk.nil
noncomputable def f19lE : Clean := ⟨[], [], [], [], []⟩
noncomputable def f19s0 (v0 v1 : Int) : St := initSt f19sig.ps (v0, (v1, ()))
noncomputable def f19s1 (v0 v1 : Int) : St := stOf [(0, xi v0), (1, xi v1)] [] []
noncomputable def f19l1 : Clean := ⟨[0, 1], [], [], [], []⟩
noncomputable def f19s2 (v0 v1 v5 : Int) : St := stOf [(0, xi v0), (1, xi v1), (5, xi v5)] [] []
noncomputable def f19l2 : Clean := ⟨[0, 1, 5], [], [], [], []⟩
noncomputable def f19s3 (v0 v1 v5 v6 : Int) : St := stOf [(0, xi v0), (1, xi v1), (5, xi v5), (6, xi v6)] [] []
noncomputable def f19l3 : Clean := ⟨[0, 1, 5, 6], [], [], [], []⟩
noncomputable def f19s4 (v5 : Int) : St := stOf [(5, xi v5)] [] []
noncomputable def f19l4 : Clean := ⟨[5], [], [], [], []⟩
noncomputable def f19s5 (v4 : Int) : St := stOf [(4, xi v4)] [] []
noncomputable def f19l5 : Clean := ⟨[4], [], [], [], []⟩
noncomputable def f19B : Nat → Option Clean := lookL [(0, f19l4), (1000000, f19l5)]
noncomputable abbrev f19i {ρ : Type} (N : Nat) (c : Code) (p : Plan) (σ : St) (K : KT ρ) : Option ρ := iCode f19G tab f19B N c p σ K
noncomputable def f19c (n : Nat) : Code := codeN 99 (bodyOf Tryd.f19) n
theorem f19t1 N v0 v1 (K : KT ρ) : f19i N (f19c 2) .n (f19s0 v0 v1) (joinK (some f19l1) K) =
  spec_l3Binomial.Z1 N v0 v1 (fun v0 v1 => K .nrm (f19s1 v0 v1)) := by kernel_rfl
theorem f19t3 N v0 v1 (K : KT ρ) : f19i N (f19c 5) .n (f19s1 v0 v1) (joinK (some f19l2) K) =
  spec_l3Binomial.Z3 N v0 v1 (fun v0 v1 v5 => K .nrm (f19s2 v0 v1 v5)) := by kernel_rfl
theorem f19t6 N v0 v1 v5 (K : KT ρ) : f19i N (f19c 19) .n (f19s2 v0 v1 v5) (joinK (some f19l3) K) =
  spec_l3Binomial.Z6 N v0 v1 v5 (fun v0 v1 v5 v6 => K .nrm (f19s3 v0 v1 v5 v6)) := by kernel_rfl
theorem f19t9 N v0 v1 v5 v6 (K : KT ρ) : f19i N (f19c 75) .n (f19s3 v0 v1 v5 v6) (joinK (some f19l3) K) =
  spec_l3Binomial.Z9 N v0 v1 v5 v6 (fun v0 v1 v5 v6 => K .nrm (f19s3 v0 v1 v5 v6)) (fun v5 => K (.exit 0) (f19s4 v5)) := by kernel_rfl
noncomputable def f19p8 : Plan := .mk none (some f19l3) .n .n
noncomputable abbrev f19w8 {ρ : Type} (N M : Nat) (σ : St) (K : KT ρ) : Option ρ := loopC (fun σ K => f19i N (f19c 75) .n σ K) f19l3 M σ K
theorem f19t8L {ρ : Type} (N : Nat) (K : KT ρ) : ∀ (M : Nat) (v0 v1 v5 v6 : Int), f19w8 N M (f19s3 v0 v1 v5 v6) K =
  spec_l3Binomial.Z8L N (fun v5 => K (.exit 0) (f19s4 v5)) M v0 v1 v5 v6
  | 0, _, _, _, _ => rfl
  | M + 1, v0, v1, v5, v6 => viaRoundS (fun k => spec_l3Binomial.Z9 N v0 v1 v5 v6 k (fun v5 => K (.exit 0) (f19s4 v5))) (f19t9 N (K := seqK (fun σ => f19w8 N M σ K) K) ..) (fx4 fun v0 v1 v5 v6 => f19t8L N K M v0 v1 v5 v6) (by kernel_rfl)
theorem f19t8 N v0 v1 v5 v6 (K : KT ρ) : f19i N (f19c 43) f19p8 (f19s3 v0 v1 v5 v6) (joinK (some f19l4) K) =
  spec_l3Binomial.Z8 N v0 v1 v5 v6 (fun v5 => K (.exit 0) (f19s4 v5)) :=
 viaLoopS (by kernel_rfl) (f19t8L N (joinK (some f19l4) K) N v0 v1 v5 v6) (by kernel_rfl)
noncomputable def f19p7 : Plan := .mk (some f19l4) none f19p8 .n
theorem f19t7 N v0 v1 v5 v6 (K : KT ρ) : f19i N (f19c 27) f19p7 (f19s3 v0 v1 v5 v6) (joinK (some f19l4) K) =
  spec_l3Binomial.Z7 N v0 v1 v5 v6 (fun v5 => K .nrm (f19s4 v5)) :=
 viaBlockS (by kernel_rfl) (f19t8 N (K := blockK 0 (joinK (some f19l4) K)) ..) (by kernel_rfl)
noncomputable def f19p5 : Plan := .mk (some f19l3) none .n f19p7
theorem f19t5 N v0 v1 v5 (K : KT ρ) : f19i N (f19c 11) f19p5 (f19s2 v0 v1 v5) (joinK (some f19l4) K) =
  spec_l3Binomial.Z5 N v0 v1 v5 (fun v5 => K .nrm (f19s4 v5)) :=
 viaSeqS (fun k => spec_l3Binomial.Z6 N v0 v1 v5 k) (by kernel_rfl) (f19t6 N (K := seqK (fun σ => f19i N (f19c 27) f19p7 σ (joinK (some f19l4) K)) (joinK (some f19l4) K)) ..) (fx4 fun v0 v1 v5 v6 => f19t7 N v0 v1 v5 v6 K) (by kernel_rfl)
theorem f19t10 N v5 (K : KT ρ) : f19i N (f19c 15) .n (f19s4 v5) (joinK (some f19lE) K) =
  spec_l3Binomial.Z10 N v5 (fun v4 => K .ret (f19s5 v4)) := by kernel_rfl
noncomputable def f19p4 : Plan := .mk (some f19l4) none f19p5 .n
theorem f19t4 N v0 v1 v5 (K : KT ρ) : f19i N (f19c 7) f19p4 (f19s2 v0 v1 v5) (joinK (some f19lE) K) =
  spec_l3Binomial.Z4 N v0 v1 v5 (fun v4 => K .ret (f19s5 v4)) :=
 viaSeqS (fun k => spec_l3Binomial.Z5 N v0 v1 v5 k) (by kernel_rfl) (f19t5 N (K := seqK (fun σ => f19i N (f19c 15) .n σ (joinK (some f19lE) K)) (joinK (some f19lE) K)) ..) (funext fun v5 => f19t10 N v5 K) (by kernel_rfl)
noncomputable def f19p2 : Plan := .mk (some f19l2) none .n f19p4
theorem f19t2 N v0 v1 (K : KT ρ) : f19i N (f19c 3) f19p2 (f19s1 v0 v1) (joinK (some f19lE) K) =
  spec_l3Binomial.Z2 N v0 v1 (fun v4 => K .ret (f19s5 v4)) :=
 viaSeqS (fun k => spec_l3Binomial.Z3 N v0 v1 k) (by kernel_rfl) (f19t3 N (K := seqK (fun σ => f19i N (f19c 7) f19p4 σ (joinK (some f19lE) K)) (joinK (some f19lE) K)) ..) (fx3 fun v0 v1 v5 => f19t4 N v0 v1 v5 K) (by kernel_rfl)
noncomputable def f19p0 : Plan := .mk (some f19l1) none .n f19p2
theorem f19t0 N v0 v1 (K : KT ρ) : f19i N (f19c 1) f19p0 (f19s0 v0 v1) (joinK (some f19lE) K) =
  spec_l3Binomial.Z0 N v0 v1 (fun v4 => K .ret (f19s5 v4)) :=
 viaSeqS (fun k => spec_l3Binomial.Z1 N v0 v1 k) (by kernel_rfl) (f19t1 N (K := seqK (fun σ => f19i N (f19c 3) f19p2 σ (joinK (some f19lE) K)) (joinK (some f19lE) K)) ..) (fx2 fun v0 v1 => f19t2 N v0 v1 K) (by kernel_rfl)
theorem f19m (N : Nat) (v0 v1 : Int) : f19i N (f19c 1) f19p0 (f19s0 v0 v1) (joinK (some f19lE) (finK tab f19sig Tryd.f19.results.toList)) = spec_l3Binomial.Z0 N v0 v1 (fun v4 => some ((), (v4, ()))) :=
  (f19t0 N v0 v1 (finK tab f19sig Tryd.f19.results.toList)).trans (by kernel_rfl)
theorem f19ok (h : spec_l3Binomial.Spec) : EntryOk Tryd.prog 19 e19 :=
  entry_of_code (sig := f19sig) (c := (f19c 1)) (pl := f19p0) (je := (some f19lE)) (B := f19B) Tryd.func19 (by kernel_rfl) (by kernel_rfl) (by kernel_rfl) tabOk f19GOk (by kernel_rfl) (by kernel_rfl) (by kernel_rfl) (by kernel_rfl) fun X hb hp => by
    obtain ⟨v0, v1, _⟩ := X
    obtain ⟨N, h⟩ := h v0 v1 hp
    exact ⟨N, (f19m N v0 v1).trans (h N (Nat.le_refl N))⟩
theorem e19ok : EntryOk Tryd.prog 19 e19 := f19ok spec_l3Binomial.ok
end Go.Fw
namespace Go.Fw
variable {ρ : Type}
open Go.Proofs
noncomputable def f12sig : Sig := ⟨[⟨.int .u8, false, false⟩, ⟨.int .i64, false, false⟩], [⟨.int .i64, false, false⟩, ⟨.int .i64, false, false⟩, ⟨.bool, false, false⟩]⟩
noncomputable def e12 : Entry := ⟨f12sig, none, fun X => ((), ((spec_l3Counts.g X.1 X.2.1).1, ((spec_l3Counts.g X.1 X.2.1).2.1, ((spec_l3Counts.g X.1 X.2.1).2.2, ()))))⟩
noncomputable def f12G : Gm := addG (addG emptyG 18 e18) 19 e19
theorem f12GOk : GOk Tryd.prog f12G := ((GOk.nil).add e18ok (by kernel_rfl)).add e19ok (by kernel_rfl)
noncomputable def f12lE : Clean := ⟨[], [], [], [], []⟩
noncomputable def f12s0 (v0 v1 : Int) : St := initSt f12sig.ps (v0, (v1, ()))
noncomputable def f12s1 (v0 v1 : Int) : St := stOf [(0, .c (.int .u8 v0)), (1, xi v1)] [] []
noncomputable def f12l1 : Clean := ⟨[0, 1], [], [], [], []⟩
noncomputable def f12s2 (v0 v1 : Int) (v7 : Bool) : St := stOf [(0, .c (.int .u8 v0)), (1, xi v1), (7, xB v7)] [] []
noncomputable def f12l2 : Clean := ⟨[0, 1, 7], [], [], [], []⟩
noncomputable def f12s3 (v0 v1 : Int) (v28 : Bool) : St := stOf [(0, .c (.int .u8 v0)), (1, xi v1), (28, xB v28)] [] []
noncomputable def f12l3 : Clean := ⟨[0, 1, 28], [], [], [], []⟩
noncomputable def f12s4 (v0 v1 : Int) (v51 : Bool) : St := stOf [(0, .c (.int .u8 v0)), (1, xi v1), (51, xB v51)] [] []
noncomputable def f12l4 : Clean := ⟨[0, 1, 51], [], [], [], []⟩
noncomputable def f12s5  : St := stOf [] [] []
noncomputable def f12l5 : Clean := ⟨[], [], [], [], []⟩
noncomputable def f12s6 (v4 v5 : Int) (v6 : Bool) : St := stOf [(4, xi v4), (5, xi v5), (6, xB v6)] [] []
noncomputable def f12l6 : Clean := ⟨[4, 5, 6], [], [], [], []⟩
noncomputable def f12B : Nat → Option Clean := lookL [(0, f12l5), (1000000, f12l6)]
noncomputable abbrev f12i {ρ : Type} (N : Nat) (c : Code) (p : Plan) (σ : St) (K : KT ρ) : Option ρ := iCode f12G tab f12B N c p σ K
noncomputable def f12c (n : Nat) : Code := codeN 99 (bodyOf Tryd.f12) n
theorem f12t1 N v0 v1 (K : KT ρ) : f12i N (f12c 2) .n (f12s0 v0 v1) (joinK (some f12l1) K) =
  spec_l3Counts.Z1 N v0 v1 (fun v0 v1 => K .nrm (f12s1 v0 v1)) := by kernel_rfl
theorem f12t5 N v0 v1 (K : KT ρ) : f12i N (f12c 17) .n (f12s1 v0 v1) (joinK (some f12l2) K) =
  spec_l3Counts.Z5 N v0 v1 (fun v0 v1 v7 => K .nrm (f12s2 v0 v1 v7)) := by kernel_rfl
theorem f12t7 N v0 v1 v7 (K : KT ρ) : f12i N (f12c 41) .n (f12s2 v0 v1 v7) (joinK (some f12l5) K) =
  spec_l3Counts.Z7 N v0 v1 v7 (fun v4 v5 v6 => K .ret (f12s6 v4 v5 v6)) := by kernel_rfl
theorem f12t9 N v0 v1 v7 (K : KT ρ) : f12i N (f12c 89) .n (f12s2 v0 v1 v7) (joinK (some f12l3) K) =
  spec_l3Counts.Z9 N v0 v1 v7 (fun v0 v1 v28 => K .nrm (f12s3 v0 v1 v28)) := by kernel_rfl
theorem f12t11 N v0 v1 v28 (K : KT ρ) : f12i N (f12c 185) .n (f12s3 v0 v1 v28) (joinK (some f12l5) K) =
  spec_l3Counts.Z11 N v0 v1 v28 (fun v4 v5 v6 => K .ret (f12s6 v4 v5 v6)) := by kernel_rfl
theorem f12t13 N v0 v1 v28 (K : KT ρ) : f12i N (f12c 377) .n (f12s3 v0 v1 v28) (joinK (some f12l4) K) =
  spec_l3Counts.Z13 N v0 v1 v28 (fun v0 v1 v51 => K .nrm (f12s4 v0 v1 v51)) := by kernel_rfl
theorem f12t14 N v0 v1 v51 (K : KT ρ) : f12i N (f12c 505) .n (f12s4 v0 v1 v51) (joinK (some f12l5) K) =
  spec_l3Counts.Z14 N v0 v1 v51 (K .nrm f12s5) (fun v4 v5 v6 => K .ret (f12s6 v4 v5 v6)) := by kernel_rfl
noncomputable def f12p12 : Plan := .mk (some f12l4) none .n .n
theorem f12t12 N v0 v1 v28 (K : KT ρ) : f12i N (f12c 249) f12p12 (f12s3 v0 v1 v28) (joinK (some f12l5) K) =
  spec_l3Counts.Z12 N v0 v1 v28 (K .nrm f12s5) (fun v4 v5 v6 => K .ret (f12s6 v4 v5 v6)) :=
 viaSeqS (fun k => spec_l3Counts.Z13 N v0 v1 v28 k) (by kernel_rfl) (f12t13 N (K := seqK (fun σ => f12i N (f12c 505) .n σ (joinK (some f12l5) K)) (joinK (some f12l5) K)) ..) (fx3 fun v0 v1 v51 => f12t14 N v0 v1 v51 K) (by kernel_rfl)
noncomputable def f12p10 : Plan := .mk none none .n f12p12
theorem f12t10 N v0 v1 v28 (K : KT ρ) : f12i N (f12c 121) f12p10 (f12s3 v0 v1 v28) (joinK (some f12l5) K) =
  spec_l3Counts.Z10 N v0 v1 v28 (K .nrm f12s5) (fun v4 v5 v6 => K .ret (f12s6 v4 v5 v6)) :=
 viaCondS (x := .tmp 28) (t := v28) (by kernel_rfl) (f12t11 N (K := K) ..) (f12t12 N (K := K) ..) (by kernel_rfl)
noncomputable def f12p8 : Plan := .mk (some f12l3) none .n f12p10
theorem f12t8 N v0 v1 v7 (K : KT ρ) : f12i N (f12c 57) f12p8 (f12s2 v0 v1 v7) (joinK (some f12l5) K) =
  spec_l3Counts.Z8 N v0 v1 v7 (K .nrm f12s5) (fun v4 v5 v6 => K .ret (f12s6 v4 v5 v6)) :=
 viaSeqS (fun k => spec_l3Counts.Z9 N v0 v1 v7 k) (by kernel_rfl) (f12t9 N (K := seqK (fun σ => f12i N (f12c 121) f12p10 σ (joinK (some f12l5) K)) (joinK (some f12l5) K)) ..) (fx3 fun v0 v1 v28 => f12t10 N v0 v1 v28 K) (by kernel_rfl)
noncomputable def f12p6 : Plan := .mk none none .n f12p8
theorem f12t6 N v0 v1 v7 (K : KT ρ) : f12i N (f12c 25) f12p6 (f12s2 v0 v1 v7) (joinK (some f12l5) K) =
  spec_l3Counts.Z6 N v0 v1 v7 (K .nrm f12s5) (fun v4 v5 v6 => K .ret (f12s6 v4 v5 v6)) :=
 viaCondS (x := .tmp 7) (t := v7) (by kernel_rfl) (f12t7 N (K := K) ..) (f12t8 N (K := K) ..) (by kernel_rfl)
noncomputable def f12p4 : Plan := .mk (some f12l2) none .n f12p6
theorem f12t4 N v0 v1 (K : KT ρ) : f12i N (f12c 9) f12p4 (f12s1 v0 v1) (joinK (some f12l5) K) =
  spec_l3Counts.Z4 N v0 v1 (K .nrm f12s5) (fun v4 v5 v6 => K .ret (f12s6 v4 v5 v6)) :=
 viaSeqS (fun k => spec_l3Counts.Z5 N v0 v1 k) (by kernel_rfl) (f12t5 N (K := seqK (fun σ => f12i N (f12c 25) f12p6 σ (joinK (some f12l5) K)) (joinK (some f12l5) K)) ..) (fx3 fun v0 v1 v7 => f12t6 N v0 v1 v7 K) (by kernel_rfl)
noncomputable def f12p3 : Plan := .mk (some f12l5) none f12p4 .n
theorem f12t3 N v0 v1 (K : KT ρ) : f12i N (f12c 5) f12p3 (f12s1 v0 v1) (joinK (some f12l5) K) =
  spec_l3Counts.Z3 N v0 v1 (K .nrm f12s5) (fun v4 v5 v6 => K .ret (f12s6 v4 v5 v6)) :=
 viaBlockS (by kernel_rfl) (f12t4 N (K := blockK 0 (joinK (some f12l5) K)) ..) (by kernel_rfl)
theorem f12t15 N  (K : KT ρ) : f12i N (f12c 7) .n f12s5 (joinK (some f12lE) K) =
  spec_l3Counts.Z15 N (fun v4 v5 v6 => K .ret (f12s6 v4 v5 v6)) := by kernel_rfl
noncomputable def f12p2 : Plan := .mk (some f12l5) none f12p3 .n
theorem f12t2 N v0 v1 (K : KT ρ) : f12i N (f12c 3) f12p2 (f12s1 v0 v1) (joinK (some f12lE) K) =
  spec_l3Counts.Z2 N v0 v1 (fun v4 v5 v6 => K .ret (f12s6 v4 v5 v6)) :=
 viaSeqS (fun k => spec_l3Counts.Z3 N v0 v1 k (fun v4 v5 v6 => K .ret (f12s6 v4 v5 v6))) (by kernel_rfl) (f12t3 N (K := seqK (fun σ => f12i N (f12c 7) .n σ (joinK (some f12lE) K)) (joinK (some f12lE) K)) ..) (f12t15 N K) (by kernel_rfl)
noncomputable def f12p0 : Plan := .mk (some f12l1) none .n f12p2
theorem f12t0 N v0 v1 (K : KT ρ) : f12i N (f12c 1) f12p0 (f12s0 v0 v1) (joinK (some f12lE) K) =
  spec_l3Counts.Z0 N v0 v1 (fun v4 v5 v6 => K .ret (f12s6 v4 v5 v6)) :=
 viaSeqS (fun k => spec_l3Counts.Z1 N v0 v1 k) (by kernel_rfl) (f12t1 N (K := seqK (fun σ => f12i N (f12c 3) f12p2 σ (joinK (some f12lE) K)) (joinK (some f12lE) K)) ..) (fx2 fun v0 v1 => f12t2 N v0 v1 K) (by kernel_rfl)
theorem f12m (N : Nat) (v0 v1 : Int) : f12i N (f12c 1) f12p0 (f12s0 v0 v1) (joinK (some f12lE) (finK tab f12sig Tryd.f12.results.toList)) = spec_l3Counts.Z0 N v0 v1 (fun v4 v5 v6 => some ((), (v4, (v5, (v6, ()))))) :=
  (f12t0 N v0 v1 (finK tab f12sig Tryd.f12.results.toList)).trans (by kernel_rfl)
theorem f12ok (h : spec_l3Counts.Spec) : EntryOk Tryd.prog 12 e12 :=
  entry_of_code (sig := f12sig) (c := (f12c 1)) (pl := f12p0) (je := (some f12lE)) (B := f12B) Tryd.func12 (by kernel_rfl) (by kernel_rfl) (by kernel_rfl) tabOk f12GOk (by kernel_rfl) (by kernel_rfl) (by kernel_rfl) (by kernel_rfl) fun X hb hp => by
    obtain ⟨v0, v1, _⟩ := X
    obtain ⟨N, h⟩ := h v0 v1
    exact ⟨N, (f12m N v0 v1).trans (h N (Nat.le_refl N))⟩
theorem e12ok : EntryOk Tryd.prog 12 e12 := f12ok spec_l3Counts.ok
end Go.Fw
namespace Go.Fw
variable {ρ : Type}
open Go.Proofs
noncomputable def f5sig : Sig := ⟨[⟨.str, false, false⟩], [⟨.int .i64, false, false⟩, ⟨.int .i64, false, false⟩, ⟨.bool, false, false⟩]⟩
noncomputable def e5 : Entry := ⟨f5sig, (some fun X => spec_CountsOfType.P X.1), fun X => ((), ((spec_CountsOfType.g X.1).1, ((spec_CountsOfType.g X.1).2.1, ((spec_CountsOfType.g X.1).2.2, ()))))⟩
noncomputable def f5G : Gm := addG (addG emptyG 11 e11) 12 e12
theorem f5GOk : GOk Tryd.prog f5G := ((GOk.nil).add e11ok (by kernel_rfl)).add e12ok (by kernel_rfl)
noncomputable def f5lE : Clean := ⟨[], [], [], [], []⟩
noncomputable def f5s0 (v0 : ByteArray) : St := initSt f5sig.ps (v0, ())
noncomputable def f5s1 (v0 : ByteArray) : St := stOf [(0, .c (.str v0))] [] []
noncomputable def f5l1 : Clean := ⟨[0], [], [], [], []⟩
noncomputable def f5s2 (v5 : List ByteArray) : St := stOf [(5, xo 1000320)] [] [(1000320, (⟨9, .str, v5, true, false⟩ : Row))]
noncomputable def f5l2 : Clean := ⟨[5], [], [], [], [(⟨false, 5, 0⟩, 1000320)]⟩
noncomputable def f5s3 (v5 : List ByteArray) (v6 : Int) : St := stOf [(5, xo 1000320), (6, xi v6)] [] [(1000320, (⟨9, .str, v5, true, false⟩ : Row))]
noncomputable def f5l3 : Clean := ⟨[5, 6], [], [], [], [(⟨false, 5, 0⟩, 1000320)]⟩
noncomputable def f5s4 (v5 : List ByteArray) (v6 v7 : Int) : St := stOf [(5, xo 1000320), (6, xi v6), (7, xi v7)] [] [(1000320, (⟨9, .str, v5, true, false⟩ : Row))]
noncomputable def f5l4 : Clean := ⟨[5, 6, 7], [], [], [], [(⟨false, 5, 0⟩, 1000320)]⟩
noncomputable def f5s5 (v5 : List ByteArray) (v6 v7 v8 : Int) : St := stOf [(5, xo 1000320), (6, xi v6), (7, xi v7), (8, xi v8)] [] [(1000320, (⟨9, .str, v5, true, false⟩ : Row))]
noncomputable def f5l5 : Clean := ⟨[5, 6, 7, 8], [], [], [], [(⟨false, 5, 0⟩, 1000320)]⟩
noncomputable def f5s6 (v5 : List ByteArray) (v6 v7 v8 v9 : Int) : St := stOf [(5, xo 1000320), (6, xi v6), (7, xi v7), (8, xi v8), (9, xi v9)] [] [(1000320, (⟨9, .str, v5, true, false⟩ : Row))]
noncomputable def f5l6 : Clean := ⟨[5, 6, 7, 8, 9], [], [], [], [(⟨false, 5, 0⟩, 1000320)]⟩
noncomputable def f5s7 (v6 v7 v8 : Int) : St := stOf [(6, xi v6), (7, xi v7), (8, xi v8)] [] []
noncomputable def f5l7 : Clean := ⟨[6, 7, 8], [], [], [], []⟩
noncomputable def f5s8 (v2 v3 : Int) (v4 : Bool) : St := stOf [(2, xi v2), (3, xi v3), (4, xB v4)] [] []
noncomputable def f5l8 : Clean := ⟨[2, 3, 4], [], [], [], []⟩
noncomputable def f5B : Nat → Option Clean := lookL [(0, f5l7), (1000000, f5l8)]
noncomputable abbrev f5i {ρ : Type} (N : Nat) (c : Code) (p : Plan) (σ : St) (K : KT ρ) : Option ρ := iCode f5G tab f5B N c p σ K
noncomputable def f5c (n : Nat) : Code := codeN 99 (bodyOf Tryd.f5) n
theorem f5t1 N v0 (K : KT ρ) : f5i N (f5c 2) .n (f5s0 v0) (joinK (some f5l1) K) =
  spec_CountsOfType.Z1 N v0 (fun v0 => K .nrm (f5s1 v0)) := by kernel_rfl
theorem f5t3 N v0 (K : KT ρ) : f5i N (f5c 5) .n (f5s1 v0) (joinK (some f5l2) K) =
  spec_CountsOfType.Z3 N v0 (fun v5 => K .nrm (f5s2 v5)) := by kernel_rfl
theorem f5t5 N v5 (K : KT ρ) : f5i N (f5c 11) .n (f5s2 v5) (joinK (some f5l3) K) =
  spec_CountsOfType.Z5 N v5 (fun v5 v6 => K .nrm (f5s3 v5 v6)) := by kernel_rfl
theorem f5t7 N v5 v6 (K : KT ρ) : f5i N (f5c 23) .n (f5s3 v5 v6) (joinK (some f5l4) K) =
  spec_CountsOfType.Z7 N v5 v6 (fun v5 v6 v7 => K .nrm (f5s4 v5 v6 v7)) := by kernel_rfl
theorem f5t9 N v5 v6 v7 (K : KT ρ) : f5i N (f5c 47) .n (f5s4 v5 v6 v7) (joinK (some f5l5) K) =
  spec_CountsOfType.Z9 N v5 v6 v7 (fun v5 v6 v7 v8 => K .nrm (f5s5 v5 v6 v7 v8)) := by kernel_rfl
theorem f5t12 N v5 v6 v7 v8 (K : KT ρ) : f5i N (f5c 159) .n (f5s5 v5 v6 v7 v8) (joinK (some f5l6) K) =
  spec_CountsOfType.Z12 N v5 v6 v7 v8 (fun v5 v6 v7 v8 v9 => K .nrm (f5s6 v5 v6 v7 v8 v9)) := by kernel_rfl
theorem f5t15 N v5 v6 v7 v8 v9 (K : KT ρ) : f5i N (f5c 607) .n (f5s6 v5 v6 v7 v8 v9) (joinK (some f5l6) K) =
  spec_CountsOfType.Z15 N v5 v6 v7 v8 v9 (fun v5 v6 v7 v8 v9 => K .nrm (f5s6 v5 v6 v7 v8 v9)) (fun v6 v7 v8 => K (.exit 0) (f5s7 v6 v7 v8)) (fun v2 v3 v4 => K .ret (f5s8 v2 v3 v4)) := by kernel_rfl
noncomputable def f5p14 : Plan := .mk none (some f5l6) .n .n
noncomputable abbrev f5w14 {ρ : Type} (N M : Nat) (σ : St) (K : KT ρ) : Option ρ := loopC (fun σ K => f5i N (f5c 607) .n σ K) f5l6 M σ K
theorem f5t14L {ρ : Type} (N : Nat) (K : KT ρ) : ∀ (M : Nat) (v5 : List ByteArray) (v6 v7 v8 v9 : Int), f5w14 N M (f5s6 v5 v6 v7 v8 v9) K =
  spec_CountsOfType.Z14L N (fun v6 v7 v8 => K (.exit 0) (f5s7 v6 v7 v8)) (fun v2 v3 v4 => K .ret (f5s8 v2 v3 v4)) M v5 v6 v7 v8 v9
  | 0, _, _, _, _, _ => rfl
  | M + 1, v5, v6, v7, v8, v9 => viaRoundS (fun k => spec_CountsOfType.Z15 N v5 v6 v7 v8 v9 k (fun v6 v7 v8 => K (.exit 0) (f5s7 v6 v7 v8)) (fun v2 v3 v4 => K .ret (f5s8 v2 v3 v4))) (f5t15 N (K := seqK (fun σ => f5w14 N M σ K) K) ..) (fx5 fun v5 v6 v7 v8 v9 => f5t14L N K M v5 v6 v7 v8 v9) (by kernel_rfl)
theorem f5t14 N v5 v6 v7 v8 v9 (K : KT ρ) : f5i N (f5c 351) f5p14 (f5s6 v5 v6 v7 v8 v9) (joinK (some f5l7) K) =
  spec_CountsOfType.Z14 N v5 v6 v7 v8 v9 (fun v6 v7 v8 => K (.exit 0) (f5s7 v6 v7 v8)) (fun v2 v3 v4 => K .ret (f5s8 v2 v3 v4)) :=
 viaLoopS (by kernel_rfl) (f5t14L N (joinK (some f5l7) K) N v5 v6 v7 v8 v9) (by kernel_rfl)
noncomputable def f5p13 : Plan := .mk (some f5l7) none f5p14 .n
theorem f5t13 N v5 v6 v7 v8 v9 (K : KT ρ) : f5i N (f5c 223) f5p13 (f5s6 v5 v6 v7 v8 v9) (joinK (some f5l7) K) =
  spec_CountsOfType.Z13 N v5 v6 v7 v8 v9 (fun v6 v7 v8 => K .nrm (f5s7 v6 v7 v8)) (fun v2 v3 v4 => K .ret (f5s8 v2 v3 v4)) :=
 viaBlockS (by kernel_rfl) (f5t14 N (K := blockK 0 (joinK (some f5l7) K)) ..) (by kernel_rfl)
noncomputable def f5p11 : Plan := .mk (some f5l6) none .n f5p13
theorem f5t11 N v5 v6 v7 v8 (K : KT ρ) : f5i N (f5c 95) f5p11 (f5s5 v5 v6 v7 v8) (joinK (some f5l7) K) =
  spec_CountsOfType.Z11 N v5 v6 v7 v8 (fun v6 v7 v8 => K .nrm (f5s7 v6 v7 v8)) (fun v2 v3 v4 => K .ret (f5s8 v2 v3 v4)) :=
 viaSeqS (fun k => spec_CountsOfType.Z12 N v5 v6 v7 v8 k) (by kernel_rfl) (f5t12 N (K := seqK (fun σ => f5i N (f5c 223) f5p13 σ (joinK (some f5l7) K)) (joinK (some f5l7) K)) ..) (fx5 fun v5 v6 v7 v8 v9 => f5t13 N v5 v6 v7 v8 v9 K) (by kernel_rfl)
theorem f5t16 N v6 v7 v8 (K : KT ρ) : f5i N (f5c 127) .n (f5s7 v6 v7 v8) (joinK (some f5lE) K) =
  spec_CountsOfType.Z16 N v6 v7 v8 (fun v2 v3 v4 => K .ret (f5s8 v2 v3 v4)) := by kernel_rfl
noncomputable def f5p10 : Plan := .mk (some f5l7) none f5p11 .n
theorem f5t10 N v5 v6 v7 v8 (K : KT ρ) : f5i N (f5c 63) f5p10 (f5s5 v5 v6 v7 v8) (joinK (some f5lE) K) =
  spec_CountsOfType.Z10 N v5 v6 v7 v8 (fun v2 v3 v4 => K .ret (f5s8 v2 v3 v4)) :=
 viaSeqS (fun k => spec_CountsOfType.Z11 N v5 v6 v7 v8 k (fun v2 v3 v4 => K .ret (f5s8 v2 v3 v4))) (by kernel_rfl) (f5t11 N (K := seqK (fun σ => f5i N (f5c 127) .n σ (joinK (some f5lE) K)) (joinK (some f5lE) K)) ..) (fx3 fun v6 v7 v8 => f5t16 N v6 v7 v8 K) (by kernel_rfl)
noncomputable def f5p8 : Plan := .mk (some f5l5) none .n f5p10
theorem f5t8 N v5 v6 v7 (K : KT ρ) : f5i N (f5c 31) f5p8 (f5s4 v5 v6 v7) (joinK (some f5lE) K) =
  spec_CountsOfType.Z8 N v5 v6 v7 (fun v2 v3 v4 => K .ret (f5s8 v2 v3 v4)) :=
 viaSeqS (fun k => spec_CountsOfType.Z9 N v5 v6 v7 k) (by kernel_rfl) (f5t9 N (K := seqK (fun σ => f5i N (f5c 63) f5p10 σ (joinK (some f5lE) K)) (joinK (some f5lE) K)) ..) (fx4 fun v5 v6 v7 v8 => f5t10 N v5 v6 v7 v8 K) (by kernel_rfl)
noncomputable def f5p6 : Plan := .mk (some f5l4) none .n f5p8
theorem f5t6 N v5 v6 (K : KT ρ) : f5i N (f5c 15) f5p6 (f5s3 v5 v6) (joinK (some f5lE) K) =
  spec_CountsOfType.Z6 N v5 v6 (fun v2 v3 v4 => K .ret (f5s8 v2 v3 v4)) :=
 viaSeqS (fun k => spec_CountsOfType.Z7 N v5 v6 k) (by kernel_rfl) (f5t7 N (K := seqK (fun σ => f5i N (f5c 31) f5p8 σ (joinK (some f5lE) K)) (joinK (some f5lE) K)) ..) (fx3 fun v5 v6 v7 => f5t8 N v5 v6 v7 K) (by kernel_rfl)
noncomputable def f5p4 : Plan := .mk (some f5l3) none .n f5p6
theorem f5t4 N v5 (K : KT ρ) : f5i N (f5c 7) f5p4 (f5s2 v5) (joinK (some f5lE) K) =
  spec_CountsOfType.Z4 N v5 (fun v2 v3 v4 => K .ret (f5s8 v2 v3 v4)) :=
 viaSeqS (fun k => spec_CountsOfType.Z5 N v5 k) (by kernel_rfl) (f5t5 N (K := seqK (fun σ => f5i N (f5c 15) f5p6 σ (joinK (some f5lE) K)) (joinK (some f5lE) K)) ..) (fx2 fun v5 v6 => f5t6 N v5 v6 K) (by kernel_rfl)
noncomputable def f5p2 : Plan := .mk (some f5l2) none .n f5p4
theorem f5t2 N v0 (K : KT ρ) : f5i N (f5c 3) f5p2 (f5s1 v0) (joinK (some f5lE) K) =
  spec_CountsOfType.Z2 N v0 (fun v2 v3 v4 => K .ret (f5s8 v2 v3 v4)) :=
 viaSeqS (fun k => spec_CountsOfType.Z3 N v0 k) (by kernel_rfl) (f5t3 N (K := seqK (fun σ => f5i N (f5c 7) f5p4 σ (joinK (some f5lE) K)) (joinK (some f5lE) K)) ..) (funext fun v5 => f5t4 N v5 K) (by kernel_rfl)
noncomputable def f5p0 : Plan := .mk (some f5l1) none .n f5p2
theorem f5t0 N v0 (K : KT ρ) : f5i N (f5c 1) f5p0 (f5s0 v0) (joinK (some f5lE) K) =
  spec_CountsOfType.Z0 N v0 (fun v2 v3 v4 => K .ret (f5s8 v2 v3 v4)) :=
 viaSeqS (fun k => spec_CountsOfType.Z1 N v0 k) (by kernel_rfl) (f5t1 N (K := seqK (fun σ => f5i N (f5c 3) f5p2 σ (joinK (some f5lE) K)) (joinK (some f5lE) K)) ..) (funext fun v0 => f5t2 N v0 K) (by kernel_rfl)
theorem f5m (N : Nat) (v0 : ByteArray) : f5i N (f5c 1) f5p0 (f5s0 v0) (joinK (some f5lE) (finK tab f5sig Tryd.f5.results.toList)) = spec_CountsOfType.Z0 N v0 (fun v2 v3 v4 => some ((), (v2, (v3, (v4, ()))))) :=
  (f5t0 N v0 (finK tab f5sig Tryd.f5.results.toList)).trans (by kernel_rfl)
theorem f5ok (h : spec_CountsOfType.Spec) : EntryOk Tryd.prog 5 e5 :=
  entry_of_code (sig := f5sig) (c := (f5c 1)) (pl := f5p0) (je := (some f5lE)) (B := f5B) Tryd.func5 (by kernel_rfl) (by kernel_rfl) (by kernel_rfl) tabOk f5GOk (by kernel_rfl) (by kernel_rfl) (by kernel_rfl) (by kernel_rfl) fun X hb hp => by
    obtain ⟨v0, _⟩ := X
    obtain ⟨N, h⟩ := h v0 hp
    exact ⟨N, (f5m N v0).trans (h N (Nat.le_refl N))⟩
theorem e5ok : EntryOk Tryd.prog 5 e5 := f5ok spec_CountsOfType.ok
end Go.Fw
namespace Go.Fw
variable {ρ : Type}
open Go.Proofs
noncomputable def f13sig : Sig := ⟨[⟨.str, false, false⟩, ⟨.str, false, false⟩], [⟨.sl 9 (.str), false, false⟩]⟩
noncomputable def e13 : Entry := ⟨f13sig, (some fun X => strings_Split.P X.1 X.2.1), fun X => ((), ((strings_Split.g X.1 X.2.1), ()))⟩
noncomputable def f13layren : Go.Shelf.Ren := ⟨fun | 146 => 13 | 221 => 20 | 268 => 26 | 138 => 27 | 143 => 28 | 195 => 32 | 197 => 33 | 218 => 34 | 219 => 35 | 260 => 39 | 217 => 40 | 225 => 41 | 224 => 42 | 267 => 43 | 266 => 48 | 314 => 49 | n => n, fun | 9 => 9 | 31 => 30 | 3 => 3 | 4 => 4 | 0 => 0 | 105 => 53 | 21 => 21 | 5 => 5 | 46 => 61 | 119 => 68 | 139 => 71 | 138 => 70 | 146 => 73 | 51 => 72 | n => n, fun | 1 => 0 | 3 => 1 | 4 => 2 | n => n⟩
theorem f13lay : LaysM.n146 Tryd.prog f13layren := { mixed := (by kernel_rfl), f138 := Tryd.func27.trans (congrArg some (by kernel_rfl)), f143 := Tryd.func28.trans (congrArg some (by kernel_rfl)), f146 := Tryd.func13.trans (congrArg some (by kernel_rfl)), f195 := Tryd.func32.trans (congrArg some (by kernel_rfl)), f197 := Tryd.func33.trans (congrArg some (by kernel_rfl)), f217 := Tryd.func40.trans (congrArg some (by kernel_rfl)), f218 := Tryd.func34.trans (congrArg some (by kernel_rfl)), f219 := Tryd.func35.trans (congrArg some (by kernel_rfl)), f221 := Tryd.func20.trans (congrArg some (by kernel_rfl)), f224 := Tryd.func42.trans (congrArg some (by kernel_rfl)), f225 := Tryd.func41.trans (congrArg some (by kernel_rfl)), f260 := Tryd.func39.trans (congrArg some (by kernel_rfl)), f266 := Tryd.func48.trans (congrArg some (by kernel_rfl)), f267 := Tryd.func43.trans (congrArg some (by kernel_rfl)), f268 := Tryd.func26.trans (congrArg some (by kernel_rfl)), f314 := Tryd.func49.trans (congrArg some (by kernel_rfl)), t0 := Tryd.underlying0, a0 := Tryd.isAgg0, z0 := Tryd.sizeOf0, v0 := Tryd.zeroValue0, t3 := Tryd.underlying3, a3 := Tryd.isAgg3, z3 := Tryd.sizeOf3, v3 := Tryd.zeroValue3, t4 := Tryd.underlying4, a4 := Tryd.isAgg4, z4 := Tryd.sizeOf4, v4 := Tryd.zeroValue4, t5 := Tryd.underlying5, a5 := Tryd.isAgg5, z5 := Tryd.sizeOf5, v5 := Tryd.zeroValue5, t9 := Tryd.underlying9, a9 := Tryd.isAgg9, z9 := Tryd.sizeOf9, v9 := Tryd.zeroValue9, t21 := Tryd.underlying21, a21 := Tryd.isAgg21, z21 := Tryd.sizeOf21, v21 := Tryd.zeroValue21, t31 := Tryd.underlying30, a31 := Tryd.isAgg30, z31 := Tryd.sizeOf30, v31 := Tryd.zeroValue30, t46 := Tryd.underlying61, a46 := Tryd.isAgg61, z46 := Tryd.sizeOf61, v46 := Tryd.zeroValue61, t51 := Tryd.underlying72, a51 := Tryd.isAgg72, z51 := Tryd.sizeOf72, v51 := Tryd.zeroValue72, t105 := Tryd.underlying53, a105 := Tryd.isAgg53, z105 := Tryd.sizeOf53, v105 := Tryd.zeroValue53, t119 := Tryd.underlying68, a119 := Tryd.isAgg68, z119 := Tryd.sizeOf68, t138 := Tryd.underlying70, a138 := Tryd.isAgg70, z138 := Tryd.sizeOf70, v138 := Tryd.zeroValue70, t139 := Tryd.underlying71, a139 := Tryd.isAgg71, z139 := Tryd.sizeOf71, v139 := Tryd.zeroValue71, t146 := Tryd.underlying73, a146 := Tryd.isAgg73, z146 := Tryd.sizeOf73, v146 := Tryd.zeroValue73, g1 := (by kernel_rfl), g3 := (by kernel_rfl), g4 := (by kernel_rfl), i0 := (by kernel_rfl), i3 := (by kernel_rfl), i4 := (by kernel_rfl), i5 := (by kernel_rfl), i9 := (by kernel_rfl), i21 := (by kernel_rfl), i31 := (by kernel_rfl), i46 := (by kernel_rfl), i51 := (by kernel_rfl), i105 := (by kernel_rfl), i138 := (by kernel_rfl), i139 := (by kernel_rfl), i146 := (by kernel_rfl), m1 := (by kernel_rfl), s1_3 := fun w h => Go.Proofs.cell_of_shapedOpen_int (zero := #[.int .i64 0]) (t := 3) h (of_decide_eq_true (by kernel_rfl)) (by kernel_rfl) rfl (by kernel_rfl) (by kernel_rfl) Tryd.underlying3, m3 := (by kernel_rfl), m4 := (by kernel_rfl) }
theorem f13ok (_ : True) : EntryOk Tryd.prog 13 e13 := split_ok (fun w h => (by
  obtain ⟨g, h1, h2⟩ := int0 w h
  have e : Tryd.prog.globalNamed "internal/bytealg.MaxLen" = some (f13layren.g 1) := by kernel_rfl
  rw [e] at h1
  injection h1 with h1
  subst h1
  exact h2)) f13lay
theorem e13ok : EntryOk Tryd.prog 13 e13 := f13ok strings_Split.ok
end Go.Fw
namespace Go.Fw
variable {ρ : Type}
open Go.Proofs
noncomputable def f21sig : Sig := ⟨[⟨.int .i64, false, false⟩, ⟨.int .i64, false, false⟩], [⟨.int .i64, false, false⟩]⟩
noncomputable def e21 : Entry := ⟨f21sig, (some fun X => impl_choose.P X.1 X.2.1), fun X => ((), ((impl_choose.g X.1 X.2.1), ()))⟩
noncomputable def f21G : Gm := emptyG
theorem f21GOk : GOk Tryd.prog f21G := GOk.nil
noncomputable def f21lE : Clean := ⟨[], [], [], [], []⟩
noncomputable def f21s0 (v0 v1 : Int) : St := initSt f21sig.ps (v0, (v1, ()))
noncomputable def f21s1 (v0 v1 : Int) : St := stOf [(0, xi v0), (1, xi v1)] [] []
noncomputable def f21l1 : Clean := ⟨[0, 1], [], [], [], []⟩
noncomputable def f21s2 (v0 v1 v5 : Int) : St := stOf [(0, xi v0), (1, xi v1), (5, xi v5)] [] []
noncomputable def f21l2 : Clean := ⟨[0, 1, 5], [], [], [], []⟩
noncomputable def f21s3 (v0 v1 v5 v6 : Int) : St := stOf [(0, xi v0), (1, xi v1), (5, xi v5), (6, xi v6)] [] []
noncomputable def f21l3 : Clean := ⟨[0, 1, 5, 6], [], [], [], []⟩
noncomputable def f21s4 (v5 : Int) : St := stOf [(5, xi v5)] [] []
noncomputable def f21l4 : Clean := ⟨[5], [], [], [], []⟩
noncomputable def f21s5 (v4 : Int) : St := stOf [(4, xi v4)] [] []
noncomputable def f21l5 : Clean := ⟨[4], [], [], [], []⟩
noncomputable def f21B : Nat → Option Clean := lookL [(0, f21l4), (1000000, f21l5)]
noncomputable abbrev f21i {ρ : Type} (N : Nat) (c : Code) (p : Plan) (σ : St) (K : KT ρ) : Option ρ := iCode f21G tab f21B N c p σ K
noncomputable def f21c (n : Nat) : Code := codeN 99 (bodyOf Tryd.f21) n
theorem f21t1 N v0 v1 (K : KT ρ) : f21i N (f21c 2) .n (f21s0 v0 v1) (joinK (some f21l1) K) =
  impl_choose.Z1 N v0 v1 (fun v0 v1 => K .nrm (f21s1 v0 v1)) := by kernel_rfl
theorem f21t3 N v0 v1 (K : KT ρ) : f21i N (f21c 5) .n (f21s1 v0 v1) (joinK (some f21l2) K) =
  impl_choose.Z3 N v0 v1 (fun v0 v1 v5 => K .nrm (f21s2 v0 v1 v5)) := by kernel_rfl
theorem f21t6 N v0 v1 v5 (K : KT ρ) : f21i N (f21c 19) .n (f21s2 v0 v1 v5) (joinK (some f21l3) K) =
  impl_choose.Z6 N v0 v1 v5 (fun v0 v1 v5 v6 => K .nrm (f21s3 v0 v1 v5 v6)) := by kernel_rfl
theorem f21t9 N v0 v1 v5 v6 (K : KT ρ) : f21i N (f21c 75) .n (f21s3 v0 v1 v5 v6) (joinK (some f21l3) K) =
  impl_choose.Z9 N v0 v1 v5 v6 (fun v0 v1 v5 v6 => K .nrm (f21s3 v0 v1 v5 v6)) (fun v5 => K (.exit 0) (f21s4 v5)) := by kernel_rfl
noncomputable def f21p8 : Plan := .mk none (some f21l3) .n .n
noncomputable abbrev f21w8 {ρ : Type} (N M : Nat) (σ : St) (K : KT ρ) : Option ρ := loopC (fun σ K => f21i N (f21c 75) .n σ K) f21l3 M σ K
theorem f21t8L {ρ : Type} (N : Nat) (K : KT ρ) : ∀ (M : Nat) (v0 v1 v5 v6 : Int), f21w8 N M (f21s3 v0 v1 v5 v6) K =
  impl_choose.Z8L N (fun v5 => K (.exit 0) (f21s4 v5)) M v0 v1 v5 v6
  | 0, _, _, _, _ => rfl
  | M + 1, v0, v1, v5, v6 => viaRoundS (fun k => impl_choose.Z9 N v0 v1 v5 v6 k (fun v5 => K (.exit 0) (f21s4 v5))) (f21t9 N (K := seqK (fun σ => f21w8 N M σ K) K) ..) (fx4 fun v0 v1 v5 v6 => f21t8L N K M v0 v1 v5 v6) (by kernel_rfl)
theorem f21t8 N v0 v1 v5 v6 (K : KT ρ) : f21i N (f21c 43) f21p8 (f21s3 v0 v1 v5 v6) (joinK (some f21l4) K) =
  impl_choose.Z8 N v0 v1 v5 v6 (fun v5 => K (.exit 0) (f21s4 v5)) :=
 viaLoopS (by kernel_rfl) (f21t8L N (joinK (some f21l4) K) N v0 v1 v5 v6) (by kernel_rfl)
noncomputable def f21p7 : Plan := .mk (some f21l4) none f21p8 .n
theorem f21t7 N v0 v1 v5 v6 (K : KT ρ) : f21i N (f21c 27) f21p7 (f21s3 v0 v1 v5 v6) (joinK (some f21l4) K) =
  impl_choose.Z7 N v0 v1 v5 v6 (fun v5 => K .nrm (f21s4 v5)) :=
 viaBlockS (by kernel_rfl) (f21t8 N (K := blockK 0 (joinK (some f21l4) K)) ..) (by kernel_rfl)
noncomputable def f21p5 : Plan := .mk (some f21l3) none .n f21p7
theorem f21t5 N v0 v1 v5 (K : KT ρ) : f21i N (f21c 11) f21p5 (f21s2 v0 v1 v5) (joinK (some f21l4) K) =
  impl_choose.Z5 N v0 v1 v5 (fun v5 => K .nrm (f21s4 v5)) :=
 viaSeqS (fun k => impl_choose.Z6 N v0 v1 v5 k) (by kernel_rfl) (f21t6 N (K := seqK (fun σ => f21i N (f21c 27) f21p7 σ (joinK (some f21l4) K)) (joinK (some f21l4) K)) ..) (fx4 fun v0 v1 v5 v6 => f21t7 N v0 v1 v5 v6 K) (by kernel_rfl)
theorem f21t10 N v5 (K : KT ρ) : f21i N (f21c 15) .n (f21s4 v5) (joinK (some f21lE) K) =
  impl_choose.Z10 N v5 (fun v4 => K .ret (f21s5 v4)) := by kernel_rfl
noncomputable def f21p4 : Plan := .mk (some f21l4) none f21p5 .n
theorem f21t4 N v0 v1 v5 (K : KT ρ) : f21i N (f21c 7) f21p4 (f21s2 v0 v1 v5) (joinK (some f21lE) K) =
  impl_choose.Z4 N v0 v1 v5 (fun v4 => K .ret (f21s5 v4)) :=
 viaSeqS (fun k => impl_choose.Z5 N v0 v1 v5 k) (by kernel_rfl) (f21t5 N (K := seqK (fun σ => f21i N (f21c 15) .n σ (joinK (some f21lE) K)) (joinK (some f21lE) K)) ..) (funext fun v5 => f21t10 N v5 K) (by kernel_rfl)
noncomputable def f21p2 : Plan := .mk (some f21l2) none .n f21p4
theorem f21t2 N v0 v1 (K : KT ρ) : f21i N (f21c 3) f21p2 (f21s1 v0 v1) (joinK (some f21lE) K) =
  impl_choose.Z2 N v0 v1 (fun v4 => K .ret (f21s5 v4)) :=
 viaSeqS (fun k => impl_choose.Z3 N v0 v1 k) (by kernel_rfl) (f21t3 N (K := seqK (fun σ => f21i N (f21c 7) f21p4 σ (joinK (some f21lE) K)) (joinK (some f21lE) K)) ..) (fx3 fun v0 v1 v5 => f21t4 N v0 v1 v5 K) (by kernel_rfl)
noncomputable def f21p0 : Plan := .mk (some f21l1) none .n f21p2
theorem f21t0 N v0 v1 (K : KT ρ) : f21i N (f21c 1) f21p0 (f21s0 v0 v1) (joinK (some f21lE) K) =
  impl_choose.Z0 N v0 v1 (fun v4 => K .ret (f21s5 v4)) :=
 viaSeqS (fun k => impl_choose.Z1 N v0 v1 k) (by kernel_rfl) (f21t1 N (K := seqK (fun σ => f21i N (f21c 3) f21p2 σ (joinK (some f21lE) K)) (joinK (some f21lE) K)) ..) (fx2 fun v0 v1 => f21t2 N v0 v1 K) (by kernel_rfl)
theorem f21m (N : Nat) (v0 v1 : Int) : f21i N (f21c 1) f21p0 (f21s0 v0 v1) (joinK (some f21lE) (finK tab f21sig Tryd.f21.results.toList)) = impl_choose.Z0 N v0 v1 (fun v4 => some ((), (v4, ()))) :=
  (f21t0 N v0 v1 (finK tab f21sig Tryd.f21.results.toList)).trans (by kernel_rfl)
theorem f21ok (h : impl_choose.Spec) : EntryOk Tryd.prog 21 e21 :=
  entry_of_code (sig := f21sig) (c := (f21c 1)) (pl := f21p0) (je := (some f21lE)) (B := f21B) Tryd.func21 (by kernel_rfl) (by kernel_rfl) (by kernel_rfl) tabOk f21GOk (by kernel_rfl) (by kernel_rfl) (by kernel_rfl) (by kernel_rfl) fun X hb hp => by
    obtain ⟨v0, v1, _⟩ := X
    obtain ⟨N, h⟩ := h v0 v1 hp
    exact ⟨N, (f21m N v0 v1).trans (h N (Nat.le_refl N))⟩
theorem e21ok : EntryOk Tryd.prog 21 e21 := f21ok impl_choose.ok
end Go.Fw
namespace Go.Fw
variable {ρ : Type}
open Go.Proofs
noncomputable def f14sig : Sig := ⟨[⟨.int .u8, false, false⟩, ⟨.int .i64, false, false⟩], [⟨.int .i64, false, false⟩, ⟨.int .i64, false, false⟩, ⟨.bool, false, false⟩]⟩
noncomputable def e14 : Entry := ⟨f14sig, (some fun X => impl_countsOf.P X.1 X.2.1), fun X => ((), ((impl_countsOf.g X.1 X.2.1).1, ((impl_countsOf.g X.1 X.2.1).2.1, ((impl_countsOf.g X.1 X.2.1).2.2, ()))))⟩
noncomputable def f14G : Gm := addG emptyG 21 e21
theorem f14GOk : GOk Tryd.prog f14G := (GOk.nil).add e21ok (by kernel_rfl)
noncomputable def f14lE : Clean := ⟨[], [], [], [], []⟩
noncomputable def f14s0 (v0 v1 : Int) : St := initSt f14sig.ps (v0, (v1, ()))
noncomputable def f14s1 (v0 v1 : Int) : St := stOf [(0, .c (.int .u8 v0)), (1, xi v1)] [] []
noncomputable def f14l1 : Clean := ⟨[0, 1], [], [], [], []⟩
noncomputable def f14s2 (v0 v1 : Int) (v7 : Bool) : St := stOf [(0, .c (.int .u8 v0)), (1, xi v1), (7, xB v7)] [] []
noncomputable def f14l2 : Clean := ⟨[0, 1, 7], [], [], [], []⟩
noncomputable def f14s3 (v0 v1 : Int) (v24 : Bool) : St := stOf [(0, .c (.int .u8 v0)), (1, xi v1), (24, xB v24)] [] []
noncomputable def f14l3 : Clean := ⟨[0, 1, 24], [], [], [], []⟩
noncomputable def f14s4 (v0 v1 : Int) (v45 : Bool) : St := stOf [(0, .c (.int .u8 v0)), (1, xi v1), (45, xB v45)] [] []
noncomputable def f14l4 : Clean := ⟨[0, 1, 45], [], [], [], []⟩
noncomputable def f14s5  : St := stOf [] [] []
noncomputable def f14l5 : Clean := ⟨[], [], [], [], []⟩
noncomputable def f14s6 (v4 v5 : Int) (v6 : Bool) : St := stOf [(4, xi v4), (5, xi v5), (6, xB v6)] [] []
noncomputable def f14l6 : Clean := ⟨[4, 5, 6], [], [], [], []⟩
noncomputable def f14B : Nat → Option Clean := lookL [(0, f14l5), (1000000, f14l6)]
noncomputable abbrev f14i {ρ : Type} (N : Nat) (c : Code) (p : Plan) (σ : St) (K : KT ρ) : Option ρ := iCode f14G tab f14B N c p σ K
noncomputable def f14c (n : Nat) : Code := codeN 99 (bodyOf Tryd.f14) n
theorem f14t1 N v0 v1 (K : KT ρ) : f14i N (f14c 2) .n (f14s0 v0 v1) (joinK (some f14l1) K) =
  impl_countsOf.Z1 N v0 v1 (fun v0 v1 => K .nrm (f14s1 v0 v1)) := by kernel_rfl
theorem f14t5 N v0 v1 (K : KT ρ) : f14i N (f14c 17) .n (f14s1 v0 v1) (joinK (some f14l2) K) =
  impl_countsOf.Z5 N v0 v1 (fun v0 v1 v7 => K .nrm (f14s2 v0 v1 v7)) := by kernel_rfl
theorem f14t7 N v0 v1 v7 (K : KT ρ) : f14i N (f14c 41) .n (f14s2 v0 v1 v7) (joinK (some f14l5) K) =
  impl_countsOf.Z7 N v0 v1 v7 (fun v4 v5 v6 => K .ret (f14s6 v4 v5 v6)) := by kernel_rfl
theorem f14t9 N v0 v1 v7 (K : KT ρ) : f14i N (f14c 89) .n (f14s2 v0 v1 v7) (joinK (some f14l3) K) =
  impl_countsOf.Z9 N v0 v1 v7 (fun v0 v1 v24 => K .nrm (f14s3 v0 v1 v24)) := by kernel_rfl
theorem f14t11 N v0 v1 v24 (K : KT ρ) : f14i N (f14c 185) .n (f14s3 v0 v1 v24) (joinK (some f14l5) K) =
  impl_countsOf.Z11 N v0 v1 v24 (fun v4 v5 v6 => K .ret (f14s6 v4 v5 v6)) := by kernel_rfl
theorem f14t13 N v0 v1 v24 (K : KT ρ) : f14i N (f14c 377) .n (f14s3 v0 v1 v24) (joinK (some f14l4) K) =
  impl_countsOf.Z13 N v0 v1 v24 (fun v0 v1 v45 => K .nrm (f14s4 v0 v1 v45)) := by kernel_rfl
theorem f14t14 N v0 v1 v45 (K : KT ρ) : f14i N (f14c 505) .n (f14s4 v0 v1 v45) (joinK (some f14l5) K) =
  impl_countsOf.Z14 N v0 v1 v45 (K .nrm f14s5) (fun v4 v5 v6 => K .ret (f14s6 v4 v5 v6)) := by kernel_rfl
noncomputable def f14p12 : Plan := .mk (some f14l4) none .n .n
theorem f14t12 N v0 v1 v24 (K : KT ρ) : f14i N (f14c 249) f14p12 (f14s3 v0 v1 v24) (joinK (some f14l5) K) =
  impl_countsOf.Z12 N v0 v1 v24 (K .nrm f14s5) (fun v4 v5 v6 => K .ret (f14s6 v4 v5 v6)) :=
 viaSeqS (fun k => impl_countsOf.Z13 N v0 v1 v24 k) (by kernel_rfl) (f14t13 N (K := seqK (fun σ => f14i N (f14c 505) .n σ (joinK (some f14l5) K)) (joinK (some f14l5) K)) ..) (fx3 fun v0 v1 v45 => f14t14 N v0 v1 v45 K) (by kernel_rfl)
noncomputable def f14p10 : Plan := .mk none none .n f14p12
theorem f14t10 N v0 v1 v24 (K : KT ρ) : f14i N (f14c 121) f14p10 (f14s3 v0 v1 v24) (joinK (some f14l5) K) =
  impl_countsOf.Z10 N v0 v1 v24 (K .nrm f14s5) (fun v4 v5 v6 => K .ret (f14s6 v4 v5 v6)) :=
 viaCondS (x := .tmp 24) (t := v24) (by kernel_rfl) (f14t11 N (K := K) ..) (f14t12 N (K := K) ..) (by kernel_rfl)
noncomputable def f14p8 : Plan := .mk (some f14l3) none .n f14p10
theorem f14t8 N v0 v1 v7 (K : KT ρ) : f14i N (f14c 57) f14p8 (f14s2 v0 v1 v7) (joinK (some f14l5) K) =
  impl_countsOf.Z8 N v0 v1 v7 (K .nrm f14s5) (fun v4 v5 v6 => K .ret (f14s6 v4 v5 v6)) :=
 viaSeqS (fun k => impl_countsOf.Z9 N v0 v1 v7 k) (by kernel_rfl) (f14t9 N (K := seqK (fun σ => f14i N (f14c 121) f14p10 σ (joinK (some f14l5) K)) (joinK (some f14l5) K)) ..) (fx3 fun v0 v1 v24 => f14t10 N v0 v1 v24 K) (by kernel_rfl)
noncomputable def f14p6 : Plan := .mk none none .n f14p8
theorem f14t6 N v0 v1 v7 (K : KT ρ) : f14i N (f14c 25) f14p6 (f14s2 v0 v1 v7) (joinK (some f14l5) K) =
  impl_countsOf.Z6 N v0 v1 v7 (K .nrm f14s5) (fun v4 v5 v6 => K .ret (f14s6 v4 v5 v6)) :=
 viaCondS (x := .tmp 7) (t := v7) (by kernel_rfl) (f14t7 N (K := K) ..) (f14t8 N (K := K) ..) (by kernel_rfl)
noncomputable def f14p4 : Plan := .mk (some f14l2) none .n f14p6
theorem f14t4 N v0 v1 (K : KT ρ) : f14i N (f14c 9) f14p4 (f14s1 v0 v1) (joinK (some f14l5) K) =
  impl_countsOf.Z4 N v0 v1 (K .nrm f14s5) (fun v4 v5 v6 => K .ret (f14s6 v4 v5 v6)) :=
 viaSeqS (fun k => impl_countsOf.Z5 N v0 v1 k) (by kernel_rfl) (f14t5 N (K := seqK (fun σ => f14i N (f14c 25) f14p6 σ (joinK (some f14l5) K)) (joinK (some f14l5) K)) ..) (fx3 fun v0 v1 v7 => f14t6 N v0 v1 v7 K) (by kernel_rfl)
noncomputable def f14p3 : Plan := .mk (some f14l5) none f14p4 .n
theorem f14t3 N v0 v1 (K : KT ρ) : f14i N (f14c 5) f14p3 (f14s1 v0 v1) (joinK (some f14l5) K) =
  impl_countsOf.Z3 N v0 v1 (K .nrm f14s5) (fun v4 v5 v6 => K .ret (f14s6 v4 v5 v6)) :=
 viaBlockS (by kernel_rfl) (f14t4 N (K := blockK 0 (joinK (some f14l5) K)) ..) (by kernel_rfl)
theorem f14t15 N  (K : KT ρ) : f14i N (f14c 7) .n f14s5 (joinK (some f14lE) K) =
  impl_countsOf.Z15 N (fun v4 v5 v6 => K .ret (f14s6 v4 v5 v6)) := by kernel_rfl
noncomputable def f14p2 : Plan := .mk (some f14l5) none f14p3 .n
theorem f14t2 N v0 v1 (K : KT ρ) : f14i N (f14c 3) f14p2 (f14s1 v0 v1) (joinK (some f14lE) K) =
  impl_countsOf.Z2 N v0 v1 (fun v4 v5 v6 => K .ret (f14s6 v4 v5 v6)) :=
 viaSeqS (fun k => impl_countsOf.Z3 N v0 v1 k (fun v4 v5 v6 => K .ret (f14s6 v4 v5 v6))) (by kernel_rfl) (f14t3 N (K := seqK (fun σ => f14i N (f14c 7) .n σ (joinK (some f14lE) K)) (joinK (some f14lE) K)) ..) (f14t15 N K) (by kernel_rfl)
noncomputable def f14p0 : Plan := .mk (some f14l1) none .n f14p2
theorem f14t0 N v0 v1 (K : KT ρ) : f14i N (f14c 1) f14p0 (f14s0 v0 v1) (joinK (some f14lE) K) =
  impl_countsOf.Z0 N v0 v1 (fun v4 v5 v6 => K .ret (f14s6 v4 v5 v6)) :=
 viaSeqS (fun k => impl_countsOf.Z1 N v0 v1 k) (by kernel_rfl) (f14t1 N (K := seqK (fun σ => f14i N (f14c 3) f14p2 σ (joinK (some f14lE) K)) (joinK (some f14lE) K)) ..) (fx2 fun v0 v1 => f14t2 N v0 v1 K) (by kernel_rfl)
theorem f14m (N : Nat) (v0 v1 : Int) : f14i N (f14c 1) f14p0 (f14s0 v0 v1) (joinK (some f14lE) (finK tab f14sig Tryd.f14.results.toList)) = impl_countsOf.Z0 N v0 v1 (fun v4 v5 v6 => some ((), (v4, (v5, (v6, ()))))) :=
  (f14t0 N v0 v1 (finK tab f14sig Tryd.f14.results.toList)).trans (by kernel_rfl)
theorem f14ok (h : impl_countsOf.Spec) : EntryOk Tryd.prog 14 e14 :=
  entry_of_code (sig := f14sig) (c := (f14c 1)) (pl := f14p0) (je := (some f14lE)) (B := f14B) Tryd.func14 (by kernel_rfl) (by kernel_rfl) (by kernel_rfl) tabOk f14GOk (by kernel_rfl) (by kernel_rfl) (by kernel_rfl) (by kernel_rfl) fun X hb hp => by
    obtain ⟨v0, v1, _⟩ := X
    obtain ⟨N, h⟩ := h v0 v1 hp
    exact ⟨N, (f14m N v0 v1).trans (h N (Nat.le_refl N))⟩
theorem e14ok : EntryOk Tryd.prog 14 e14 := f14ok impl_countsOf.ok
end Go.Fw
namespace Go.Fw
variable {ρ : Type}
open Go.Proofs
noncomputable def f6sig : Sig := ⟨[⟨.str, false, false⟩], [⟨.int .i64, false, false⟩, ⟨.int .i64, false, false⟩, ⟨.bool, false, false⟩]⟩
noncomputable def e6 : Entry := ⟨f6sig, (some fun X => impl_CountsOfType.P X.1), fun X => ((), ((impl_CountsOfType.g X.1).1, ((impl_CountsOfType.g X.1).2.1, ((impl_CountsOfType.g X.1).2.2, ()))))⟩
noncomputable def f6G : Gm := addG (addG emptyG 13 e13) 14 e14
theorem f6GOk : GOk Tryd.prog f6G := ((GOk.nil).add e13ok (by kernel_rfl)).add e14ok (by kernel_rfl)
noncomputable def f6lE : Clean := ⟨[], [], [], [], []⟩
noncomputable def f6s0 (v0 : ByteArray) : St := initSt f6sig.ps (v0, ())
noncomputable def f6s1 (v0 : ByteArray) : St := stOf [(0, .c (.str v0))] [] []
noncomputable def f6l1 : Clean := ⟨[0], [], [], [], []⟩
noncomputable def f6s2 (v0 : ByteArray) (v5 v6 v7 : Int) : St := stOf [(0, .c (.str v0)), (5, xi v5), (6, xi v6), (7, xi v7)] [] []
noncomputable def f6l2 : Clean := ⟨[0, 5, 6, 7], [], [], [], []⟩
noncomputable def f6s3 (v15 : List ByteArray) (v5 v6 v7 v16 v17 : Int) : St := stOf [(5, xi v5), (6, xi v6), (7, xi v7), (15, xo 1000960), (16, xi v16), (17, xi v17)] [] [(1000960, (⟨9, .str, v15, true, false⟩ : Row))]
noncomputable def f6l3 : Clean := ⟨[5, 6, 7, 15, 16, 17], [], [], [], [(⟨false, 15, 0⟩, 1000960)]⟩
noncomputable def f6s4 (v5 v6 : Int) : St := stOf [(5, xi v5), (6, xi v6)] [] []
noncomputable def f6l4 : Clean := ⟨[5, 6], [], [], [], []⟩
noncomputable def f6s5 (v2 v3 : Int) (v4 : Bool) : St := stOf [(2, xi v2), (3, xi v3), (4, xB v4)] [] []
noncomputable def f6l5 : Clean := ⟨[2, 3, 4], [], [], [], []⟩
noncomputable def f6B : Nat → Option Clean := lookL [(0, f6l4), (1000000, f6l5)]
noncomputable abbrev f6i {ρ : Type} (N : Nat) (c : Code) (p : Plan) (σ : St) (K : KT ρ) : Option ρ := iCode f6G tab f6B N c p σ K
noncomputable def f6c (n : Nat) : Code := codeN 99 (bodyOf Tryd.f6) n
theorem f6t1 N v0 (K : KT ρ) : f6i N (f6c 2) .n (f6s0 v0) (joinK (some f6l1) K) =
  impl_CountsOfType.Z1 N v0 (fun v0 => K .nrm (f6s1 v0)) := by kernel_rfl
theorem f6t3 N v0 (K : KT ρ) : f6i N (f6c 5) .n (f6s1 v0) (joinK (some f6l2) K) =
  impl_CountsOfType.Z3 N v0 (fun v0 v5 v6 v7 => K .nrm (f6s2 v0 v5 v6 v7)) := by kernel_rfl
theorem f6t6 N v0 v5 v6 v7 (K : KT ρ) : f6i N (f6c 19) .n (f6s2 v0 v5 v6 v7) (joinK (some f6l3) K) =
  impl_CountsOfType.Z6 N v0 v5 v6 v7 (fun v15 v5 v6 v7 v16 v17 => K .nrm (f6s3 v15 v5 v6 v7 v16 v17)) := by kernel_rfl
theorem f6t9 N v15 v5 v6 v7 v16 v17 (K : KT ρ) : f6i N (f6c 75) .n (f6s3 v15 v5 v6 v7 v16 v17) (joinK (some f6l3) K) =
  impl_CountsOfType.Z9 N v15 v5 v6 v7 v16 v17 (fun v15 v5 v6 v7 v16 v17 => K .nrm (f6s3 v15 v5 v6 v7 v16 v17)) (fun v5 v6 => K (.exit 0) (f6s4 v5 v6)) (fun v2 v3 v4 => K .ret (f6s5 v2 v3 v4)) := by kernel_rfl
noncomputable def f6p8 : Plan := .mk none (some f6l3) .n .n
noncomputable abbrev f6w8 {ρ : Type} (N M : Nat) (σ : St) (K : KT ρ) : Option ρ := loopC (fun σ K => f6i N (f6c 75) .n σ K) f6l3 M σ K
theorem f6t8L {ρ : Type} (N : Nat) (K : KT ρ) : ∀ (M : Nat) (v15 : List ByteArray) (v5 v6 v7 v16 v17 : Int), f6w8 N M (f6s3 v15 v5 v6 v7 v16 v17) K =
  impl_CountsOfType.Z8L N (fun v5 v6 => K (.exit 0) (f6s4 v5 v6)) (fun v2 v3 v4 => K .ret (f6s5 v2 v3 v4)) M v15 v5 v6 v7 v16 v17
  | 0, _, _, _, _, _, _ => rfl
  | M + 1, v15, v5, v6, v7, v16, v17 => viaRoundS (fun k => impl_CountsOfType.Z9 N v15 v5 v6 v7 v16 v17 k (fun v5 v6 => K (.exit 0) (f6s4 v5 v6)) (fun v2 v3 v4 => K .ret (f6s5 v2 v3 v4))) (f6t9 N (K := seqK (fun σ => f6w8 N M σ K) K) ..) (fx6 fun v15 v5 v6 v7 v16 v17 => f6t8L N K M v15 v5 v6 v7 v16 v17) (by kernel_rfl)
theorem f6t8 N v15 v5 v6 v7 v16 v17 (K : KT ρ) : f6i N (f6c 43) f6p8 (f6s3 v15 v5 v6 v7 v16 v17) (joinK (some f6l4) K) =
  impl_CountsOfType.Z8 N v15 v5 v6 v7 v16 v17 (fun v5 v6 => K (.exit 0) (f6s4 v5 v6)) (fun v2 v3 v4 => K .ret (f6s5 v2 v3 v4)) :=
 viaLoopS (by kernel_rfl) (f6t8L N (joinK (some f6l4) K) N v15 v5 v6 v7 v16 v17) (by kernel_rfl)
noncomputable def f6p7 : Plan := .mk (some f6l4) none f6p8 .n
theorem f6t7 N v15 v5 v6 v7 v16 v17 (K : KT ρ) : f6i N (f6c 27) f6p7 (f6s3 v15 v5 v6 v7 v16 v17) (joinK (some f6l4) K) =
  impl_CountsOfType.Z7 N v15 v5 v6 v7 v16 v17 (fun v5 v6 => K .nrm (f6s4 v5 v6)) (fun v2 v3 v4 => K .ret (f6s5 v2 v3 v4)) :=
 viaBlockS (by kernel_rfl) (f6t8 N (K := blockK 0 (joinK (some f6l4) K)) ..) (by kernel_rfl)
noncomputable def f6p5 : Plan := .mk (some f6l3) none .n f6p7
theorem f6t5 N v0 v5 v6 v7 (K : KT ρ) : f6i N (f6c 11) f6p5 (f6s2 v0 v5 v6 v7) (joinK (some f6l4) K) =
  impl_CountsOfType.Z5 N v0 v5 v6 v7 (fun v5 v6 => K .nrm (f6s4 v5 v6)) (fun v2 v3 v4 => K .ret (f6s5 v2 v3 v4)) :=
 viaSeqS (fun k => impl_CountsOfType.Z6 N v0 v5 v6 v7 k) (by kernel_rfl) (f6t6 N (K := seqK (fun σ => f6i N (f6c 27) f6p7 σ (joinK (some f6l4) K)) (joinK (some f6l4) K)) ..) (fx6 fun v15 v5 v6 v7 v16 v17 => f6t7 N v15 v5 v6 v7 v16 v17 K) (by kernel_rfl)
theorem f6t10 N v5 v6 (K : KT ρ) : f6i N (f6c 15) .n (f6s4 v5 v6) (joinK (some f6lE) K) =
  impl_CountsOfType.Z10 N v5 v6 (fun v2 v3 v4 => K .ret (f6s5 v2 v3 v4)) := by kernel_rfl
noncomputable def f6p4 : Plan := .mk (some f6l4) none f6p5 .n
theorem f6t4 N v0 v5 v6 v7 (K : KT ρ) : f6i N (f6c 7) f6p4 (f6s2 v0 v5 v6 v7) (joinK (some f6lE) K) =
  impl_CountsOfType.Z4 N v0 v5 v6 v7 (fun v2 v3 v4 => K .ret (f6s5 v2 v3 v4)) :=
 viaSeqS (fun k => impl_CountsOfType.Z5 N v0 v5 v6 v7 k (fun v2 v3 v4 => K .ret (f6s5 v2 v3 v4))) (by kernel_rfl) (f6t5 N (K := seqK (fun σ => f6i N (f6c 15) .n σ (joinK (some f6lE) K)) (joinK (some f6lE) K)) ..) (fx2 fun v5 v6 => f6t10 N v5 v6 K) (by kernel_rfl)
noncomputable def f6p2 : Plan := .mk (some f6l2) none .n f6p4
theorem f6t2 N v0 (K : KT ρ) : f6i N (f6c 3) f6p2 (f6s1 v0) (joinK (some f6lE) K) =
  impl_CountsOfType.Z2 N v0 (fun v2 v3 v4 => K .ret (f6s5 v2 v3 v4)) :=
 viaSeqS (fun k => impl_CountsOfType.Z3 N v0 k) (by kernel_rfl) (f6t3 N (K := seqK (fun σ => f6i N (f6c 7) f6p4 σ (joinK (some f6lE) K)) (joinK (some f6lE) K)) ..) (fx4 fun v0 v5 v6 v7 => f6t4 N v0 v5 v6 v7 K) (by kernel_rfl)
noncomputable def f6p0 : Plan := .mk (some f6l1) none .n f6p2
theorem f6t0 N v0 (K : KT ρ) : f6i N (f6c 1) f6p0 (f6s0 v0) (joinK (some f6lE) K) =
  impl_CountsOfType.Z0 N v0 (fun v2 v3 v4 => K .ret (f6s5 v2 v3 v4)) :=
 viaSeqS (fun k => impl_CountsOfType.Z1 N v0 k) (by kernel_rfl) (f6t1 N (K := seqK (fun σ => f6i N (f6c 3) f6p2 σ (joinK (some f6lE) K)) (joinK (some f6lE) K)) ..) (funext fun v0 => f6t2 N v0 K) (by kernel_rfl)
theorem f6m (N : Nat) (v0 : ByteArray) : f6i N (f6c 1) f6p0 (f6s0 v0) (joinK (some f6lE) (finK tab f6sig Tryd.f6.results.toList)) = impl_CountsOfType.Z0 N v0 (fun v2 v3 v4 => some ((), (v2, (v3, (v4, ()))))) :=
  (f6t0 N v0 (finK tab f6sig Tryd.f6.results.toList)).trans (by kernel_rfl)
theorem f6ok (h : impl_CountsOfType.Spec) : EntryOk Tryd.prog 6 e6 :=
  entry_of_code (sig := f6sig) (c := (f6c 1)) (pl := f6p0) (je := (some f6lE)) (B := f6B) Tryd.func6 (by kernel_rfl) (by kernel_rfl) (by kernel_rfl) tabOk f6GOk (by kernel_rfl) (by kernel_rfl) (by kernel_rfl) (by kernel_rfl) fun X hb hp => by
    obtain ⟨v0, _⟩ := X
    obtain ⟨N, h⟩ := h v0 hp
    exact ⟨N, (f6m N v0).trans (h N (Nat.le_refl N))⟩
theorem e6ok : EntryOk Tryd.prog 6 e6 := f6ok impl_CountsOfType.ok
end Go.Fw
namespace Go.Fw
variable {ρ : Type}
open Go.Proofs
noncomputable def f3sig : Sig := ⟨[⟨.str, false, false⟩], [⟨.bool, false, false⟩]⟩
noncomputable def e3 : Entry := ⟨f3sig, none, fun X => ((), ((laws_FnExactCountsOfType.g X.1), ()))⟩
noncomputable def f3G : Gm := addG (addG emptyG 5 e5) 6 e6
theorem f3GOk : GOk Tryd.prog f3G := ((GOk.nil).add e5ok (by kernel_rfl)).add e6ok (by kernel_rfl)
noncomputable def f3lE : Clean := ⟨[], [], [], [], []⟩
noncomputable def f3s0 (v0 : ByteArray) : St := initSt f3sig.ps (v0, ())
noncomputable def f3s1 (v2 : Bool) : St := stOf [(2, xB v2)] [] []
noncomputable def f3l1 : Clean := ⟨[2], [], [], [], []⟩
noncomputable def f3B : Nat → Option Clean := lookL [(1000000, f3l1)]
noncomputable abbrev f3i {ρ : Type} (N : Nat) (c : Code) (p : Plan) (σ : St) (K : KT ρ) : Option ρ := iCode f3G tab f3B N c p σ K
noncomputable def f3c (n : Nat) : Code := codeN 99 (bodyOf Tryd.f3) n
theorem f3t0 N v0 (K : KT ρ) : f3i N (f3c 1) .n (f3s0 v0) (joinK (some f3lE) K) =
  laws_FnExactCountsOfType.Z0 N v0 (fun v2 => K .ret (f3s1 v2)) := by kernel_rfl
theorem f3m (N : Nat) (v0 : ByteArray) : f3i N (f3c 1) .n (f3s0 v0) (joinK (some f3lE) (finK tab f3sig Tryd.f3.results.toList)) = laws_FnExactCountsOfType.Z0 N v0 (fun v2 => some ((), (v2, ()))) :=
  (f3t0 N v0 (finK tab f3sig Tryd.f3.results.toList)).trans (by kernel_rfl)
theorem f3ok (h : laws_FnExactCountsOfType.Spec) : EntryOk Tryd.prog 3 e3 :=
  entry_of_code (sig := f3sig) (c := (f3c 1)) (pl := .n) (je := (some f3lE)) (B := f3B) Tryd.func3 (by kernel_rfl) (by kernel_rfl) (by kernel_rfl) tabOk f3GOk (by kernel_rfl) (by kernel_rfl) (by kernel_rfl) (by kernel_rfl) fun X hb hp => by
    obtain ⟨v0, _⟩ := X
    obtain ⟨N, h⟩ := h v0
    exact ⟨N, (f3m N v0).trans (h N (Nat.le_refl N))⟩
theorem e3ok : EntryOk Tryd.prog 3 e3 := f3ok laws_FnExactCountsOfType.ok
end Go.Fw
