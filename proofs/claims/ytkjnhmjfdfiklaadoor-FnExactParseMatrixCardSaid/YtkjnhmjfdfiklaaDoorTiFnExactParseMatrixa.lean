/- The ties: the program's text comes to the plain functions. Nothing is assumed. -/
import Derived.Test.YtkjnhmjfdfiklaaDoorFza
import Derived.Test.YtkjnhmjfdfiklaaDoorProg
import Derived.Test.YtkjnhmjfdfiklaaDoorPuFnExactParseMatrixa
import Derived.Test.YtkjnhmjfdfiklaaDoorChecked
import Derived.Test.YtkjnhmjfdfiklaaDoorPuFnExactParseMatrixb
set_option linter.unusedVariables false
set_option linter.unusedSimpArgs false
set_option maxRecDepth 100000
namespace Go.Fw
open Go.Proofs
def tab : Tab := lookTab [
  (2, ⟨false, .int .i64, [.int .i64 0], [], none, 8⟩),
  (3, ⟨false, .int .i64, [.int .i64 0], [], none, 8⟩),
  (4, ⟨false, .bool, [.bool false], [], none, 1⟩),
  (5, ⟨false, .int .u8, [.int .u8 0], [], none, 1⟩),
  (6, ⟨false, .int .u8, [.int .u8 0], [], none, 1⟩),
  (7, ⟨true, .pair (.int .i64) (.pair (.int .i64) (.pair (.bool) (.int .u8))), [.int .i64 0, .int .i64 0, .bool false, .int .u8 0], [(0, 1, false), (1, 1, false), (2, 1, false), (3, 1, false)], none, 24⟩),
  (8, ⟨true, .pair (.int .i64) (.pair (.int .i64) (.pair (.bool) (.int .u8))), [.int .i64 0, .int .i64 0, .bool false, .int .u8 0], [(0, 1, false), (1, 1, false), (2, 1, false), (3, 1, false)], none, 24⟩),
  (9, ⟨false, .str, [.str ByteArray.empty], [], none, 16⟩),
  (10, ⟨false, .str, [.str ByteArray.empty], [], none, 16⟩),
  (11, ⟨false, .str, [.str ByteArray.empty], [], none, 16⟩),
  (12, ⟨false, .int .u64, [.int .u64 0], [], none, 8⟩),
  (13, ⟨true, .pair (.str) (.int .u64), [.str ByteArray.empty, .int .u64 0], [(0, 1, false), (1, 1, false)], none, 24⟩),
  (14, ⟨true, .pair (.str) (.int .u64), [.str ByteArray.empty, .int .u64 0], [(0, 1, false), (1, 1, false)], none, 24⟩),
  (20, ⟨false, .err, [.err false], [], none, 16⟩),
  (21, ⟨false, .int .i32, [.int .i32 0], [], none, 4⟩),
  (22, ⟨false, .sl 3 (.int .i64), [.nil], [], some 3, 24⟩),
  (28, ⟨true, .pair (.int .i64) (.pair (.int .i64) (.sl 3 (.int .i64))), [.int .i64 0, .int .i64 0, .nil], [(0, 1, false), (1, 1, false), (2, 1, false)], none, 40⟩),
  (29, ⟨true, .pair (.int .i64) (.pair (.int .i64) (.sl 3 (.int .i64))), [.int .i64 0, .int .i64 0, .nil], [(0, 1, false), (1, 1, false), (2, 1, false)], none, 40⟩),
  (34, ⟨false, .sl 61 (.pair (.sl 3 (.int .i64)) (.int .i64)), [.nil], [], some 61, 24⟩),
  (35, ⟨true, .pair (.int .i64) (.sl 61 (.pair (.sl 3 (.int .i64)) (.int .i64))), [.int .i64 0, .nil], [(0, 1, false), (1, 1, false)], none, 32⟩),
  (36, ⟨true, .pair (.int .i64) (.sl 61 (.pair (.sl 3 (.int .i64)) (.int .i64))), [.int .i64 0, .nil], [(0, 1, false), (1, 1, false)], none, 32⟩),
  (41, ⟨false, .sl 5 (.int .u8), [.nil], [], some 5, 24⟩),
  (47, ⟨false, .sl 9 (.str), [.nil], [], some 9, 24⟩),
  (52, ⟨false, .err, [.err false], [], none, 16⟩),
  (53, ⟨false, .err, [.err false], [], none, 16⟩),
  (60, ⟨true, .pair (.sl 3 (.int .i64)) (.int .i64), [.nil, .int .i64 0], [(0, 1, false), (1, 1, false)], none, 32⟩),
  (61, ⟨true, .pair (.sl 3 (.int .i64)) (.int .i64), [.nil, .int .i64 0], [(0, 1, false), (1, 1, false)], none, 32⟩),
  (80, ⟨false, .sl 22 (.sl 3 (.int .i64)), [.nil], [], some 22, 24⟩),
  (83, ⟨true, .pair (.sl 5 (.int .u8)) (.pair (.int .i64) (.int .i64)), [.nil, .int .i64 0, .int .i64 0], [(0, 1, false), (1, 1, false), (2, 1, false)], none, 40⟩),
  (84, ⟨true, .pair (.sl 5 (.int .u8)) (.pair (.int .i64) (.int .i64)), [.nil, .int .i64 0, .int .i64 0], [(0, 1, false), (1, 1, false), (2, 1, false)], none, 40⟩),
  (87, ⟨false, .sl 91 (.pair (.int .i64) (.int .i64)), [.nil], [], some 91, 24⟩),
  (90, ⟨true, .pair (.int .i64) (.int .i64), [.int .i64 0, .int .i64 0], [(0, 1, false), (1, 1, false)], none, 16⟩),
  (91, ⟨true, .pair (.int .i64) (.int .i64), [.int .i64 0, .int .i64 0], [(0, 1, false), (1, 1, false)], none, 16⟩),
  (103, ⟨false, .int .i64, [.int .i64 0], [], none, 8⟩),
  (110, ⟨false, .int .u64, [.int .u64 0], [], none, 8⟩),
  (118, ⟨false, .int .u64, [.int .u64 0], [], none, 8⟩),
  (122, ⟨true, .pair (.str) (.pair (.str) (.err)), [.str ByteArray.empty, .str ByteArray.empty, .err false], [(0, 1, false), (1, 1, false), (2, 1, false)], none, 48⟩),
  (123, ⟨true, .pair (.str) (.pair (.str) (.err)), [.str ByteArray.empty, .str ByteArray.empty, .err false], [(0, 1, false), (1, 1, false), (2, 1, false)], none, 48⟩),
  (135, ⟨true, .str, [.str ByteArray.empty], [(0, 1, false)], none, 16⟩),
  (136, ⟨true, .str, [.str ByteArray.empty], [(0, 1, false)], none, 16⟩),
  (137, ⟨false, .int .u32, [.int .u32 0], [], none, 4⟩),
  (146, ⟨true, .pair (.int .u8) (.int .u8), [.int .u8 0, .int .u8 0], [(0, 1, false), (1, 1, false)], none, 2⟩),
  (147, ⟨true, .pair (.int .u8) (.int .u8), [.int .u8 0, .int .u8 0], [(0, 1, false), (1, 1, false)], none, 2⟩),
  (162, ⟨false, .int .u8, [.int .u8 0], [], none, 1⟩),
  (163, ⟨false, .int .u8, [.int .u8 0], [], none, 1⟩),
  (165, ⟨false, .int .i32, [.int .i32 0], [], none, 4⟩),
  (166, ⟨false, .int .i32, [.int .i32 0], [], none, 4⟩)]
theorem tabOk : TOk Tryd.prog tab := TOk.of (by kernel_rfl)
noncomputable def tabl : List (String × IntKind × List Int) := [("internal/strconv.uint64pow10", .u64, Lib.pow10Tab)]
noncomputable def intl : List (String × IntKind) := [("internal/bytealg.MaxLen", .i64)]
noncomputable def errl : List String := ["strconv.ErrSyntax", "strconv.ErrRange"]
noncomputable instance : Inv Tryd.prog := Inv.tabs _ tabl intl errl
theorem tab0 (w : World) (h : Inv.I Tryd.prog w) : Lib.TabIs Tryd.prog w "internal/strconv.uint64pow10" .u64 Lib.pow10Tab := Inv.tab_mem (q := intl) (es := errl) ("internal/strconv.uint64pow10", .u64, Lib.pow10Tab) (List.mem_of_getElem? (i := 0) rfl) w h
theorem int0 (w : World) (h : Inv.I Tryd.prog w) : ∃ g, Tryd.prog.globalNamed "internal/bytealg.MaxLen" = some g ∧ ∃ m, w.cell? ⟨g, 0, none⟩ = some (.int .i64 m) := Inv.int_mem (l := tabl) (es := errl) ("internal/bytealg.MaxLen", .i64) (List.mem_of_getElem? (i := 0) rfl) w h
theorem err0 (w : World) (h : Inv.I Tryd.prog w) : ∃ g, Tryd.prog.globalNamed "strconv.ErrSyntax" = some g ∧ ∃ v b, w.cell? ⟨g, 0, none⟩ = some v ∧ ErrV v b := Inv.err_mem (l := tabl) (q := intl) "strconv.ErrSyntax" (List.mem_of_getElem? (i := 0) rfl) w h
theorem err1 (w : World) (h : Inv.I Tryd.prog w) : ∃ g, Tryd.prog.globalNamed "strconv.ErrRange" = some g ∧ ∃ v b, w.cell? ⟨g, 0, none⟩ = some v ∧ ErrV v b := Inv.err_mem (l := tabl) (q := intl) "strconv.ErrRange" (List.mem_of_getElem? (i := 1) rfl) w h
end Go.Fw
namespace Go.Fw
variable {ρ : Type}
open Go.Proofs
noncomputable def f29sig : Sig := ⟨[⟨.str, false, false⟩, ⟨.int .u8, false, false⟩], [⟨.sl 9 (.str), false, false⟩]⟩
noncomputable def e29 : Entry := ⟨f29sig, (some fun X => spec_l1Split.P X.1 X.2.1), fun X => ((), ((spec_l1Split.g X.1 X.2.1), ()))⟩
noncomputable def f29G : Gm := emptyG
theorem f29GOk : GOk Tryd.prog f29G := GOk.nil
noncomputable def f29lE : Clean := ⟨[], [], [], [], []⟩
noncomputable def f29s0 (v0 : ByteArray) (v1 : Int) : St := initSt f29sig.ps (v0, (v1, ()))
noncomputable def f29s1 (v0 : ByteArray) (v1 : Int) : St := stOf [(0, .c (.str v0)), (1, .c (.int .u8 v1))] [] []
noncomputable def f29l1 : Clean := ⟨[0, 1], [], [], [], []⟩
noncomputable def f29s2 (v5 : List ByteArray) (v0 : ByteArray) (v1 : Int) : St := stOf [(0, .c (.str v0)), (1, .c (.int .u8 v1)), (5, xo 1000320)] [] [(1000320, (⟨9, .str, v5, true, false⟩ : Row))]
noncomputable def f29l2 : Clean := ⟨[0, 1, 5], [], [], [], [(⟨false, 5, 0⟩, 1000320)]⟩
noncomputable def f29s3 (v5 : List ByteArray) (v0 : ByteArray) (v1 v6 : Int) : St := stOf [(0, .c (.str v0)), (1, .c (.int .u8 v1)), (5, xo 1000320), (6, xi v6)] [] [(1000320, (⟨9, .str, v5, true, false⟩ : Row))]
noncomputable def f29l3 : Clean := ⟨[0, 1, 5, 6], [], [], [], [(⟨false, 5, 0⟩, 1000320)]⟩
noncomputable def f29s4 (v5 : List ByteArray) (v0 : ByteArray) (v1 v6 v7 : Int) : St := stOf [(0, .c (.str v0)), (1, .c (.int .u8 v1)), (5, xo 1000320), (6, xi v6), (7, xi v7)] [] [(1000320, (⟨9, .str, v5, true, false⟩ : Row))]
noncomputable def f29l4 : Clean := ⟨[0, 1, 5, 6, 7], [], [], [], [(⟨false, 5, 0⟩, 1000320)]⟩
noncomputable def f29s5 (v5 : List ByteArray) : St := stOf [(5, xo 1000320)] [] [(1000320, (⟨9, .str, v5, true, false⟩ : Row))]
noncomputable def f29l5 : Clean := ⟨[5], [], [], [], [(⟨false, 5, 0⟩, 1000320)]⟩
noncomputable def f29s6 (v4 : List ByteArray) : St := stOf [(4, xo 1000256)] [] [(1000256, (⟨9, .str, v4, true, false⟩ : Row))]
noncomputable def f29l6 : Clean := ⟨[4], [], [], [], [(⟨false, 4, 0⟩, 1000256)]⟩
noncomputable def f29B : Nat → Option Clean := lookL [(0, f29l5), (1000000, f29l6)]
noncomputable abbrev f29i {ρ : Type} (N : Nat) (c : Code) (p : Plan) (σ : St) (K : KT ρ) : Option ρ := iCode f29G tab f29B N c p σ K
noncomputable def f29c (n : Nat) : Code := codeN 99 (bodyOf Tryd.f29) n
theorem f29t1 N v0 v1 (K : KT ρ) : f29i N (f29c 2) .n (f29s0 v0 v1) (joinK (some f29l1) K) =
  spec_l1Split.Z1 N v0 v1 (fun v0 v1 => K .nrm (f29s1 v0 v1)) := by kernel_rfl
theorem f29t3 N v0 v1 (K : KT ρ) : f29i N (f29c 5) .n (f29s1 v0 v1) (joinK (some f29l2) K) =
  spec_l1Split.Z3 N v0 v1 (fun v5 v0 v1 => K .nrm (f29s2 v5 v0 v1)) := by kernel_rfl
theorem f29t5 N v5 v0 v1 (K : KT ρ) : f29i N (f29c 11) .n (f29s2 v5 v0 v1) (joinK (some f29l3) K) =
  spec_l1Split.Z5 N v5 v0 v1 (fun v5 v0 v1 v6 => K .nrm (f29s3 v5 v0 v1 v6)) := by kernel_rfl
theorem f29t8 N v5 v0 v1 v6 (K : KT ρ) : f29i N (f29c 39) .n (f29s3 v5 v0 v1 v6) (joinK (some f29l4) K) =
  spec_l1Split.Z8 N v5 v0 v1 v6 (fun v5 v0 v1 v6 v7 => K .nrm (f29s4 v5 v0 v1 v6 v7)) := by kernel_rfl
theorem f29t11 N v5 v0 v1 v6 v7 (K : KT ρ) : f29i N (f29c 151) .n (f29s4 v5 v0 v1 v6 v7) (joinK (some f29l4) K) =
  spec_l1Split.Z11 N v5 v0 v1 v6 v7 (fun v5 v0 v1 v6 v7 => K .nrm (f29s4 v5 v0 v1 v6 v7)) (fun v5 => K (.exit 0) (f29s5 v5)) := by kernel_rfl
noncomputable def f29p10 : Plan := .mk none (some f29l4) .n .n
noncomputable abbrev f29w10 {ρ : Type} (N M : Nat) (σ : St) (K : KT ρ) : Option ρ := loopC (fun σ K => f29i N (f29c 151) .n σ K) f29l4 M σ K
theorem f29t10L {ρ : Type} (N : Nat) (K : KT ρ) : ∀ (M : Nat) (v5 : List ByteArray) (v0 : ByteArray) (v1 v6 v7 : Int), f29w10 N M (f29s4 v5 v0 v1 v6 v7) K =
  spec_l1Split.Z10L N (fun v5 => K (.exit 0) (f29s5 v5)) M v5 v0 v1 v6 v7
  | 0, _, _, _, _, _ => rfl
  | M + 1, v5, v0, v1, v6, v7 => viaRoundS (fun k => spec_l1Split.Z11 N v5 v0 v1 v6 v7 k (fun v5 => K (.exit 0) (f29s5 v5))) (f29t11 N (K := seqK (fun σ => f29w10 N M σ K) K) ..) (fx5 fun v5 v0 v1 v6 v7 => f29t10L N K M v5 v0 v1 v6 v7) (by kernel_rfl)
theorem f29t10 N v5 v0 v1 v6 v7 (K : KT ρ) : f29i N (f29c 87) f29p10 (f29s4 v5 v0 v1 v6 v7) (joinK (some f29l5) K) =
  spec_l1Split.Z10 N v5 v0 v1 v6 v7 (fun v5 => K (.exit 0) (f29s5 v5)) :=
 viaLoopS (by kernel_rfl) (f29t10L N (joinK (some f29l5) K) N v5 v0 v1 v6 v7) (by kernel_rfl)
noncomputable def f29p9 : Plan := .mk (some f29l5) none f29p10 .n
theorem f29t9 N v5 v0 v1 v6 v7 (K : KT ρ) : f29i N (f29c 55) f29p9 (f29s4 v5 v0 v1 v6 v7) (joinK (some f29l5) K) =
  spec_l1Split.Z9 N v5 v0 v1 v6 v7 (fun v5 => K .nrm (f29s5 v5)) :=
 viaBlockS (by kernel_rfl) (f29t10 N (K := blockK 0 (joinK (some f29l5) K)) ..) (by kernel_rfl)
noncomputable def f29p7 : Plan := .mk (some f29l4) none .n f29p9
theorem f29t7 N v5 v0 v1 v6 (K : KT ρ) : f29i N (f29c 23) f29p7 (f29s3 v5 v0 v1 v6) (joinK (some f29l5) K) =
  spec_l1Split.Z7 N v5 v0 v1 v6 (fun v5 => K .nrm (f29s5 v5)) :=
 viaSeqS (fun k => spec_l1Split.Z8 N v5 v0 v1 v6 k) (by kernel_rfl) (f29t8 N (K := seqK (fun σ => f29i N (f29c 55) f29p9 σ (joinK (some f29l5) K)) (joinK (some f29l5) K)) ..) (fx5 fun v5 v0 v1 v6 v7 => f29t9 N v5 v0 v1 v6 v7 K) (by kernel_rfl)
theorem f29t12 N v5 (K : KT ρ) : f29i N (f29c 31) .n (f29s5 v5) (joinK (some f29lE) K) =
  spec_l1Split.Z12 N v5 (fun v4 => K .ret (f29s6 v4)) := by kernel_rfl
noncomputable def f29p6 : Plan := .mk (some f29l5) none f29p7 .n
theorem f29t6 N v5 v0 v1 v6 (K : KT ρ) : f29i N (f29c 15) f29p6 (f29s3 v5 v0 v1 v6) (joinK (some f29lE) K) =
  spec_l1Split.Z6 N v5 v0 v1 v6 (fun v4 => K .ret (f29s6 v4)) :=
 viaSeqS (fun k => spec_l1Split.Z7 N v5 v0 v1 v6 k) (by kernel_rfl) (f29t7 N (K := seqK (fun σ => f29i N (f29c 31) .n σ (joinK (some f29lE) K)) (joinK (some f29lE) K)) ..) (funext fun v5 => f29t12 N v5 K) (by kernel_rfl)
noncomputable def f29p4 : Plan := .mk (some f29l3) none .n f29p6
theorem f29t4 N v5 v0 v1 (K : KT ρ) : f29i N (f29c 7) f29p4 (f29s2 v5 v0 v1) (joinK (some f29lE) K) =
  spec_l1Split.Z4 N v5 v0 v1 (fun v4 => K .ret (f29s6 v4)) :=
 viaSeqS (fun k => spec_l1Split.Z5 N v5 v0 v1 k) (by kernel_rfl) (f29t5 N (K := seqK (fun σ => f29i N (f29c 15) f29p6 σ (joinK (some f29lE) K)) (joinK (some f29lE) K)) ..) (fx4 fun v5 v0 v1 v6 => f29t6 N v5 v0 v1 v6 K) (by kernel_rfl)
noncomputable def f29p2 : Plan := .mk (some f29l2) none .n f29p4
theorem f29t2 N v0 v1 (K : KT ρ) : f29i N (f29c 3) f29p2 (f29s1 v0 v1) (joinK (some f29lE) K) =
  spec_l1Split.Z2 N v0 v1 (fun v4 => K .ret (f29s6 v4)) :=
 viaSeqS (fun k => spec_l1Split.Z3 N v0 v1 k) (by kernel_rfl) (f29t3 N (K := seqK (fun σ => f29i N (f29c 7) f29p4 σ (joinK (some f29lE) K)) (joinK (some f29lE) K)) ..) (fx3 fun v5 v0 v1 => f29t4 N v5 v0 v1 K) (by kernel_rfl)
noncomputable def f29p0 : Plan := .mk (some f29l1) none .n f29p2
theorem f29t0 N v0 v1 (K : KT ρ) : f29i N (f29c 1) f29p0 (f29s0 v0 v1) (joinK (some f29lE) K) =
  spec_l1Split.Z0 N v0 v1 (fun v4 => K .ret (f29s6 v4)) :=
 viaSeqS (fun k => spec_l1Split.Z1 N v0 v1 k) (by kernel_rfl) (f29t1 N (K := seqK (fun σ => f29i N (f29c 3) f29p2 σ (joinK (some f29lE) K)) (joinK (some f29lE) K)) ..) (fx2 fun v0 v1 => f29t2 N v0 v1 K) (by kernel_rfl)
theorem f29m (N : Nat) (v0 : ByteArray) (v1 : Int) : f29i N (f29c 1) f29p0 (f29s0 v0 v1) (joinK (some f29lE) (finK tab f29sig Tryd.f29.results.toList)) = spec_l1Split.Z0 N v0 v1 (fun v4 => some ((), (v4, ()))) :=
  (f29t0 N v0 v1 (finK tab f29sig Tryd.f29.results.toList)).trans (by kernel_rfl)
theorem f29ok (h : spec_l1Split.Spec) : EntryOk Tryd.prog 29 e29 :=
  entry_of_code (sig := f29sig) (c := (f29c 1)) (pl := f29p0) (je := (some f29lE)) (B := f29B) Tryd.func29 (by kernel_rfl) (by kernel_rfl) (by kernel_rfl) tabOk f29GOk (by kernel_rfl) (by kernel_rfl) (by kernel_rfl) (by kernel_rfl) fun X hb hp => by
    obtain ⟨v0, v1, _⟩ := X
    obtain ⟨N, h⟩ := h v0 v1 hp
    exact ⟨N, (f29m N v0 v1).trans (h N (Nat.le_refl N))⟩
theorem e29ok : EntryOk Tryd.prog 29 e29 := f29ok spec_l1Split.ok
end Go.Fw
namespace Go.Fw
variable {ρ : Type}
open Go.Proofs
noncomputable def f56sig : Sig := ⟨[⟨.int .i64, false, false⟩], [⟨.str, false, false⟩]⟩
noncomputable def e56 : Entry := ⟨f56sig, (some fun X => spec_FormatInt.P X.1), fun X => ((), ((spec_FormatInt.g X.1), ()))⟩
noncomputable def f56G : Gm := emptyG
theorem f56GOk : GOk Tryd.prog f56G := GOk.nil
noncomputable def f56lE : Clean := ⟨[], [], [], [], []⟩
noncomputable def f56s0 (v0 : Int) : St := initSt f56sig.ps (v0, ())
noncomputable def f56s1 (v0 : Int) : St := stOf [(0, xi v0)] [] []
noncomputable def f56l1 : Clean := ⟨[0], [], [], [], []⟩
noncomputable def f56s2 (v3 : List Int) (v0 : Int) : St := stOf [(0, xi v0), (3, xo 1000192)] [] [(1000192, (⟨5, .int .u8, v3, true, false⟩ : Row))]
noncomputable def f56l2 : Clean := ⟨[0, 3], [], [], [], [(⟨false, 3, 0⟩, 1000192)]⟩
noncomputable def f56s3 (v3 : List Int) (v0 v4 : Int) : St := stOf [(0, xi v0), (3, xo 1000192), (4, xi v4)] [] [(1000192, (⟨5, .int .u8, v3, true, false⟩ : Row))]
noncomputable def f56l3 : Clean := ⟨[0, 3, 4], [], [], [], [(⟨false, 3, 0⟩, 1000192)]⟩
noncomputable def f56s4 (v3 v6 : List Int) (v0 : Int) : St := stOf [(0, xi v0), (3, xo 1000192), (6, xo 1000384)] [] [(1000192, (⟨5, .int .u8, v3, true, false⟩ : Row)), (1000384, (⟨5, .int .u8, v6, true, false⟩ : Row))]
noncomputable def f56l4 : Clean := ⟨[0, 3, 6], [], [], [], [(⟨false, 3, 0⟩, 1000192), (⟨false, 6, 0⟩, 1000384)]⟩
noncomputable def f56s5 (v3 v6 : List Int) : St := stOf [(3, xo 1000192), (6, xo 1000384)] [] [(1000192, (⟨5, .int .u8, v3, true, false⟩ : Row)), (1000384, (⟨5, .int .u8, v6, true, false⟩ : Row))]
noncomputable def f56l5 : Clean := ⟨[3, 6], [], [], [], [(⟨false, 3, 0⟩, 1000192), (⟨false, 6, 0⟩, 1000384)]⟩
noncomputable def f56s6 (v3 v6 : List Int) (v7 : Int) : St := stOf [(3, xo 1000192), (6, xo 1000384), (7, xi v7)] [] [(1000192, (⟨5, .int .u8, v3, true, false⟩ : Row)), (1000384, (⟨5, .int .u8, v6, true, false⟩ : Row))]
noncomputable def f56l6 : Clean := ⟨[3, 6, 7], [], [], [], [(⟨false, 3, 0⟩, 1000192), (⟨false, 6, 0⟩, 1000384)]⟩
noncomputable def f56s7 (v6 : List Int) : St := stOf [(6, xo 1000384)] [] [(1000384, (⟨5, .int .u8, v6, true, false⟩ : Row))]
noncomputable def f56l7 : Clean := ⟨[6], [], [], [], [(⟨false, 6, 0⟩, 1000384)]⟩
noncomputable def f56s8 (v2 : ByteArray) : St := stOf [(2, .c (.str v2))] [] []
noncomputable def f56l8 : Clean := ⟨[2], [], [], [], []⟩
noncomputable def f56B : Nat → Option Clean := lookL [(0, f56l2), (2, f56l7), (1000000, f56l8)]
noncomputable abbrev f56i {ρ : Type} (N : Nat) (c : Code) (p : Plan) (σ : St) (K : KT ρ) : Option ρ := iCode f56G tab f56B N c p σ K
noncomputable def f56c (n : Nat) : Code := codeN 99 (bodyOf Tryd.f56) n
theorem f56t1 N v0 (K : KT ρ) : f56i N (f56c 2) .n (f56s0 v0) (joinK (some f56l1) K) =
  spec_FormatInt.Z1 N v0 (fun v0 => K .nrm (f56s1 v0)) := by kernel_rfl
theorem f56t3 N v0 (K : KT ρ) : f56i N (f56c 5) .n (f56s1 v0) (joinK (some f56l2) K) =
  spec_FormatInt.Z3 N v0 (fun v3 v0 => K .nrm (f56s2 v3 v0)) := by kernel_rfl
theorem f56t5 N v3 v0 (K : KT ρ) : f56i N (f56c 11) .n (f56s2 v3 v0) (joinK (some f56l3) K) =
  spec_FormatInt.Z5 N v3 v0 (fun v3 v0 v4 => K .nrm (f56s3 v3 v0 v4)) := by kernel_rfl
theorem f56t9 N v3 v0 v4 (K : KT ρ) : f56i N (f56c 71) .n (f56s3 v3 v0 v4) (joinK (some f56l3) K) =
  spec_FormatInt.Z9 N v3 v0 v4 (fun v3 v0 v4 => K .nrm (f56s3 v3 v0 v4)) (fun v3 v0 => K (.exit 0) (f56s2 v3 v0)) := by kernel_rfl
noncomputable def f56p8 : Plan := .mk none (some f56l3) .n .n
noncomputable abbrev f56w8 {ρ : Type} (N M : Nat) (σ : St) (K : KT ρ) : Option ρ := loopC (fun σ K => f56i N (f56c 71) .n σ K) f56l3 M σ K
theorem f56t8L {ρ : Type} (N : Nat) (K : KT ρ) : ∀ (M : Nat) (v3 : List Int) (v0 v4 : Int), f56w8 N M (f56s3 v3 v0 v4) K =
  spec_FormatInt.Z8L N (fun v3 v0 => K (.exit 0) (f56s2 v3 v0)) M v3 v0 v4
  | 0, _, _, _ => rfl
  | M + 1, v3, v0, v4 => viaRoundS (fun k => spec_FormatInt.Z9 N v3 v0 v4 k (fun v3 v0 => K (.exit 0) (f56s2 v3 v0))) (f56t9 N (K := seqK (fun σ => f56w8 N M σ K) K) ..) (fx3 fun v3 v0 v4 => f56t8L N K M v3 v0 v4) (by kernel_rfl)
theorem f56t8 N v3 v0 v4 (K : KT ρ) : f56i N (f56c 39) f56p8 (f56s3 v3 v0 v4) (joinK (some f56l2) K) =
  spec_FormatInt.Z8 N v3 v0 v4 (fun v3 v0 => K (.exit 0) (f56s2 v3 v0)) :=
 viaLoopS (by kernel_rfl) (f56t8L N (joinK (some f56l2) K) N v3 v0 v4) (by kernel_rfl)
noncomputable def f56p7 : Plan := .mk (some f56l2) none f56p8 .n
theorem f56t7 N v3 v0 v4 (K : KT ρ) : f56i N (f56c 23) f56p7 (f56s3 v3 v0 v4) (joinK (some f56l2) K) =
  spec_FormatInt.Z7 N v3 v0 v4 (fun v3 v0 => K .nrm (f56s2 v3 v0)) :=
 viaBlockS (by kernel_rfl) (f56t8 N (K := blockK 0 (joinK (some f56l2) K)) ..) (by kernel_rfl)
theorem f56t11 N v3 v0 (K : KT ρ) : f56i N (f56c 47) .n (f56s2 v3 v0) (joinK (some f56l4) K) =
  spec_FormatInt.Z11 N v3 v0 (fun v3 v6 v0 => K .nrm (f56s4 v3 v6 v0)) := by kernel_rfl
theorem f56t13 N v3 v6 v0 (K : KT ρ) : f56i N (f56c 95) .n (f56s4 v3 v6 v0) (joinK (some f56l5) K) =
  spec_FormatInt.Z13 N v3 v6 v0 (fun v3 v6 => K .nrm (f56s5 v3 v6)) := by kernel_rfl
theorem f56t16 N v3 v6 (K : KT ρ) : f56i N (f56c 319) .n (f56s5 v3 v6) (joinK (some f56l6) K) =
  spec_FormatInt.Z16 N v3 v6 (fun v3 v6 v7 => K .nrm (f56s6 v3 v6 v7)) := by kernel_rfl
theorem f56t19 N v3 v6 v7 (K : KT ρ) : f56i N (f56c 1215) .n (f56s6 v3 v6 v7) (joinK (some f56l6) K) =
  spec_FormatInt.Z19 N v3 v6 v7 (fun v3 v6 v7 => K .nrm (f56s6 v3 v6 v7)) (fun v6 => K (.exit 2) (f56s7 v6)) := by kernel_rfl
noncomputable def f56p18 : Plan := .mk none (some f56l6) .n .n
noncomputable abbrev f56w18 {ρ : Type} (N M : Nat) (σ : St) (K : KT ρ) : Option ρ := loopC (fun σ K => f56i N (f56c 1215) .n σ K) f56l6 M σ K
theorem f56t18L {ρ : Type} (N : Nat) (K : KT ρ) : ∀ (M : Nat) (v3 v6 : List Int) (v7 : Int), f56w18 N M (f56s6 v3 v6 v7) K =
  spec_FormatInt.Z18L N (fun v6 => K (.exit 2) (f56s7 v6)) M v3 v6 v7
  | 0, _, _, _ => rfl
  | M + 1, v3, v6, v7 => viaRoundS (fun k => spec_FormatInt.Z19 N v3 v6 v7 k (fun v6 => K (.exit 2) (f56s7 v6))) (f56t19 N (K := seqK (fun σ => f56w18 N M σ K) K) ..) (fx3 fun v3 v6 v7 => f56t18L N K M v3 v6 v7) (by kernel_rfl)
theorem f56t18 N v3 v6 v7 (K : KT ρ) : f56i N (f56c 703) f56p18 (f56s6 v3 v6 v7) (joinK (some f56l7) K) =
  spec_FormatInt.Z18 N v3 v6 v7 (fun v6 => K (.exit 2) (f56s7 v6)) :=
 viaLoopS (by kernel_rfl) (f56t18L N (joinK (some f56l7) K) N v3 v6 v7) (by kernel_rfl)
noncomputable def f56p17 : Plan := .mk (some f56l7) none f56p18 .n
theorem f56t17 N v3 v6 v7 (K : KT ρ) : f56i N (f56c 447) f56p17 (f56s6 v3 v6 v7) (joinK (some f56l7) K) =
  spec_FormatInt.Z17 N v3 v6 v7 (fun v6 => K .nrm (f56s7 v6)) :=
 viaBlockS (by kernel_rfl) (f56t18 N (K := blockK 2 (joinK (some f56l7) K)) ..) (by kernel_rfl)
noncomputable def f56p15 : Plan := .mk (some f56l6) none .n f56p17
theorem f56t15 N v3 v6 (K : KT ρ) : f56i N (f56c 191) f56p15 (f56s5 v3 v6) (joinK (some f56l7) K) =
  spec_FormatInt.Z15 N v3 v6 (fun v6 => K .nrm (f56s7 v6)) :=
 viaSeqS (fun k => spec_FormatInt.Z16 N v3 v6 k) (by kernel_rfl) (f56t16 N (K := seqK (fun σ => f56i N (f56c 447) f56p17 σ (joinK (some f56l7) K)) (joinK (some f56l7) K)) ..) (fx3 fun v3 v6 v7 => f56t17 N v3 v6 v7 K) (by kernel_rfl)
theorem f56t20 N v6 (K : KT ρ) : f56i N (f56c 255) .n (f56s7 v6) (joinK (some f56lE) K) =
  spec_FormatInt.Z20 N v6 (fun v2 => K .ret (f56s8 v2)) := by kernel_rfl
noncomputable def f56p14 : Plan := .mk (some f56l7) none f56p15 .n
theorem f56t14 N v3 v6 (K : KT ρ) : f56i N (f56c 127) f56p14 (f56s5 v3 v6) (joinK (some f56lE) K) =
  spec_FormatInt.Z14 N v3 v6 (fun v2 => K .ret (f56s8 v2)) :=
 viaSeqS (fun k => spec_FormatInt.Z15 N v3 v6 k) (by kernel_rfl) (f56t15 N (K := seqK (fun σ => f56i N (f56c 255) .n σ (joinK (some f56lE) K)) (joinK (some f56lE) K)) ..) (funext fun v6 => f56t20 N v6 K) (by kernel_rfl)
noncomputable def f56p12 : Plan := .mk (some f56l5) none .n f56p14
theorem f56t12 N v3 v6 v0 (K : KT ρ) : f56i N (f56c 63) f56p12 (f56s4 v3 v6 v0) (joinK (some f56lE) K) =
  spec_FormatInt.Z12 N v3 v6 v0 (fun v2 => K .ret (f56s8 v2)) :=
 viaSeqS (fun k => spec_FormatInt.Z13 N v3 v6 v0 k) (by kernel_rfl) (f56t13 N (K := seqK (fun σ => f56i N (f56c 127) f56p14 σ (joinK (some f56lE) K)) (joinK (some f56lE) K)) ..) (fx2 fun v3 v6 => f56t14 N v3 v6 K) (by kernel_rfl)
noncomputable def f56p10 : Plan := .mk (some f56l4) none .n f56p12
theorem f56t10 N v3 v0 (K : KT ρ) : f56i N (f56c 31) f56p10 (f56s2 v3 v0) (joinK (some f56lE) K) =
  spec_FormatInt.Z10 N v3 v0 (fun v2 => K .ret (f56s8 v2)) :=
 viaSeqS (fun k => spec_FormatInt.Z11 N v3 v0 k) (by kernel_rfl) (f56t11 N (K := seqK (fun σ => f56i N (f56c 63) f56p12 σ (joinK (some f56lE) K)) (joinK (some f56lE) K)) ..) (fx3 fun v3 v6 v0 => f56t12 N v3 v6 v0 K) (by kernel_rfl)
noncomputable def f56p6 : Plan := .mk (some f56l2) none f56p7 f56p10
theorem f56t6 N v3 v0 v4 (K : KT ρ) : f56i N (f56c 15) f56p6 (f56s3 v3 v0 v4) (joinK (some f56lE) K) =
  spec_FormatInt.Z6 N v3 v0 v4 (fun v2 => K .ret (f56s8 v2)) :=
 viaSeqS (fun k => spec_FormatInt.Z7 N v3 v0 v4 k) (by kernel_rfl) (f56t7 N (K := seqK (fun σ => f56i N (f56c 31) f56p10 σ (joinK (some f56lE) K)) (joinK (some f56lE) K)) ..) (fx2 fun v3 v0 => f56t10 N v3 v0 K) (by kernel_rfl)
noncomputable def f56p4 : Plan := .mk (some f56l3) none .n f56p6
theorem f56t4 N v3 v0 (K : KT ρ) : f56i N (f56c 7) f56p4 (f56s2 v3 v0) (joinK (some f56lE) K) =
  spec_FormatInt.Z4 N v3 v0 (fun v2 => K .ret (f56s8 v2)) :=
 viaSeqS (fun k => spec_FormatInt.Z5 N v3 v0 k) (by kernel_rfl) (f56t5 N (K := seqK (fun σ => f56i N (f56c 15) f56p6 σ (joinK (some f56lE) K)) (joinK (some f56lE) K)) ..) (fx3 fun v3 v0 v4 => f56t6 N v3 v0 v4 K) (by kernel_rfl)
noncomputable def f56p2 : Plan := .mk (some f56l2) none .n f56p4
theorem f56t2 N v0 (K : KT ρ) : f56i N (f56c 3) f56p2 (f56s1 v0) (joinK (some f56lE) K) =
  spec_FormatInt.Z2 N v0 (fun v2 => K .ret (f56s8 v2)) :=
 viaSeqS (fun k => spec_FormatInt.Z3 N v0 k) (by kernel_rfl) (f56t3 N (K := seqK (fun σ => f56i N (f56c 7) f56p4 σ (joinK (some f56lE) K)) (joinK (some f56lE) K)) ..) (fx2 fun v3 v0 => f56t4 N v3 v0 K) (by kernel_rfl)
noncomputable def f56p0 : Plan := .mk (some f56l1) none .n f56p2
theorem f56t0 N v0 (K : KT ρ) : f56i N (f56c 1) f56p0 (f56s0 v0) (joinK (some f56lE) K) =
  spec_FormatInt.Z0 N v0 (fun v2 => K .ret (f56s8 v2)) :=
 viaSeqS (fun k => spec_FormatInt.Z1 N v0 k) (by kernel_rfl) (f56t1 N (K := seqK (fun σ => f56i N (f56c 3) f56p2 σ (joinK (some f56lE) K)) (joinK (some f56lE) K)) ..) (funext fun v0 => f56t2 N v0 K) (by kernel_rfl)
theorem f56m (N : Nat) (v0 : Int) : f56i N (f56c 1) f56p0 (f56s0 v0) (joinK (some f56lE) (finK tab f56sig Tryd.f56.results.toList)) = spec_FormatInt.Z0 N v0 (fun v2 => some ((), (v2, ()))) :=
  (f56t0 N v0 (finK tab f56sig Tryd.f56.results.toList)).trans (by kernel_rfl)
theorem f56ok (h : spec_FormatInt.Spec) : EntryOk Tryd.prog 56 e56 :=
  entry_of_code (sig := f56sig) (c := (f56c 1)) (pl := f56p0) (je := (some f56lE)) (B := f56B) Tryd.func56 (by kernel_rfl) (by kernel_rfl) (by kernel_rfl) tabOk f56GOk (by kernel_rfl) (by kernel_rfl) (by kernel_rfl) (by kernel_rfl) fun X hb hp => by
    obtain ⟨v0, _⟩ := X
    obtain ⟨N, h⟩ := h v0 hp
    exact ⟨N, (f56m N v0).trans (h N (Nat.le_refl N))⟩
theorem e56ok : EntryOk Tryd.prog 56 e56 := f56ok spec_FormatInt.ok
end Go.Fw
namespace Go.Fw
variable {ρ : Type}
open Go.Proofs
noncomputable def f30sig : Sig := ⟨[⟨.str, false, false⟩], [⟨.int .i64, false, false⟩, ⟨.bool, false, false⟩]⟩
noncomputable def e30 : Entry := ⟨f30sig, none, fun X => ((), ((spec_l1Number.g X.1).1, ((spec_l1Number.g X.1).2, ())))⟩
noncomputable def f30G : Gm := addG emptyG 56 e56
theorem f30GOk : GOk Tryd.prog f30G := (GOk.nil).add e56ok (by kernel_rfl)
noncomputable def f30lE : Clean := ⟨[], [], [], [], []⟩
noncomputable def f30s0 (v0 : ByteArray) : St := initSt f30sig.ps (v0, ())
noncomputable def f30s1 (v0 : ByteArray) : St := stOf [(0, .c (.str v0))] [] []
noncomputable def f30l1 : Clean := ⟨[0], [], [], [], []⟩
noncomputable def f30s2 (v0 : ByteArray) (v4 : Int) : St := stOf [(0, .c (.str v0)), (4, xi v4)] [] []
noncomputable def f30l2 : Clean := ⟨[0, 4], [], [], [], []⟩
noncomputable def f30s3 (v0 : ByteArray) (v4 v5 : Int) : St := stOf [(0, .c (.str v0)), (4, xi v4), (5, xi v5)] [] []
noncomputable def f30l3 : Clean := ⟨[0, 4, 5], [], [], [], []⟩
noncomputable def f30s4 (v0 : ByteArray) (v4 v5 v6 : Int) : St := stOf [(0, .c (.str v0)), (4, xi v4), (5, xi v5), (6, xi v6)] [] []
noncomputable def f30l4 : Clean := ⟨[0, 4, 5, 6], [], [], [], []⟩
noncomputable def f30s5 (v2 : Int) (v3 : Bool) : St := stOf [(2, xi v2), (3, xB v3)] [] []
noncomputable def f30l5 : Clean := ⟨[2, 3], [], [], [], []⟩
noncomputable def f30B : Nat → Option Clean := lookL [(0, f30l3), (1000000, f30l5)]
noncomputable abbrev f30i {ρ : Type} (N : Nat) (c : Code) (p : Plan) (σ : St) (K : KT ρ) : Option ρ := iCode f30G tab f30B N c p σ K
noncomputable def f30c (n : Nat) : Code := codeN 99 (bodyOf Tryd.f30) n
theorem f30t1 N v0 (K : KT ρ) : f30i N (f30c 2) .n (f30s0 v0) (joinK (some f30l1) K) =
  spec_l1Number.Z1 N v0 (fun v0 => K .nrm (f30s1 v0)) := by kernel_rfl
theorem f30t3 N v0 (K : KT ρ) : f30i N (f30c 5) .n (f30s1 v0) (joinK (some f30l2) K) =
  spec_l1Number.Z3 N v0 (fun v0 v4 => K .nrm (f30s2 v0 v4)) := by kernel_rfl
theorem f30t5 N v0 v4 (K : KT ρ) : f30i N (f30c 11) .n (f30s2 v0 v4) (joinK (some f30l2) K) =
  spec_l1Number.Z5 N v0 v4 (fun v0 v4 => K .nrm (f30s2 v0 v4)) := by kernel_rfl
theorem f30t7 N v0 v4 (K : KT ρ) : f30i N (f30c 23) .n (f30s2 v0 v4) (joinK (some f30l2) K) =
  spec_l1Number.Z7 N v0 v4 (fun v0 v4 => K .nrm (f30s2 v0 v4)) (fun v2 v3 => K .ret (f30s5 v2 v3)) := by kernel_rfl
theorem f30t9 N v0 v4 (K : KT ρ) : f30i N (f30c 47) .n (f30s2 v0 v4) (joinK (some f30l3) K) =
  spec_l1Number.Z9 N v0 v4 (fun v0 v4 v5 => K .nrm (f30s3 v0 v4 v5)) := by kernel_rfl
theorem f30t12 N v0 v4 v5 (K : KT ρ) : f30i N (f30c 159) .n (f30s3 v0 v4 v5) (joinK (some f30l4) K) =
  spec_l1Number.Z12 N v0 v4 v5 (fun v0 v4 v5 v6 => K .nrm (f30s4 v0 v4 v5 v6)) := by kernel_rfl
theorem f30t15 N v0 v4 v5 v6 (K : KT ρ) : f30i N (f30c 607) .n (f30s4 v0 v4 v5 v6) (joinK (some f30l4) K) =
  spec_l1Number.Z15 N v0 v4 v5 v6 (fun v0 v4 v5 v6 => K .nrm (f30s4 v0 v4 v5 v6)) (fun v0 v4 v5 => K (.exit 0) (f30s3 v0 v4 v5)) (fun v2 v3 => K .ret (f30s5 v2 v3)) := by kernel_rfl
noncomputable def f30p14 : Plan := .mk none (some f30l4) .n .n
noncomputable abbrev f30w14 {ρ : Type} (N M : Nat) (σ : St) (K : KT ρ) : Option ρ := loopC (fun σ K => f30i N (f30c 607) .n σ K) f30l4 M σ K
theorem f30t14L {ρ : Type} (N : Nat) (K : KT ρ) : ∀ (M : Nat) (v0 : ByteArray) (v4 v5 v6 : Int), f30w14 N M (f30s4 v0 v4 v5 v6) K =
  spec_l1Number.Z14L N (fun v0 v4 v5 => K (.exit 0) (f30s3 v0 v4 v5)) (fun v2 v3 => K .ret (f30s5 v2 v3)) M v0 v4 v5 v6
  | 0, _, _, _, _ => rfl
  | M + 1, v0, v4, v5, v6 => viaRoundS (fun k => spec_l1Number.Z15 N v0 v4 v5 v6 k (fun v0 v4 v5 => K (.exit 0) (f30s3 v0 v4 v5)) (fun v2 v3 => K .ret (f30s5 v2 v3))) (f30t15 N (K := seqK (fun σ => f30w14 N M σ K) K) ..) (fx4 fun v0 v4 v5 v6 => f30t14L N K M v0 v4 v5 v6) (by kernel_rfl)
theorem f30t14 N v0 v4 v5 v6 (K : KT ρ) : f30i N (f30c 351) f30p14 (f30s4 v0 v4 v5 v6) (joinK (some f30l3) K) =
  spec_l1Number.Z14 N v0 v4 v5 v6 (fun v0 v4 v5 => K (.exit 0) (f30s3 v0 v4 v5)) (fun v2 v3 => K .ret (f30s5 v2 v3)) :=
 viaLoopS (by kernel_rfl) (f30t14L N (joinK (some f30l3) K) N v0 v4 v5 v6) (by kernel_rfl)
noncomputable def f30p13 : Plan := .mk (some f30l3) none f30p14 .n
theorem f30t13 N v0 v4 v5 v6 (K : KT ρ) : f30i N (f30c 223) f30p13 (f30s4 v0 v4 v5 v6) (joinK (some f30l3) K) =
  spec_l1Number.Z13 N v0 v4 v5 v6 (fun v0 v4 v5 => K .nrm (f30s3 v0 v4 v5)) (fun v2 v3 => K .ret (f30s5 v2 v3)) :=
 viaBlockS (by kernel_rfl) (f30t14 N (K := blockK 0 (joinK (some f30l3) K)) ..) (by kernel_rfl)
noncomputable def f30p11 : Plan := .mk (some f30l4) none .n f30p13
theorem f30t11 N v0 v4 v5 (K : KT ρ) : f30i N (f30c 95) f30p11 (f30s3 v0 v4 v5) (joinK (some f30l3) K) =
  spec_l1Number.Z11 N v0 v4 v5 (fun v0 v4 v5 => K .nrm (f30s3 v0 v4 v5)) (fun v2 v3 => K .ret (f30s5 v2 v3)) :=
 viaSeqS (fun k => spec_l1Number.Z12 N v0 v4 v5 k) (by kernel_rfl) (f30t12 N (K := seqK (fun σ => f30i N (f30c 223) f30p13 σ (joinK (some f30l3) K)) (joinK (some f30l3) K)) ..) (fx4 fun v0 v4 v5 v6 => f30t13 N v0 v4 v5 v6 K) (by kernel_rfl)
theorem f30t16 N v0 v4 v5 (K : KT ρ) : f30i N (f30c 127) .n (f30s3 v0 v4 v5) (joinK (some f30lE) K) =
  spec_l1Number.Z16 N v0 v4 v5 (fun v2 v3 => K .ret (f30s5 v2 v3)) := by kernel_rfl
noncomputable def f30p10 : Plan := .mk (some f30l3) none f30p11 .n
theorem f30t10 N v0 v4 v5 (K : KT ρ) : f30i N (f30c 63) f30p10 (f30s3 v0 v4 v5) (joinK (some f30lE) K) =
  spec_l1Number.Z10 N v0 v4 v5 (fun v2 v3 => K .ret (f30s5 v2 v3)) :=
 viaSeqS (fun k => spec_l1Number.Z11 N v0 v4 v5 k (fun v2 v3 => K .ret (f30s5 v2 v3))) (by kernel_rfl) (f30t11 N (K := seqK (fun σ => f30i N (f30c 127) .n σ (joinK (some f30lE) K)) (joinK (some f30lE) K)) ..) (fx3 fun v0 v4 v5 => f30t16 N v0 v4 v5 K) (by kernel_rfl)
noncomputable def f30p8 : Plan := .mk (some f30l3) none .n f30p10
theorem f30t8 N v0 v4 (K : KT ρ) : f30i N (f30c 31) f30p8 (f30s2 v0 v4) (joinK (some f30lE) K) =
  spec_l1Number.Z8 N v0 v4 (fun v2 v3 => K .ret (f30s5 v2 v3)) :=
 viaSeqS (fun k => spec_l1Number.Z9 N v0 v4 k) (by kernel_rfl) (f30t9 N (K := seqK (fun σ => f30i N (f30c 63) f30p10 σ (joinK (some f30lE) K)) (joinK (some f30lE) K)) ..) (fx3 fun v0 v4 v5 => f30t10 N v0 v4 v5 K) (by kernel_rfl)
noncomputable def f30p6 : Plan := .mk (some f30l2) none .n f30p8
theorem f30t6 N v0 v4 (K : KT ρ) : f30i N (f30c 15) f30p6 (f30s2 v0 v4) (joinK (some f30lE) K) =
  spec_l1Number.Z6 N v0 v4 (fun v2 v3 => K .ret (f30s5 v2 v3)) :=
 viaSeqS (fun k => spec_l1Number.Z7 N v0 v4 k (fun v2 v3 => K .ret (f30s5 v2 v3))) (by kernel_rfl) (f30t7 N (K := seqK (fun σ => f30i N (f30c 31) f30p8 σ (joinK (some f30lE) K)) (joinK (some f30lE) K)) ..) (fx2 fun v0 v4 => f30t8 N v0 v4 K) (by kernel_rfl)
noncomputable def f30p4 : Plan := .mk (some f30l2) none .n f30p6
theorem f30t4 N v0 v4 (K : KT ρ) : f30i N (f30c 7) f30p4 (f30s2 v0 v4) (joinK (some f30lE) K) =
  spec_l1Number.Z4 N v0 v4 (fun v2 v3 => K .ret (f30s5 v2 v3)) :=
 viaSeqS (fun k => spec_l1Number.Z5 N v0 v4 k) (by kernel_rfl) (f30t5 N (K := seqK (fun σ => f30i N (f30c 15) f30p6 σ (joinK (some f30lE) K)) (joinK (some f30lE) K)) ..) (fx2 fun v0 v4 => f30t6 N v0 v4 K) (by kernel_rfl)
noncomputable def f30p2 : Plan := .mk (some f30l2) none .n f30p4
theorem f30t2 N v0 (K : KT ρ) : f30i N (f30c 3) f30p2 (f30s1 v0) (joinK (some f30lE) K) =
  spec_l1Number.Z2 N v0 (fun v2 v3 => K .ret (f30s5 v2 v3)) :=
 viaSeqS (fun k => spec_l1Number.Z3 N v0 k) (by kernel_rfl) (f30t3 N (K := seqK (fun σ => f30i N (f30c 7) f30p4 σ (joinK (some f30lE) K)) (joinK (some f30lE) K)) ..) (fx2 fun v0 v4 => f30t4 N v0 v4 K) (by kernel_rfl)
noncomputable def f30p0 : Plan := .mk (some f30l1) none .n f30p2
theorem f30t0 N v0 (K : KT ρ) : f30i N (f30c 1) f30p0 (f30s0 v0) (joinK (some f30lE) K) =
  spec_l1Number.Z0 N v0 (fun v2 v3 => K .ret (f30s5 v2 v3)) :=
 viaSeqS (fun k => spec_l1Number.Z1 N v0 k) (by kernel_rfl) (f30t1 N (K := seqK (fun σ => f30i N (f30c 3) f30p2 σ (joinK (some f30lE) K)) (joinK (some f30lE) K)) ..) (funext fun v0 => f30t2 N v0 K) (by kernel_rfl)
theorem f30m (N : Nat) (v0 : ByteArray) : f30i N (f30c 1) f30p0 (f30s0 v0) (joinK (some f30lE) (finK tab f30sig Tryd.f30.results.toList)) = spec_l1Number.Z0 N v0 (fun v2 v3 => some ((), (v2, (v3, ())))) :=
  (f30t0 N v0 (finK tab f30sig Tryd.f30.results.toList)).trans (by kernel_rfl)
theorem f30ok (h : spec_l1Number.Spec) : EntryOk Tryd.prog 30 e30 :=
  entry_of_code (sig := f30sig) (c := (f30c 1)) (pl := f30p0) (je := (some f30lE)) (B := f30B) Tryd.func30 (by kernel_rfl) (by kernel_rfl) (by kernel_rfl) tabOk f30GOk (by kernel_rfl) (by kernel_rfl) (by kernel_rfl) (by kernel_rfl) fun X hb hp => by
    obtain ⟨v0, _⟩ := X
    obtain ⟨N, h⟩ := h v0
    exact ⟨N, (f30m N v0).trans (h N (Nat.le_refl N))⟩
theorem e30ok : EntryOk Tryd.prog 30 e30 := f30ok spec_l1Number.ok
end Go.Fw
namespace Go.Fw
variable {ρ : Type}
open Go.Proofs
noncomputable def f7sig : Sig := ⟨[⟨.str, false, false⟩], [⟨.sl 3 (.int .i64), false, false⟩, ⟨.bool, false, false⟩]⟩
noncomputable def e7 : Entry := ⟨f7sig, (some fun X => spec_ParseInts.P X.1), fun X => ((), ((spec_ParseInts.g X.1).1, ((spec_ParseInts.g X.1).2, ())))⟩
noncomputable def f7G : Gm := addG (addG emptyG 29 e29) 30 e30
theorem f7GOk : GOk Tryd.prog f7G := ((GOk.nil).add e29ok (by kernel_rfl)).add e30ok (by kernel_rfl)
noncomputable def f7lE : Clean := ⟨[], [], [], [], []⟩
noncomputable def f7s0 (v0 : ByteArray) : St := initSt f7sig.ps (v0, ())
noncomputable def f7s1 (v0 : ByteArray) : St := stOf [(0, .c (.str v0))] [] []
noncomputable def f7l1 : Clean := ⟨[0], [], [], [], []⟩
noncomputable def f7s2 (v4 : LI) (v0 : ByteArray) : St := stOf [(0, .c (.str v0)), (4, xo 1000256)] [] [(1000256, (⟨3, .int .i64, v4, true, false⟩ : Row))]
noncomputable def f7l2 : Clean := ⟨[0, 4], [], [], [], [(⟨false, 4, 0⟩, 1000256)]⟩
noncomputable def f7s3 (v4 : LI) (v5 : List ByteArray) : St := stOf [(4, xo 1000256), (5, xo 1000320)] [] [(1000256, (⟨3, .int .i64, v4, true, false⟩ : Row)), (1000320, (⟨9, .str, v5, true, false⟩ : Row))]
noncomputable def f7l3 : Clean := ⟨[4, 5], [], [], [], [(⟨false, 4, 0⟩, 1000256), (⟨false, 5, 0⟩, 1000320)]⟩
noncomputable def f7s4 (v4 : LI) (v5 : List ByteArray) (v6 : Int) : St := stOf [(4, xo 1000256), (5, xo 1000320), (6, xi v6)] [] [(1000256, (⟨3, .int .i64, v4, true, false⟩ : Row)), (1000320, (⟨9, .str, v5, true, false⟩ : Row))]
noncomputable def f7l4 : Clean := ⟨[4, 5, 6], [], [], [], [(⟨false, 4, 0⟩, 1000256), (⟨false, 5, 0⟩, 1000320)]⟩
noncomputable def f7s5 (v4 : LI) : St := stOf [(4, xo 1000256)] [] [(1000256, (⟨3, .int .i64, v4, true, false⟩ : Row))]
noncomputable def f7l5 : Clean := ⟨[4], [], [], [], [(⟨false, 4, 0⟩, 1000256)]⟩
noncomputable def f7s6 (v2 : LI) (v3 : Bool) : St := stOf [(2, xo 1000128), (3, xB v3)] [] [(1000128, (⟨3, .int .i64, v2, true, false⟩ : Row))]
noncomputable def f7l6 : Clean := ⟨[2, 3], [], [⟨⟨false, 2, 0⟩, 30000000, 3, .int .i64, true⟩], [], [(⟨false, 2, 0⟩, 1000128)]⟩
noncomputable def f7B : Nat → Option Clean := lookL [(0, f7l5), (1000000, f7l6)]
noncomputable abbrev f7i {ρ : Type} (N : Nat) (c : Code) (p : Plan) (σ : St) (K : KT ρ) : Option ρ := iCode f7G tab f7B N c p σ K
noncomputable def f7c (n : Nat) : Code := codeN 99 (bodyOf Tryd.f7) n
theorem f7t1 N v0 (K : KT ρ) : f7i N (f7c 2) .n (f7s0 v0) (joinK (some f7l1) K) =
  spec_ParseInts.Z1 N v0 (fun v0 => K .nrm (f7s1 v0)) := by kernel_rfl
theorem f7t3 N v0 (K : KT ρ) : f7i N (f7c 5) .n (f7s1 v0) (joinK (some f7l2) K) =
  spec_ParseInts.Z3 N v0 (fun v4 v0 => K .nrm (f7s2 v4 v0)) := by kernel_rfl
theorem f7t5 N v4 v0 (K : KT ρ) : f7i N (f7c 11) .n (f7s2 v4 v0) (joinK (some f7l2) K) =
  spec_ParseInts.Z5 N v4 v0 (fun v4 v0 => K .nrm (f7s2 v4 v0)) (fun v2 v3 => K .ret (f7s6 v2 v3)) := by kernel_rfl
theorem f7t7 N v4 v0 (K : KT ρ) : f7i N (f7c 23) .n (f7s2 v4 v0) (joinK (some f7l3) K) =
  spec_ParseInts.Z7 N v4 v0 (fun v4 v5 => K .nrm (f7s3 v4 v5)) := by kernel_rfl
theorem f7t10 N v4 v5 (K : KT ρ) : f7i N (f7c 79) .n (f7s3 v4 v5) (joinK (some f7l4) K) =
  spec_ParseInts.Z10 N v4 v5 (fun v4 v5 v6 => K .nrm (f7s4 v4 v5 v6)) := by kernel_rfl
theorem f7t13 N v4 v5 v6 (K : KT ρ) : f7i N (f7c 303) .n (f7s4 v4 v5 v6) (joinK (some f7l4) K) =
  spec_ParseInts.Z13 N v4 v5 v6 (fun v4 v5 v6 => K .nrm (f7s4 v4 v5 v6)) (fun v4 => K (.exit 0) (f7s5 v4)) (fun v2 v3 => K .ret (f7s6 v2 v3)) := by kernel_rfl
noncomputable def f7p12 : Plan := .mk none (some f7l4) .n .n
noncomputable abbrev f7w12 {ρ : Type} (N M : Nat) (σ : St) (K : KT ρ) : Option ρ := loopC (fun σ K => f7i N (f7c 303) .n σ K) f7l4 M σ K
theorem f7t12L {ρ : Type} (N : Nat) (K : KT ρ) : ∀ (M : Nat) (v4 : LI) (v5 : List ByteArray) (v6 : Int), f7w12 N M (f7s4 v4 v5 v6) K =
  spec_ParseInts.Z12L N (fun v4 => K (.exit 0) (f7s5 v4)) (fun v2 v3 => K .ret (f7s6 v2 v3)) M v4 v5 v6
  | 0, _, _, _ => rfl
  | M + 1, v4, v5, v6 => viaRoundS (fun k => spec_ParseInts.Z13 N v4 v5 v6 k (fun v4 => K (.exit 0) (f7s5 v4)) (fun v2 v3 => K .ret (f7s6 v2 v3))) (f7t13 N (K := seqK (fun σ => f7w12 N M σ K) K) ..) (fx3 fun v4 v5 v6 => f7t12L N K M v4 v5 v6) (by kernel_rfl)
theorem f7t12 N v4 v5 v6 (K : KT ρ) : f7i N (f7c 175) f7p12 (f7s4 v4 v5 v6) (joinK (some f7l5) K) =
  spec_ParseInts.Z12 N v4 v5 v6 (fun v4 => K (.exit 0) (f7s5 v4)) (fun v2 v3 => K .ret (f7s6 v2 v3)) :=
 viaLoopS (by kernel_rfl) (f7t12L N (joinK (some f7l5) K) N v4 v5 v6) (by kernel_rfl)
noncomputable def f7p11 : Plan := .mk (some f7l5) none f7p12 .n
theorem f7t11 N v4 v5 v6 (K : KT ρ) : f7i N (f7c 111) f7p11 (f7s4 v4 v5 v6) (joinK (some f7l5) K) =
  spec_ParseInts.Z11 N v4 v5 v6 (fun v4 => K .nrm (f7s5 v4)) (fun v2 v3 => K .ret (f7s6 v2 v3)) :=
 viaBlockS (by kernel_rfl) (f7t12 N (K := blockK 0 (joinK (some f7l5) K)) ..) (by kernel_rfl)
noncomputable def f7p9 : Plan := .mk (some f7l4) none .n f7p11
theorem f7t9 N v4 v5 (K : KT ρ) : f7i N (f7c 47) f7p9 (f7s3 v4 v5) (joinK (some f7l5) K) =
  spec_ParseInts.Z9 N v4 v5 (fun v4 => K .nrm (f7s5 v4)) (fun v2 v3 => K .ret (f7s6 v2 v3)) :=
 viaSeqS (fun k => spec_ParseInts.Z10 N v4 v5 k) (by kernel_rfl) (f7t10 N (K := seqK (fun σ => f7i N (f7c 111) f7p11 σ (joinK (some f7l5) K)) (joinK (some f7l5) K)) ..) (fx3 fun v4 v5 v6 => f7t11 N v4 v5 v6 K) (by kernel_rfl)
theorem f7t14 N v4 (K : KT ρ) : f7i N (f7c 63) .n (f7s5 v4) (joinK (some f7lE) K) =
  spec_ParseInts.Z14 N v4 (fun v2 v3 => K .ret (f7s6 v2 v3)) := by kernel_rfl
noncomputable def f7p8 : Plan := .mk (some f7l5) none f7p9 .n
theorem f7t8 N v4 v5 (K : KT ρ) : f7i N (f7c 31) f7p8 (f7s3 v4 v5) (joinK (some f7lE) K) =
  spec_ParseInts.Z8 N v4 v5 (fun v2 v3 => K .ret (f7s6 v2 v3)) :=
 viaSeqS (fun k => spec_ParseInts.Z9 N v4 v5 k (fun v2 v3 => K .ret (f7s6 v2 v3))) (by kernel_rfl) (f7t9 N (K := seqK (fun σ => f7i N (f7c 63) .n σ (joinK (some f7lE) K)) (joinK (some f7lE) K)) ..) (funext fun v4 => f7t14 N v4 K) (by kernel_rfl)
noncomputable def f7p6 : Plan := .mk (some f7l3) none .n f7p8
theorem f7t6 N v4 v0 (K : KT ρ) : f7i N (f7c 15) f7p6 (f7s2 v4 v0) (joinK (some f7lE) K) =
  spec_ParseInts.Z6 N v4 v0 (fun v2 v3 => K .ret (f7s6 v2 v3)) :=
 viaSeqS (fun k => spec_ParseInts.Z7 N v4 v0 k) (by kernel_rfl) (f7t7 N (K := seqK (fun σ => f7i N (f7c 31) f7p8 σ (joinK (some f7lE) K)) (joinK (some f7lE) K)) ..) (fx2 fun v4 v5 => f7t8 N v4 v5 K) (by kernel_rfl)
noncomputable def f7p4 : Plan := .mk (some f7l2) none .n f7p6
theorem f7t4 N v4 v0 (K : KT ρ) : f7i N (f7c 7) f7p4 (f7s2 v4 v0) (joinK (some f7lE) K) =
  spec_ParseInts.Z4 N v4 v0 (fun v2 v3 => K .ret (f7s6 v2 v3)) :=
 viaSeqS (fun k => spec_ParseInts.Z5 N v4 v0 k (fun v2 v3 => K .ret (f7s6 v2 v3))) (by kernel_rfl) (f7t5 N (K := seqK (fun σ => f7i N (f7c 15) f7p6 σ (joinK (some f7lE) K)) (joinK (some f7lE) K)) ..) (fx2 fun v4 v0 => f7t6 N v4 v0 K) (by kernel_rfl)
noncomputable def f7p2 : Plan := .mk (some f7l2) none .n f7p4
theorem f7t2 N v0 (K : KT ρ) : f7i N (f7c 3) f7p2 (f7s1 v0) (joinK (some f7lE) K) =
  spec_ParseInts.Z2 N v0 (fun v2 v3 => K .ret (f7s6 v2 v3)) :=
 viaSeqS (fun k => spec_ParseInts.Z3 N v0 k) (by kernel_rfl) (f7t3 N (K := seqK (fun σ => f7i N (f7c 7) f7p4 σ (joinK (some f7lE) K)) (joinK (some f7lE) K)) ..) (fx2 fun v4 v0 => f7t4 N v4 v0 K) (by kernel_rfl)
noncomputable def f7p0 : Plan := .mk (some f7l1) none .n f7p2
theorem f7t0 N v0 (K : KT ρ) : f7i N (f7c 1) f7p0 (f7s0 v0) (joinK (some f7lE) K) =
  spec_ParseInts.Z0 N v0 (fun v2 v3 => K .ret (f7s6 v2 v3)) :=
 viaSeqS (fun k => spec_ParseInts.Z1 N v0 k) (by kernel_rfl) (f7t1 N (K := seqK (fun σ => f7i N (f7c 3) f7p2 σ (joinK (some f7lE) K)) (joinK (some f7lE) K)) ..) (funext fun v0 => f7t2 N v0 K) (by kernel_rfl)
theorem f7m (N : Nat) (v0 : ByteArray) : f7i N (f7c 1) f7p0 (f7s0 v0) (joinK (some f7lE) (finK tab f7sig Tryd.f7.results.toList)) = spec_ParseInts.Z0 N v0 (fun v2 v3 => some ((), (v2, (v3, ())))) :=
  (f7t0 N v0 (finK tab f7sig Tryd.f7.results.toList)).trans (by kernel_rfl)
theorem f7ok (h : spec_ParseInts.Spec) : EntryOk Tryd.prog 7 e7 :=
  entry_of_code (sig := f7sig) (c := (f7c 1)) (pl := f7p0) (je := (some f7lE)) (B := f7B) Tryd.func7 (by kernel_rfl) (by kernel_rfl) (by kernel_rfl) tabOk f7GOk (by kernel_rfl) (by kernel_rfl) (by kernel_rfl) (by kernel_rfl) fun X hb hp => by
    obtain ⟨v0, _⟩ := X
    obtain ⟨N, h⟩ := h v0 hp
    exact ⟨N, (f7m N v0).trans (h N (Nat.le_refl N))⟩
theorem e7ok : EntryOk Tryd.prog 7 e7 := f7ok spec_ParseInts.ok
end Go.Fw
namespace Go.Fw
variable {ρ : Type}
open Go.Proofs
noncomputable def f77sig : Sig := ⟨[⟨.int .i64, false, false⟩, ⟨.int .i64, false, false⟩, ⟨.int .i64, false, false⟩], [⟨.bool, false, false⟩]⟩
noncomputable def e77 : Entry := ⟨f77sig, none, fun X => ((), ((spec_l1In.g X.1 X.2.1 X.2.2.1), ()))⟩
noncomputable def f77G : Gm := emptyG
theorem f77GOk : GOk Tryd.prog f77G := GOk.nil
noncomputable def f77lE : Clean := ⟨[], [], [], [], []⟩
noncomputable def f77s0 (v0 v1 v2 : Int) : St := initSt f77sig.ps (v0, (v1, (v2, ())))
noncomputable def f77s1 (v6 : Bool) : St := stOf [(6, xB v6)] [] []
noncomputable def f77l1 : Clean := ⟨[6], [], [], [], []⟩
noncomputable def f77B : Nat → Option Clean := lookL [(1000000, f77l1)]
noncomputable abbrev f77i {ρ : Type} (N : Nat) (c : Code) (p : Plan) (σ : St) (K : KT ρ) : Option ρ := iCode f77G tab f77B N c p σ K
noncomputable def f77c (n : Nat) : Code := codeN 99 (bodyOf Tryd.f77) n
theorem f77t0 N v0 v1 v2 (K : KT ρ) : f77i N (f77c 1) .n (f77s0 v0 v1 v2) (joinK (some f77lE) K) =
  spec_l1In.Z0 N v0 v1 v2 (fun v6 => K .ret (f77s1 v6)) := by kernel_rfl
theorem f77m (N : Nat) (v0 v1 v2 : Int) : f77i N (f77c 1) .n (f77s0 v0 v1 v2) (joinK (some f77lE) (finK tab f77sig Tryd.f77.results.toList)) = spec_l1In.Z0 N v0 v1 v2 (fun v6 => some ((), (v6, ()))) :=
  (f77t0 N v0 v1 v2 (finK tab f77sig Tryd.f77.results.toList)).trans (by kernel_rfl)
theorem f77ok (h : spec_l1In.Spec) : EntryOk Tryd.prog 77 e77 :=
  entry_of_code (sig := f77sig) (c := (f77c 1)) (pl := .n) (je := (some f77lE)) (B := f77B) Tryd.func77 (by kernel_rfl) (by kernel_rfl) (by kernel_rfl) tabOk f77GOk (by kernel_rfl) (by kernel_rfl) (by kernel_rfl) (by kernel_rfl) fun X hb hp => by
    obtain ⟨v0, v1, v2, _⟩ := X
    obtain ⟨N, h⟩ := h v0 v1 v2
    exact ⟨N, (f77m N v0 v1 v2).trans (h N (Nat.le_refl N))⟩
theorem e77ok : EntryOk Tryd.prog 77 e77 := f77ok spec_l1In.ok
end Go.Fw
namespace Go.Fw
variable {ρ : Type}
open Go.Proofs
noncomputable def f108sig : Sig := ⟨[⟨.pair (.int .i64) (.pair (.int .i64) (.sl 3 (.int .i64))), true, false⟩, ⟨.int .i64, false, false⟩, ⟨.int .i64, false, false⟩], [⟨.int .i64, false, false⟩]⟩
noncomputable def e108 : Entry := ⟨f108sig, (some fun X => spec_l1At.P X.1 X.2.1 X.2.2.1), fun X => ((), ((spec_l1At.g X.1 X.2.1 X.2.2.1), ()))⟩
noncomputable def f108G : Gm := emptyG
theorem f108GOk : GOk Tryd.prog f108G := GOk.nil
noncomputable def f108lE : Clean := ⟨[], [], [], [], []⟩
noncomputable def f108s0 (v0 : MT) (v1 v2 : Int) : St := initSt f108sig.ps (v0, (v1, (v2, ())))
noncomputable def f108s1 (v6 : Int) : St := stOf [(6, xi v6)] [] []
noncomputable def f108l1 : Clean := ⟨[6], [], [], [], []⟩
noncomputable def f108B : Nat → Option Clean := lookL [(1000000, f108l1)]
noncomputable abbrev f108i {ρ : Type} (N : Nat) (c : Code) (p : Plan) (σ : St) (K : KT ρ) : Option ρ := iCode f108G tab f108B N c p σ K
noncomputable def f108c (n : Nat) : Code := codeN 99 (bodyOf Tryd.f108) n
theorem f108t0 N v0 v1 v2 (K : KT ρ) : f108i N (f108c 1) .n (f108s0 v0 v1 v2) (joinK (some f108lE) K) =
  spec_l1At.Z0 N v0 v1 v2 (fun v6 => K .ret (f108s1 v6)) := by kernel_rfl
theorem f108m (N : Nat) (v0 : MT) (v1 v2 : Int) : f108i N (f108c 1) .n (f108s0 v0 v1 v2) (joinK (some f108lE) (finK tab f108sig Tryd.f108.results.toList)) = spec_l1At.Z0 N v0 v1 v2 (fun v6 => some ((), (v6, ()))) :=
  (f108t0 N v0 v1 v2 (finK tab f108sig Tryd.f108.results.toList)).trans (by kernel_rfl)
theorem f108ok (h : spec_l1At.Spec) : EntryOk Tryd.prog 108 e108 :=
  entry_of_code (sig := f108sig) (c := (f108c 1)) (pl := .n) (je := (some f108lE)) (B := f108B) Tryd.func108 (by kernel_rfl) (by kernel_rfl) (by kernel_rfl) tabOk f108GOk (by kernel_rfl) (by kernel_rfl) (by kernel_rfl) (by kernel_rfl) fun X hb hp => by
    obtain ⟨v0, v1, v2, _⟩ := X
    obtain ⟨N, h⟩ := h v0 v1 v2 hb.1 hp
    exact ⟨N, (f108m N v0 v1 v2).trans (h N (Nat.le_refl N))⟩
theorem e108ok : EntryOk Tryd.prog 108 e108 := f108ok spec_l1At.ok
end Go.Fw
namespace Go.Fw
variable {ρ : Type}
open Go.Proofs
noncomputable def f90sig : Sig := ⟨[⟨.pair (.int .i64) (.pair (.int .i64) (.sl 3 (.int .i64))), true, false⟩], [⟨.bool, false, false⟩]⟩
noncomputable def e90 : Entry := ⟨f90sig, none, fun X => ((), ((spec_l1Sizes.g X.1), ()))⟩
noncomputable def f90G : Gm := addG (addG emptyG 77 e77) 108 e108
theorem f90GOk : GOk Tryd.prog f90G := ((GOk.nil).add e77ok (by kernel_rfl)).add e108ok (by kernel_rfl)
noncomputable def f90lE : Clean := ⟨[], [], [], [], []⟩
noncomputable def f90s0 (v0 : MT) : St := initSt f90sig.ps (v0, ())
noncomputable def f90s1 (v1_0 v1_1 : Int) (v1_2 : LI) : St := stOf [(1, xb 1)] [(1, (29, [yi v1_0, yi v1_1, .sn 3 tI v1_2 none]))] []
noncomputable def f90l1 : Clean := ⟨[1], [1], [], [], []⟩
noncomputable def f90s2 (v3 v1_0 v1_1 : Int) (v1_2 : LI) : St := stOf [(1, xb 1), (3, xi v3)] [(1, (29, [yi v1_0, yi v1_1, .sn 3 tI v1_2 none]))] []
noncomputable def f90l2 : Clean := ⟨[1, 3], [1], [], [], []⟩
noncomputable def f90s3 (v4 v1_0 v1_1 : Int) (v1_2 : LI) : St := stOf [(1, xb 1), (4, xi v4)] [(1, (29, [yi v1_0, yi v1_1, .sn 3 tI v1_2 none]))] []
noncomputable def f90l3 : Clean := ⟨[1, 4], [1], [], [], []⟩
noncomputable def f90s4 (v4 v5 v1_0 v1_1 : Int) (v1_2 : LI) : St := stOf [(1, xb 1), (4, xi v4), (5, xi v5)] [(1, (29, [yi v1_0, yi v1_1, .sn 3 tI v1_2 none]))] []
noncomputable def f90l4 : Clean := ⟨[1, 4, 5], [1], [], [], []⟩
noncomputable def f90s5  : St := stOf [] [] []
noncomputable def f90l5 : Clean := ⟨[], [], [], [], []⟩
noncomputable def f90s6 (v2 : Bool) : St := stOf [(2, xB v2)] [] []
noncomputable def f90l6 : Clean := ⟨[2], [], [], [], []⟩
noncomputable def f90B : Nat → Option Clean := lookL [(0, f90l1), (4, f90l3), (3, f90l3), (2, f90l5), (1000000, f90l6)]
noncomputable abbrev f90i {ρ : Type} (N : Nat) (c : Code) (p : Plan) (σ : St) (K : KT ρ) : Option ρ := iCode f90G tab f90B N c p σ K
noncomputable def f90c (n : Nat) : Code := codeN 99 (bodyOf Tryd.f90) n
theorem f90t1 N v0 (K : KT ρ) : f90i N (f90c 2) .n (f90s0 v0) (joinK (some f90l1) K) =
  spec_l1Sizes.Z1 N v0 (fun v1_0 v1_1 v1_2 => K .nrm (f90s1 v1_0 v1_1 v1_2)) := by kernel_rfl
theorem f90t3 N v1_0 v1_1 v1_2 (K : KT ρ) : f90i N (f90c 5) .n (f90s1 v1_0 v1_1 v1_2) (joinK (some f90l1) K) =
  spec_l1Sizes.Z3 N v1_0 v1_1 v1_2 (fun v1_0 v1_1 v1_2 => K .nrm (f90s1 v1_0 v1_1 v1_2)) (fun v2 => K .ret (f90s6 v2)) := by kernel_rfl
theorem f90t6 N v1_0 v1_1 v1_2 (K : KT ρ) : f90i N (f90c 19) .n (f90s1 v1_0 v1_1 v1_2) (joinK (some f90l2) K) =
  spec_l1Sizes.Z6 N v1_0 v1_1 v1_2 (fun v3 v1_0 v1_1 v1_2 => K .nrm (f90s2 v3 v1_0 v1_1 v1_2)) := by kernel_rfl
theorem f90t9 N v3 v1_0 v1_1 v1_2 (K : KT ρ) : f90i N (f90c 75) .n (f90s2 v3 v1_0 v1_1 v1_2) (joinK (some f90l2) K) =
  spec_l1Sizes.Z9 N v3 v1_0 v1_1 v1_2 (fun v3 v1_0 v1_1 v1_2 => K .nrm (f90s2 v3 v1_0 v1_1 v1_2)) (fun v1_0 v1_1 v1_2 => K (.exit 0) (f90s1 v1_0 v1_1 v1_2)) (fun v2 => K .ret (f90s6 v2)) := by kernel_rfl
noncomputable def f90p8 : Plan := .mk none (some f90l2) .n .n
noncomputable abbrev f90w8 {ρ : Type} (N M : Nat) (σ : St) (K : KT ρ) : Option ρ := loopC (fun σ K => f90i N (f90c 75) .n σ K) f90l2 M σ K
theorem f90t8L {ρ : Type} (N : Nat) (K : KT ρ) : ∀ (M : Nat) (v3 v1_0 v1_1 : Int) (v1_2 : LI), f90w8 N M (f90s2 v3 v1_0 v1_1 v1_2) K =
  spec_l1Sizes.Z8L N (fun v1_0 v1_1 v1_2 => K (.exit 0) (f90s1 v1_0 v1_1 v1_2)) (fun v2 => K .ret (f90s6 v2)) M v3 v1_0 v1_1 v1_2
  | 0, _, _, _, _ => rfl
  | M + 1, v3, v1_0, v1_1, v1_2 => viaRoundS (fun k => spec_l1Sizes.Z9 N v3 v1_0 v1_1 v1_2 k (fun v1_0 v1_1 v1_2 => K (.exit 0) (f90s1 v1_0 v1_1 v1_2)) (fun v2 => K .ret (f90s6 v2))) (f90t9 N (K := seqK (fun σ => f90w8 N M σ K) K) ..) (fx4 fun v3 v1_0 v1_1 v1_2 => f90t8L N K M v3 v1_0 v1_1 v1_2) (by kernel_rfl)
theorem f90t8 N v3 v1_0 v1_1 v1_2 (K : KT ρ) : f90i N (f90c 43) f90p8 (f90s2 v3 v1_0 v1_1 v1_2) (joinK (some f90l1) K) =
  spec_l1Sizes.Z8 N v3 v1_0 v1_1 v1_2 (fun v1_0 v1_1 v1_2 => K (.exit 0) (f90s1 v1_0 v1_1 v1_2)) (fun v2 => K .ret (f90s6 v2)) :=
 viaLoopS (by kernel_rfl) (f90t8L N (joinK (some f90l1) K) N v3 v1_0 v1_1 v1_2) (by kernel_rfl)
noncomputable def f90p7 : Plan := .mk (some f90l1) none f90p8 .n
theorem f90t7 N v3 v1_0 v1_1 v1_2 (K : KT ρ) : f90i N (f90c 27) f90p7 (f90s2 v3 v1_0 v1_1 v1_2) (joinK (some f90l1) K) =
  spec_l1Sizes.Z7 N v3 v1_0 v1_1 v1_2 (fun v1_0 v1_1 v1_2 => K .nrm (f90s1 v1_0 v1_1 v1_2)) (fun v2 => K .ret (f90s6 v2)) :=
 viaBlockS (by kernel_rfl) (f90t8 N (K := blockK 0 (joinK (some f90l1) K)) ..) (by kernel_rfl)
noncomputable def f90p5 : Plan := .mk (some f90l2) none .n f90p7
theorem f90t5 N v1_0 v1_1 v1_2 (K : KT ρ) : f90i N (f90c 11) f90p5 (f90s1 v1_0 v1_1 v1_2) (joinK (some f90l1) K) =
  spec_l1Sizes.Z5 N v1_0 v1_1 v1_2 (fun v1_0 v1_1 v1_2 => K .nrm (f90s1 v1_0 v1_1 v1_2)) (fun v2 => K .ret (f90s6 v2)) :=
 viaSeqS (fun k => spec_l1Sizes.Z6 N v1_0 v1_1 v1_2 k) (by kernel_rfl) (f90t6 N (K := seqK (fun σ => f90i N (f90c 27) f90p7 σ (joinK (some f90l1) K)) (joinK (some f90l1) K)) ..) (fx4 fun v3 v1_0 v1_1 v1_2 => f90t7 N v3 v1_0 v1_1 v1_2 K) (by kernel_rfl)
theorem f90t12 N v1_0 v1_1 v1_2 (K : KT ρ) : f90i N (f90c 39) .n (f90s1 v1_0 v1_1 v1_2) (joinK (some f90l3) K) =
  spec_l1Sizes.Z12 N v1_0 v1_1 v1_2 (fun v4 v1_0 v1_1 v1_2 => K .nrm (f90s3 v4 v1_0 v1_1 v1_2)) := by kernel_rfl
theorem f90t16 N v4 v1_0 v1_1 v1_2 (K : KT ρ) : f90i N (f90c 279) .n (f90s3 v4 v1_0 v1_1 v1_2) (joinK (some f90l3) K) =
  spec_l1Sizes.Z16 N v4 v1_0 v1_1 v1_2 (fun v4 v1_0 v1_1 v1_2 => K .nrm (f90s3 v4 v1_0 v1_1 v1_2)) (K (.exit 2) f90s5) := by kernel_rfl
theorem f90t20 N v4 v1_0 v1_1 v1_2 (K : KT ρ) : f90i N (f90c 2199) .n (f90s3 v4 v1_0 v1_1 v1_2) (joinK (some f90l4) K) =
  spec_l1Sizes.Z20 N v4 v1_0 v1_1 v1_2 (fun v4 v5 v1_0 v1_1 v1_2 => K .nrm (f90s4 v4 v5 v1_0 v1_1 v1_2)) := by kernel_rfl
theorem f90t23 N v4 v5 v1_0 v1_1 v1_2 (K : KT ρ) : f90i N (f90c 9367) .n (f90s4 v4 v5 v1_0 v1_1 v1_2) (joinK (some f90l4) K) =
  spec_l1Sizes.Z23 N v4 v5 v1_0 v1_1 v1_2 (fun v4 v5 v1_0 v1_1 v1_2 => K .nrm (f90s4 v4 v5 v1_0 v1_1 v1_2)) (fun v4 v1_0 v1_1 v1_2 => K (.exit 4) (f90s3 v4 v1_0 v1_1 v1_2)) (fun v2 => K .ret (f90s6 v2)) := by kernel_rfl
noncomputable def f90p22 : Plan := .mk none (some f90l4) .n .n
noncomputable abbrev f90w22 {ρ : Type} (N M : Nat) (σ : St) (K : KT ρ) : Option ρ := loopC (fun σ K => f90i N (f90c 9367) .n σ K) f90l4 M σ K
theorem f90t22L {ρ : Type} (N : Nat) (K : KT ρ) : ∀ (M : Nat) (v4 v5 v1_0 v1_1 : Int) (v1_2 : LI), f90w22 N M (f90s4 v4 v5 v1_0 v1_1 v1_2) K =
  spec_l1Sizes.Z22L N (fun v4 v1_0 v1_1 v1_2 => K (.exit 4) (f90s3 v4 v1_0 v1_1 v1_2)) (fun v2 => K .ret (f90s6 v2)) M v4 v5 v1_0 v1_1 v1_2
  | 0, _, _, _, _, _ => rfl
  | M + 1, v4, v5, v1_0, v1_1, v1_2 => viaRoundS (fun k => spec_l1Sizes.Z23 N v4 v5 v1_0 v1_1 v1_2 k (fun v4 v1_0 v1_1 v1_2 => K (.exit 4) (f90s3 v4 v1_0 v1_1 v1_2)) (fun v2 => K .ret (f90s6 v2))) (f90t23 N (K := seqK (fun σ => f90w22 N M σ K) K) ..) (fx5 fun v4 v5 v1_0 v1_1 v1_2 => f90t22L N K M v4 v5 v1_0 v1_1 v1_2) (by kernel_rfl)
theorem f90t22 N v4 v5 v1_0 v1_1 v1_2 (K : KT ρ) : f90i N (f90c 5271) f90p22 (f90s4 v4 v5 v1_0 v1_1 v1_2) (joinK (some f90l3) K) =
  spec_l1Sizes.Z22 N v4 v5 v1_0 v1_1 v1_2 (fun v4 v1_0 v1_1 v1_2 => K (.exit 4) (f90s3 v4 v1_0 v1_1 v1_2)) (fun v2 => K .ret (f90s6 v2)) :=
 viaLoopS (by kernel_rfl) (f90t22L N (joinK (some f90l3) K) N v4 v5 v1_0 v1_1 v1_2) (by kernel_rfl)
noncomputable def f90p21 : Plan := .mk (some f90l3) none f90p22 .n
theorem f90t21 N v4 v5 v1_0 v1_1 v1_2 (K : KT ρ) : f90i N (f90c 3223) f90p21 (f90s4 v4 v5 v1_0 v1_1 v1_2) (joinK (some f90l3) K) =
  spec_l1Sizes.Z21 N v4 v5 v1_0 v1_1 v1_2 (fun v4 v1_0 v1_1 v1_2 => K .nrm (f90s3 v4 v1_0 v1_1 v1_2)) (fun v2 => K .ret (f90s6 v2)) :=
 viaBlockS (by kernel_rfl) (f90t22 N (K := blockK 4 (joinK (some f90l3) K)) ..) (by kernel_rfl)
noncomputable def f90p19 : Plan := .mk (some f90l4) none .n f90p21
theorem f90t19 N v4 v1_0 v1_1 v1_2 (K : KT ρ) : f90i N (f90c 1175) f90p19 (f90s3 v4 v1_0 v1_1 v1_2) (joinK (some f90l3) K) =
  spec_l1Sizes.Z19 N v4 v1_0 v1_1 v1_2 (fun v4 v1_0 v1_1 v1_2 => K .nrm (f90s3 v4 v1_0 v1_1 v1_2)) (fun v2 => K .ret (f90s6 v2)) :=
 viaSeqS (fun k => spec_l1Sizes.Z20 N v4 v1_0 v1_1 v1_2 k) (by kernel_rfl) (f90t20 N (K := seqK (fun σ => f90i N (f90c 3223) f90p21 σ (joinK (some f90l3) K)) (joinK (some f90l3) K)) ..) (fx5 fun v4 v5 v1_0 v1_1 v1_2 => f90t21 N v4 v5 v1_0 v1_1 v1_2 K) (by kernel_rfl)
noncomputable def f90p18 : Plan := .mk (some f90l3) none f90p19 .n
theorem f90t18 N v4 v1_0 v1_1 v1_2 (K : KT ρ) : f90i N (f90c 663) f90p18 (f90s3 v4 v1_0 v1_1 v1_2) (joinK (some f90l3) K) =
  spec_l1Sizes.Z18 N v4 v1_0 v1_1 v1_2 (fun v4 v1_0 v1_1 v1_2 => K .nrm (f90s3 v4 v1_0 v1_1 v1_2)) (fun v2 => K .ret (f90s6 v2)) :=
 viaBlockS (by kernel_rfl) (f90t19 N (K := blockK 3 (joinK (some f90l3) K)) ..) (by kernel_rfl)
theorem f90t24 N v4 v1_0 v1_1 v1_2 (K : KT ρ) : f90i N (f90c 919) .n (f90s3 v4 v1_0 v1_1 v1_2) (joinK (some f90l3) K) =
  spec_l1Sizes.Z24 N v4 v1_0 v1_1 v1_2 (fun v4 v1_0 v1_1 v1_2 => K .nrm (f90s3 v4 v1_0 v1_1 v1_2)) := by kernel_rfl
noncomputable def f90p17 : Plan := .mk (some f90l3) none f90p18 .n
theorem f90t17 N v4 v1_0 v1_1 v1_2 (K : KT ρ) : f90i N (f90c 407) f90p17 (f90s3 v4 v1_0 v1_1 v1_2) (joinK (some f90l3) K) =
  spec_l1Sizes.Z17 N v4 v1_0 v1_1 v1_2 (fun v4 v1_0 v1_1 v1_2 => K .nrm (f90s3 v4 v1_0 v1_1 v1_2)) (fun v2 => K .ret (f90s6 v2)) :=
 viaSeqS (fun k => spec_l1Sizes.Z18 N v4 v1_0 v1_1 v1_2 k (fun v2 => K .ret (f90s6 v2))) (by kernel_rfl) (f90t18 N (K := seqK (fun σ => f90i N (f90c 919) .n σ (joinK (some f90l3) K)) (joinK (some f90l3) K)) ..) (fx4 fun v4 v1_0 v1_1 v1_2 => f90t24 N v4 v1_0 v1_1 v1_2 K) (by kernel_rfl)
noncomputable def f90p15 : Plan := .mk (some f90l3) none .n f90p17
theorem f90t15 N v4 v1_0 v1_1 v1_2 (K : KT ρ) : f90i N (f90c 151) f90p15 (f90s3 v4 v1_0 v1_1 v1_2) (joinK (some f90l3) K) =
  spec_l1Sizes.Z15 N v4 v1_0 v1_1 v1_2 (fun v4 v1_0 v1_1 v1_2 => K .nrm (f90s3 v4 v1_0 v1_1 v1_2)) (K (.exit 2) f90s5) (fun v2 => K .ret (f90s6 v2)) :=
 viaSeqS (fun k => spec_l1Sizes.Z16 N v4 v1_0 v1_1 v1_2 k (K (.exit 2) f90s5)) (by kernel_rfl) (f90t16 N (K := seqK (fun σ => f90i N (f90c 407) f90p17 σ (joinK (some f90l3) K)) (joinK (some f90l3) K)) ..) (fx4 fun v4 v1_0 v1_1 v1_2 => f90t17 N v4 v1_0 v1_1 v1_2 K) (by kernel_rfl)
noncomputable def f90p14 : Plan := .mk none (some f90l3) f90p15 .n
noncomputable abbrev f90w14 {ρ : Type} (N M : Nat) (σ : St) (K : KT ρ) : Option ρ := loopC (fun σ K => f90i N (f90c 151) f90p15 σ K) f90l3 M σ K
theorem f90t14L {ρ : Type} (N : Nat) (K : KT ρ) : ∀ (M : Nat) (v4 v1_0 v1_1 : Int) (v1_2 : LI), f90w14 N M (f90s3 v4 v1_0 v1_1 v1_2) K =
  spec_l1Sizes.Z14L N (K (.exit 2) f90s5) (fun v2 => K .ret (f90s6 v2)) M v4 v1_0 v1_1 v1_2
  | 0, _, _, _, _ => rfl
  | M + 1, v4, v1_0, v1_1, v1_2 => viaRoundS (fun k => spec_l1Sizes.Z15 N v4 v1_0 v1_1 v1_2 k (K (.exit 2) f90s5) (fun v2 => K .ret (f90s6 v2))) (f90t15 N (K := seqK (fun σ => f90w14 N M σ K) K) ..) (fx4 fun v4 v1_0 v1_1 v1_2 => f90t14L N K M v4 v1_0 v1_1 v1_2) (by kernel_rfl)
theorem f90t14 N v4 v1_0 v1_1 v1_2 (K : KT ρ) : f90i N (f90c 87) f90p14 (f90s3 v4 v1_0 v1_1 v1_2) (joinK (some f90l5) K) =
  spec_l1Sizes.Z14 N v4 v1_0 v1_1 v1_2 (K (.exit 2) f90s5) (fun v2 => K .ret (f90s6 v2)) :=
 viaLoopS (by kernel_rfl) (f90t14L N (joinK (some f90l5) K) N v4 v1_0 v1_1 v1_2) (by kernel_rfl)
noncomputable def f90p13 : Plan := .mk (some f90l5) none f90p14 .n
theorem f90t13 N v4 v1_0 v1_1 v1_2 (K : KT ρ) : f90i N (f90c 55) f90p13 (f90s3 v4 v1_0 v1_1 v1_2) (joinK (some f90l5) K) =
  spec_l1Sizes.Z13 N v4 v1_0 v1_1 v1_2 (K .nrm f90s5) (fun v2 => K .ret (f90s6 v2)) :=
 viaBlockS (by kernel_rfl) (f90t14 N (K := blockK 2 (joinK (some f90l5) K)) ..) (by kernel_rfl)
noncomputable def f90p11 : Plan := .mk (some f90l3) none .n f90p13
theorem f90t11 N v1_0 v1_1 v1_2 (K : KT ρ) : f90i N (f90c 23) f90p11 (f90s1 v1_0 v1_1 v1_2) (joinK (some f90l5) K) =
  spec_l1Sizes.Z11 N v1_0 v1_1 v1_2 (K .nrm f90s5) (fun v2 => K .ret (f90s6 v2)) :=
 viaSeqS (fun k => spec_l1Sizes.Z12 N v1_0 v1_1 v1_2 k) (by kernel_rfl) (f90t12 N (K := seqK (fun σ => f90i N (f90c 55) f90p13 σ (joinK (some f90l5) K)) (joinK (some f90l5) K)) ..) (fx4 fun v4 v1_0 v1_1 v1_2 => f90t13 N v4 v1_0 v1_1 v1_2 K) (by kernel_rfl)
theorem f90t25 N  (K : KT ρ) : f90i N (f90c 31) .n f90s5 (joinK (some f90lE) K) =
  spec_l1Sizes.Z25 N (fun v2 => K .ret (f90s6 v2)) := by kernel_rfl
noncomputable def f90p10 : Plan := .mk (some f90l5) none f90p11 .n
theorem f90t10 N v1_0 v1_1 v1_2 (K : KT ρ) : f90i N (f90c 15) f90p10 (f90s1 v1_0 v1_1 v1_2) (joinK (some f90lE) K) =
  spec_l1Sizes.Z10 N v1_0 v1_1 v1_2 (fun v2 => K .ret (f90s6 v2)) :=
 viaSeqS (fun k => spec_l1Sizes.Z11 N v1_0 v1_1 v1_2 k (fun v2 => K .ret (f90s6 v2))) (by kernel_rfl) (f90t11 N (K := seqK (fun σ => f90i N (f90c 31) .n σ (joinK (some f90lE) K)) (joinK (some f90lE) K)) ..) (f90t25 N K) (by kernel_rfl)
noncomputable def f90p4 : Plan := .mk (some f90l1) none f90p5 f90p10
theorem f90t4 N v1_0 v1_1 v1_2 (K : KT ρ) : f90i N (f90c 7) f90p4 (f90s1 v1_0 v1_1 v1_2) (joinK (some f90lE) K) =
  spec_l1Sizes.Z4 N v1_0 v1_1 v1_2 (fun v2 => K .ret (f90s6 v2)) :=
 viaSeqS (fun k => spec_l1Sizes.Z5 N v1_0 v1_1 v1_2 k (fun v2 => K .ret (f90s6 v2))) (by kernel_rfl) (f90t5 N (K := seqK (fun σ => f90i N (f90c 15) f90p10 σ (joinK (some f90lE) K)) (joinK (some f90lE) K)) ..) (fx3 fun v1_0 v1_1 v1_2 => f90t10 N v1_0 v1_1 v1_2 K) (by kernel_rfl)
noncomputable def f90p2 : Plan := .mk (some f90l1) none .n f90p4
theorem f90t2 N v1_0 v1_1 v1_2 (K : KT ρ) : f90i N (f90c 3) f90p2 (f90s1 v1_0 v1_1 v1_2) (joinK (some f90lE) K) =
  spec_l1Sizes.Z2 N v1_0 v1_1 v1_2 (fun v2 => K .ret (f90s6 v2)) :=
 viaSeqS (fun k => spec_l1Sizes.Z3 N v1_0 v1_1 v1_2 k (fun v2 => K .ret (f90s6 v2))) (by kernel_rfl) (f90t3 N (K := seqK (fun σ => f90i N (f90c 7) f90p4 σ (joinK (some f90lE) K)) (joinK (some f90lE) K)) ..) (fx3 fun v1_0 v1_1 v1_2 => f90t4 N v1_0 v1_1 v1_2 K) (by kernel_rfl)
noncomputable def f90p0 : Plan := .mk (some f90l1) none .n f90p2
theorem f90t0 N v0 (K : KT ρ) : f90i N (f90c 1) f90p0 (f90s0 v0) (joinK (some f90lE) K) =
  spec_l1Sizes.Z0 N v0 (fun v2 => K .ret (f90s6 v2)) :=
 viaSeqS (fun k => spec_l1Sizes.Z1 N v0 k) (by kernel_rfl) (f90t1 N (K := seqK (fun σ => f90i N (f90c 3) f90p2 σ (joinK (some f90lE) K)) (joinK (some f90lE) K)) ..) (fx3 fun v1_0 v1_1 v1_2 => f90t2 N v1_0 v1_1 v1_2 K) (by kernel_rfl)
theorem f90m (N : Nat) (v0 : MT) : f90i N (f90c 1) f90p0 (f90s0 v0) (joinK (some f90lE) (finK tab f90sig Tryd.f90.results.toList)) = spec_l1Sizes.Z0 N v0 (fun v2 => some ((), (v2, ()))) :=
  (f90t0 N v0 (finK tab f90sig Tryd.f90.results.toList)).trans (by kernel_rfl)
theorem f90ok (h : spec_l1Sizes.Spec) : EntryOk Tryd.prog 90 e90 :=
  entry_of_code (sig := f90sig) (c := (f90c 1)) (pl := f90p0) (je := (some f90lE)) (B := f90B) Tryd.func90 (by kernel_rfl) (by kernel_rfl) (by kernel_rfl) tabOk f90GOk (by kernel_rfl) (by kernel_rfl) (by kernel_rfl) (by kernel_rfl) fun X hb hp => by
    obtain ⟨v0, _⟩ := X
    obtain ⟨N, h⟩ := h v0 hb.1
    exact ⟨N, (f90m N v0).trans (h N (Nat.le_refl N))⟩
theorem e90ok : EntryOk Tryd.prog 90 e90 := f90ok spec_l1Sizes.ok
end Go.Fw
namespace Go.Fw
variable {ρ : Type}
open Go.Proofs
noncomputable def f122sig : Sig := ⟨[⟨.sl 3 (.int .i64), false, false⟩, ⟨.int .i64, false, false⟩], [⟨.bool, false, false⟩]⟩
noncomputable def e122 : Entry := ⟨f122sig, none, fun X => ((), ((spec_l1Has.g X.1 X.2.1), ()))⟩
noncomputable def f122G : Gm := emptyG
theorem f122GOk : GOk Tryd.prog f122G := GOk.nil
noncomputable def f122lE : Clean := ⟨[], [], [], [], []⟩
noncomputable def f122s0 (v0 : LI) (v1 : Int) : St := initSt f122sig.ps (v0, (v1, ()))
noncomputable def f122s1 (v0 : LI) (v1 : Int) : St := stOf [(0, .c (.sn 3 tI v0 none)), (1, xi v1)] [] []
noncomputable def f122l1 : Clean := ⟨[0, 1], [], [], [], []⟩
noncomputable def f122s2 (v0 : LI) (v1 v5 : Int) : St := stOf [(0, .c (.sn 3 tI v0 none)), (1, xi v1), (5, xi v5)] [] []
noncomputable def f122l2 : Clean := ⟨[0, 1, 5], [], [], [], []⟩
noncomputable def f122s3  : St := stOf [] [] []
noncomputable def f122l3 : Clean := ⟨[], [], [], [], []⟩
noncomputable def f122s4 (v4 : Bool) : St := stOf [(4, xB v4)] [] []
noncomputable def f122l4 : Clean := ⟨[4], [], [], [], []⟩
noncomputable def f122B : Nat → Option Clean := lookL [(0, f122l3), (1000000, f122l4)]
noncomputable abbrev f122i {ρ : Type} (N : Nat) (c : Code) (p : Plan) (σ : St) (K : KT ρ) : Option ρ := iCode f122G tab f122B N c p σ K
noncomputable def f122c (n : Nat) : Code := codeN 99 (bodyOf Tryd.f122) n
theorem f122t1 N v0 v1 (K : KT ρ) : f122i N (f122c 2) .n (f122s0 v0 v1) (joinK (some f122l1) K) =
  spec_l1Has.Z1 N v0 v1 (fun v0 v1 => K .nrm (f122s1 v0 v1)) := by kernel_rfl
theorem f122t4 N v0 v1 (K : KT ρ) : f122i N (f122c 9) .n (f122s1 v0 v1) (joinK (some f122l2) K) =
  spec_l1Has.Z4 N v0 v1 (fun v0 v1 v5 => K .nrm (f122s2 v0 v1 v5)) := by kernel_rfl
theorem f122t7 N v0 v1 v5 (K : KT ρ) : f122i N (f122c 37) .n (f122s2 v0 v1 v5) (joinK (some f122l2) K) =
  spec_l1Has.Z7 N v0 v1 v5 (fun v0 v1 v5 => K .nrm (f122s2 v0 v1 v5)) (K (.exit 0) f122s3) (fun v4 => K .ret (f122s4 v4)) := by kernel_rfl
noncomputable def f122p6 : Plan := .mk none (some f122l2) .n .n
noncomputable abbrev f122w6 {ρ : Type} (N M : Nat) (σ : St) (K : KT ρ) : Option ρ := loopC (fun σ K => f122i N (f122c 37) .n σ K) f122l2 M σ K
theorem f122t6L {ρ : Type} (N : Nat) (K : KT ρ) : ∀ (M : Nat) (v0 : LI) (v1 v5 : Int), f122w6 N M (f122s2 v0 v1 v5) K =
  spec_l1Has.Z6L N (K (.exit 0) f122s3) (fun v4 => K .ret (f122s4 v4)) M v0 v1 v5
  | 0, _, _, _ => rfl
  | M + 1, v0, v1, v5 => viaRoundS (fun k => spec_l1Has.Z7 N v0 v1 v5 k (K (.exit 0) f122s3) (fun v4 => K .ret (f122s4 v4))) (f122t7 N (K := seqK (fun σ => f122w6 N M σ K) K) ..) (fx3 fun v0 v1 v5 => f122t6L N K M v0 v1 v5) (by kernel_rfl)
theorem f122t6 N v0 v1 v5 (K : KT ρ) : f122i N (f122c 21) f122p6 (f122s2 v0 v1 v5) (joinK (some f122l3) K) =
  spec_l1Has.Z6 N v0 v1 v5 (K (.exit 0) f122s3) (fun v4 => K .ret (f122s4 v4)) :=
 viaLoopS (by kernel_rfl) (f122t6L N (joinK (some f122l3) K) N v0 v1 v5) (by kernel_rfl)
noncomputable def f122p5 : Plan := .mk (some f122l3) none f122p6 .n
theorem f122t5 N v0 v1 v5 (K : KT ρ) : f122i N (f122c 13) f122p5 (f122s2 v0 v1 v5) (joinK (some f122l3) K) =
  spec_l1Has.Z5 N v0 v1 v5 (K .nrm f122s3) (fun v4 => K .ret (f122s4 v4)) :=
 viaBlockS (by kernel_rfl) (f122t6 N (K := blockK 0 (joinK (some f122l3) K)) ..) (by kernel_rfl)
noncomputable def f122p3 : Plan := .mk (some f122l2) none .n f122p5
theorem f122t3 N v0 v1 (K : KT ρ) : f122i N (f122c 5) f122p3 (f122s1 v0 v1) (joinK (some f122l3) K) =
  spec_l1Has.Z3 N v0 v1 (K .nrm f122s3) (fun v4 => K .ret (f122s4 v4)) :=
 viaSeqS (fun k => spec_l1Has.Z4 N v0 v1 k) (by kernel_rfl) (f122t4 N (K := seqK (fun σ => f122i N (f122c 13) f122p5 σ (joinK (some f122l3) K)) (joinK (some f122l3) K)) ..) (fx3 fun v0 v1 v5 => f122t5 N v0 v1 v5 K) (by kernel_rfl)
theorem f122t8 N  (K : KT ρ) : f122i N (f122c 7) .n f122s3 (joinK (some f122lE) K) =
  spec_l1Has.Z8 N (fun v4 => K .ret (f122s4 v4)) := by kernel_rfl
noncomputable def f122p2 : Plan := .mk (some f122l3) none f122p3 .n
theorem f122t2 N v0 v1 (K : KT ρ) : f122i N (f122c 3) f122p2 (f122s1 v0 v1) (joinK (some f122lE) K) =
  spec_l1Has.Z2 N v0 v1 (fun v4 => K .ret (f122s4 v4)) :=
 viaSeqS (fun k => spec_l1Has.Z3 N v0 v1 k (fun v4 => K .ret (f122s4 v4))) (by kernel_rfl) (f122t3 N (K := seqK (fun σ => f122i N (f122c 7) .n σ (joinK (some f122lE) K)) (joinK (some f122lE) K)) ..) (f122t8 N K) (by kernel_rfl)
noncomputable def f122p0 : Plan := .mk (some f122l1) none .n f122p2
theorem f122t0 N v0 v1 (K : KT ρ) : f122i N (f122c 1) f122p0 (f122s0 v0 v1) (joinK (some f122lE) K) =
  spec_l1Has.Z0 N v0 v1 (fun v4 => K .ret (f122s4 v4)) :=
 viaSeqS (fun k => spec_l1Has.Z1 N v0 v1 k) (by kernel_rfl) (f122t1 N (K := seqK (fun σ => f122i N (f122c 3) f122p2 σ (joinK (some f122lE) K)) (joinK (some f122lE) K)) ..) (fx2 fun v0 v1 => f122t2 N v0 v1 K) (by kernel_rfl)
theorem f122m (N : Nat) (v0 : LI) (v1 : Int) : f122i N (f122c 1) f122p0 (f122s0 v0 v1) (joinK (some f122lE) (finK tab f122sig Tryd.f122.results.toList)) = spec_l1Has.Z0 N v0 v1 (fun v4 => some ((), (v4, ()))) :=
  (f122t0 N v0 v1 (finK tab f122sig Tryd.f122.results.toList)).trans (by kernel_rfl)
theorem f122ok (h : spec_l1Has.Spec) : EntryOk Tryd.prog 122 e122 :=
  entry_of_code (sig := f122sig) (c := (f122c 1)) (pl := f122p0) (je := (some f122lE)) (B := f122B) Tryd.func122 (by kernel_rfl) (by kernel_rfl) (by kernel_rfl) tabOk f122GOk (by kernel_rfl) (by kernel_rfl) (by kernel_rfl) (by kernel_rfl) fun X hb hp => by
    obtain ⟨v0, v1, _⟩ := X
    obtain ⟨N, h⟩ := h v0 v1 hb.1
    exact ⟨N, (f122m N v0 v1).trans (h N (Nat.le_refl N))⟩
theorem e122ok : EntryOk Tryd.prog 122 e122 := f122ok spec_l1Has.ok
end Go.Fw
namespace Go.Fw
variable {ρ : Type}
open Go.Proofs
noncomputable def f109sig : Sig := ⟨[⟨.pair (.int .i64) (.pair (.int .i64) (.sl 3 (.int .i64))), true, false⟩, ⟨.int .i64, false, false⟩], [⟨.sl 3 (.int .i64), false, false⟩, ⟨.sl 3 (.int .i64), false, false⟩]⟩
noncomputable def e109 : Entry := ⟨f109sig, (some fun X => spec_l1Piece.P X.1 X.2.1), fun X => ((), ((spec_l1Piece.g X.1 X.2.1).1, ((spec_l1Piece.g X.1 X.2.1).2, ())))⟩
noncomputable def f109G : Gm := addG (addG emptyG 108 e108) 122 e122
theorem f109GOk : GOk Tryd.prog f109G := ((GOk.nil).add e108ok (by kernel_rfl)).add e122ok (by kernel_rfl)
noncomputable def f109lE : Clean := ⟨[], [], [], [], []⟩
noncomputable def f109s0 (v0 : MT) (v1 : Int) : St := initSt f109sig.ps (v0, (v1, ()))
noncomputable def f109s1 (v1 v2_0 v2_1 : Int) (v2_2 : LI) : St := stOf [(1, xi v1), (2, xb 2)] [(2, (29, [yi v2_0, yi v2_1, .sn 3 tI v2_2 none]))] []
noncomputable def f109l1 : Clean := ⟨[1, 2], [2], [], [], []⟩
noncomputable def f109s2 (v6 : LI) (v1 v2_0 v2_1 : Int) (v2_2 : LI) : St := stOf [(1, xi v1), (2, xb 2), (6, xo 1000384)] [(2, (29, [yi v2_0, yi v2_1, .sn 3 tI v2_2 none]))] [(1000384, (⟨3, .int .i64, v6, true, false⟩ : Row))]
noncomputable def f109l2 : Clean := ⟨[1, 2, 6], [2], [], [], [(⟨false, 6, 0⟩, 1000384)]⟩
noncomputable def f109s3 (v6 v7 : LI) (v2_0 v2_1 : Int) (v2_2 : LI) : St := stOf [(2, xb 2), (6, xo 1000384), (7, xo 1000448)] [(2, (29, [yi v2_0, yi v2_1, .sn 3 tI v2_2 none]))] [(1000384, (⟨3, .int .i64, v6, true, false⟩ : Row)), (1000448, (⟨3, .int .i64, v7, true, false⟩ : Row))]
noncomputable def f109l3 : Clean := ⟨[2, 6, 7], [2], [], [], [(⟨false, 6, 0⟩, 1000384), (⟨false, 7, 0⟩, 1000448)]⟩
noncomputable def f109s4 (v6 v7 : LI) (v8 v2_0 v2_1 : Int) (v2_2 : LI) : St := stOf [(2, xb 2), (6, xo 1000384), (7, xo 1000448), (8, xi v8)] [(2, (29, [yi v2_0, yi v2_1, .sn 3 tI v2_2 none]))] [(1000384, (⟨3, .int .i64, v6, true, false⟩ : Row)), (1000448, (⟨3, .int .i64, v7, true, false⟩ : Row))]
noncomputable def f109l4 : Clean := ⟨[2, 6, 7, 8], [2], [], [], [(⟨false, 6, 0⟩, 1000384), (⟨false, 7, 0⟩, 1000448)]⟩
noncomputable def f109s5 (v6 v7 : LI) (v8 v9 v2_0 v2_1 : Int) (v2_2 : LI) : St := stOf [(2, xb 2), (6, xo 1000384), (7, xo 1000448), (8, xi v8), (9, xi v9)] [(2, (29, [yi v2_0, yi v2_1, .sn 3 tI v2_2 none]))] [(1000384, (⟨3, .int .i64, v6, true, false⟩ : Row)), (1000448, (⟨3, .int .i64, v7, true, false⟩ : Row))]
noncomputable def f109l5 : Clean := ⟨[2, 6, 7, 8, 9], [2], [], [], [(⟨false, 6, 0⟩, 1000384), (⟨false, 7, 0⟩, 1000448)]⟩
noncomputable def f109s6 (v6 v7 : LI) : St := stOf [(6, xo 1000384), (7, xo 1000448)] [] [(1000384, (⟨3, .int .i64, v6, true, false⟩ : Row)), (1000448, (⟨3, .int .i64, v7, true, false⟩ : Row))]
noncomputable def f109l6 : Clean := ⟨[6, 7], [], [], [], [(⟨false, 6, 0⟩, 1000384), (⟨false, 7, 0⟩, 1000448)]⟩
noncomputable def f109s7 (v4 v5 : LI) : St := stOf [(4, xo 1000256), (5, xo 1000320)] [] [(1000256, (⟨3, .int .i64, v4, true, false⟩ : Row)), (1000320, (⟨3, .int .i64, v5, true, false⟩ : Row))]
noncomputable def f109l7 : Clean := ⟨[4, 5], [], [], [], [(⟨false, 4, 0⟩, 1000256), (⟨false, 5, 0⟩, 1000320)]⟩
noncomputable def f109B : Nat → Option Clean := lookL [(2, f109l4), (1, f109l4), (0, f109l6), (1000000, f109l7)]
noncomputable abbrev f109i {ρ : Type} (N : Nat) (c : Code) (p : Plan) (σ : St) (K : KT ρ) : Option ρ := iCode f109G tab f109B N c p σ K
noncomputable def f109c (n : Nat) : Code := codeN 99 (bodyOf Tryd.f109) n
theorem f109t1 N v0 v1 (K : KT ρ) : f109i N (f109c 2) .n (f109s0 v0 v1) (joinK (some f109l1) K) =
  spec_l1Piece.Z1 N v0 v1 (fun v1 v2_0 v2_1 v2_2 => K .nrm (f109s1 v1 v2_0 v2_1 v2_2)) := by kernel_rfl
theorem f109t3 N v1 v2_0 v2_1 v2_2 (K : KT ρ) : f109i N (f109c 5) .n (f109s1 v1 v2_0 v2_1 v2_2) (joinK (some f109l2) K) =
  spec_l1Piece.Z3 N v1 v2_0 v2_1 v2_2 (fun v6 v1 v2_0 v2_1 v2_2 => K .nrm (f109s2 v6 v1 v2_0 v2_1 v2_2)) := by kernel_rfl
theorem f109t5 N v6 v1 v2_0 v2_1 v2_2 (K : KT ρ) : f109i N (f109c 11) .n (f109s2 v6 v1 v2_0 v2_1 v2_2) (joinK (some f109l3) K) =
  spec_l1Piece.Z5 N v6 v1 v2_0 v2_1 v2_2 (fun v6 v7 v2_0 v2_1 v2_2 => K .nrm (f109s3 v6 v7 v2_0 v2_1 v2_2)) := by kernel_rfl
theorem f109t8 N v6 v7 v2_0 v2_1 v2_2 (K : KT ρ) : f109i N (f109c 39) .n (f109s3 v6 v7 v2_0 v2_1 v2_2) (joinK (some f109l4) K) =
  spec_l1Piece.Z8 N v6 v7 v2_0 v2_1 v2_2 (fun v6 v7 v8 v2_0 v2_1 v2_2 => K .nrm (f109s4 v6 v7 v8 v2_0 v2_1 v2_2)) := by kernel_rfl
theorem f109t12 N v6 v7 v8 v2_0 v2_1 v2_2 (K : KT ρ) : f109i N (f109c 279) .n (f109s4 v6 v7 v8 v2_0 v2_1 v2_2) (joinK (some f109l4) K) =
  spec_l1Piece.Z12 N v6 v7 v8 v2_0 v2_1 v2_2 (fun v6 v7 v8 v2_0 v2_1 v2_2 => K .nrm (f109s4 v6 v7 v8 v2_0 v2_1 v2_2)) (fun v6 v7 => K (.exit 0) (f109s6 v6 v7)) := by kernel_rfl
theorem f109t16 N v6 v7 v8 v2_0 v2_1 v2_2 (K : KT ρ) : f109i N (f109c 2199) .n (f109s4 v6 v7 v8 v2_0 v2_1 v2_2) (joinK (some f109l5) K) =
  spec_l1Piece.Z16 N v6 v7 v8 v2_0 v2_1 v2_2 (fun v6 v7 v8 v9 v2_0 v2_1 v2_2 => K .nrm (f109s5 v6 v7 v8 v9 v2_0 v2_1 v2_2)) := by kernel_rfl
theorem f109t19 N v6 v7 v8 v9 v2_0 v2_1 v2_2 (K : KT ρ) : f109i N (f109c 9367) .n (f109s5 v6 v7 v8 v9 v2_0 v2_1 v2_2) (joinK (some f109l5) K) =
  spec_l1Piece.Z19 N v6 v7 v8 v9 v2_0 v2_1 v2_2 (fun v6 v7 v8 v9 v2_0 v2_1 v2_2 => K .nrm (f109s5 v6 v7 v8 v9 v2_0 v2_1 v2_2)) (fun v6 v7 v8 v2_0 v2_1 v2_2 => K (.exit 2) (f109s4 v6 v7 v8 v2_0 v2_1 v2_2)) := by kernel_rfl
noncomputable def f109p18 : Plan := .mk none (some f109l5) .n .n
noncomputable abbrev f109w18 {ρ : Type} (N M : Nat) (σ : St) (K : KT ρ) : Option ρ := loopC (fun σ K => f109i N (f109c 9367) .n σ K) f109l5 M σ K
theorem f109t18L {ρ : Type} (N : Nat) (K : KT ρ) : ∀ (M : Nat) (v6 v7 : LI) (v8 v9 v2_0 v2_1 : Int) (v2_2 : LI), f109w18 N M (f109s5 v6 v7 v8 v9 v2_0 v2_1 v2_2) K =
  spec_l1Piece.Z18L N (fun v6 v7 v8 v2_0 v2_1 v2_2 => K (.exit 2) (f109s4 v6 v7 v8 v2_0 v2_1 v2_2)) M v6 v7 v8 v9 v2_0 v2_1 v2_2
  | 0, _, _, _, _, _, _, _ => rfl
  | M + 1, v6, v7, v8, v9, v2_0, v2_1, v2_2 => viaRoundS (fun k => spec_l1Piece.Z19 N v6 v7 v8 v9 v2_0 v2_1 v2_2 k (fun v6 v7 v8 v2_0 v2_1 v2_2 => K (.exit 2) (f109s4 v6 v7 v8 v2_0 v2_1 v2_2))) (f109t19 N (K := seqK (fun σ => f109w18 N M σ K) K) ..) (fx7 fun v6 v7 v8 v9 v2_0 v2_1 v2_2 => f109t18L N K M v6 v7 v8 v9 v2_0 v2_1 v2_2) (by kernel_rfl)
theorem f109t18 N v6 v7 v8 v9 v2_0 v2_1 v2_2 (K : KT ρ) : f109i N (f109c 5271) f109p18 (f109s5 v6 v7 v8 v9 v2_0 v2_1 v2_2) (joinK (some f109l4) K) =
  spec_l1Piece.Z18 N v6 v7 v8 v9 v2_0 v2_1 v2_2 (fun v6 v7 v8 v2_0 v2_1 v2_2 => K (.exit 2) (f109s4 v6 v7 v8 v2_0 v2_1 v2_2)) :=
 viaLoopS (by kernel_rfl) (f109t18L N (joinK (some f109l4) K) N v6 v7 v8 v9 v2_0 v2_1 v2_2) (by kernel_rfl)
noncomputable def f109p17 : Plan := .mk (some f109l4) none f109p18 .n
theorem f109t17 N v6 v7 v8 v9 v2_0 v2_1 v2_2 (K : KT ρ) : f109i N (f109c 3223) f109p17 (f109s5 v6 v7 v8 v9 v2_0 v2_1 v2_2) (joinK (some f109l4) K) =
  spec_l1Piece.Z17 N v6 v7 v8 v9 v2_0 v2_1 v2_2 (fun v6 v7 v8 v2_0 v2_1 v2_2 => K .nrm (f109s4 v6 v7 v8 v2_0 v2_1 v2_2)) :=
 viaBlockS (by kernel_rfl) (f109t18 N (K := blockK 2 (joinK (some f109l4) K)) ..) (by kernel_rfl)
noncomputable def f109p15 : Plan := .mk (some f109l5) none .n f109p17
theorem f109t15 N v6 v7 v8 v2_0 v2_1 v2_2 (K : KT ρ) : f109i N (f109c 1175) f109p15 (f109s4 v6 v7 v8 v2_0 v2_1 v2_2) (joinK (some f109l4) K) =
  spec_l1Piece.Z15 N v6 v7 v8 v2_0 v2_1 v2_2 (fun v6 v7 v8 v2_0 v2_1 v2_2 => K .nrm (f109s4 v6 v7 v8 v2_0 v2_1 v2_2)) :=
 viaSeqS (fun k => spec_l1Piece.Z16 N v6 v7 v8 v2_0 v2_1 v2_2 k) (by kernel_rfl) (f109t16 N (K := seqK (fun σ => f109i N (f109c 3223) f109p17 σ (joinK (some f109l4) K)) (joinK (some f109l4) K)) ..) (fx7 fun v6 v7 v8 v9 v2_0 v2_1 v2_2 => f109t17 N v6 v7 v8 v9 v2_0 v2_1 v2_2 K) (by kernel_rfl)
noncomputable def f109p14 : Plan := .mk (some f109l4) none f109p15 .n
theorem f109t14 N v6 v7 v8 v2_0 v2_1 v2_2 (K : KT ρ) : f109i N (f109c 663) f109p14 (f109s4 v6 v7 v8 v2_0 v2_1 v2_2) (joinK (some f109l4) K) =
  spec_l1Piece.Z14 N v6 v7 v8 v2_0 v2_1 v2_2 (fun v6 v7 v8 v2_0 v2_1 v2_2 => K .nrm (f109s4 v6 v7 v8 v2_0 v2_1 v2_2)) :=
 viaBlockS (by kernel_rfl) (f109t15 N (K := blockK 1 (joinK (some f109l4) K)) ..) (by kernel_rfl)
theorem f109t20 N v6 v7 v8 v2_0 v2_1 v2_2 (K : KT ρ) : f109i N (f109c 919) .n (f109s4 v6 v7 v8 v2_0 v2_1 v2_2) (joinK (some f109l4) K) =
  spec_l1Piece.Z20 N v6 v7 v8 v2_0 v2_1 v2_2 (fun v6 v7 v8 v2_0 v2_1 v2_2 => K .nrm (f109s4 v6 v7 v8 v2_0 v2_1 v2_2)) := by kernel_rfl
noncomputable def f109p13 : Plan := .mk (some f109l4) none f109p14 .n
theorem f109t13 N v6 v7 v8 v2_0 v2_1 v2_2 (K : KT ρ) : f109i N (f109c 407) f109p13 (f109s4 v6 v7 v8 v2_0 v2_1 v2_2) (joinK (some f109l4) K) =
  spec_l1Piece.Z13 N v6 v7 v8 v2_0 v2_1 v2_2 (fun v6 v7 v8 v2_0 v2_1 v2_2 => K .nrm (f109s4 v6 v7 v8 v2_0 v2_1 v2_2)) :=
 viaSeqS (fun k => spec_l1Piece.Z14 N v6 v7 v8 v2_0 v2_1 v2_2 k) (by kernel_rfl) (f109t14 N (K := seqK (fun σ => f109i N (f109c 919) .n σ (joinK (some f109l4) K)) (joinK (some f109l4) K)) ..) (fx6 fun v6 v7 v8 v2_0 v2_1 v2_2 => f109t20 N v6 v7 v8 v2_0 v2_1 v2_2 K) (by kernel_rfl)
noncomputable def f109p11 : Plan := .mk (some f109l4) none .n f109p13
theorem f109t11 N v6 v7 v8 v2_0 v2_1 v2_2 (K : KT ρ) : f109i N (f109c 151) f109p11 (f109s4 v6 v7 v8 v2_0 v2_1 v2_2) (joinK (some f109l4) K) =
  spec_l1Piece.Z11 N v6 v7 v8 v2_0 v2_1 v2_2 (fun v6 v7 v8 v2_0 v2_1 v2_2 => K .nrm (f109s4 v6 v7 v8 v2_0 v2_1 v2_2)) (fun v6 v7 => K (.exit 0) (f109s6 v6 v7)) :=
 viaSeqS (fun k => spec_l1Piece.Z12 N v6 v7 v8 v2_0 v2_1 v2_2 k (fun v6 v7 => K (.exit 0) (f109s6 v6 v7))) (by kernel_rfl) (f109t12 N (K := seqK (fun σ => f109i N (f109c 407) f109p13 σ (joinK (some f109l4) K)) (joinK (some f109l4) K)) ..) (fx6 fun v6 v7 v8 v2_0 v2_1 v2_2 => f109t13 N v6 v7 v8 v2_0 v2_1 v2_2 K) (by kernel_rfl)
noncomputable def f109p10 : Plan := .mk none (some f109l4) f109p11 .n
noncomputable abbrev f109w10 {ρ : Type} (N M : Nat) (σ : St) (K : KT ρ) : Option ρ := loopC (fun σ K => f109i N (f109c 151) f109p11 σ K) f109l4 M σ K
theorem f109t10L {ρ : Type} (N : Nat) (K : KT ρ) : ∀ (M : Nat) (v6 v7 : LI) (v8 v2_0 v2_1 : Int) (v2_2 : LI), f109w10 N M (f109s4 v6 v7 v8 v2_0 v2_1 v2_2) K =
  spec_l1Piece.Z10L N (fun v6 v7 => K (.exit 0) (f109s6 v6 v7)) M v6 v7 v8 v2_0 v2_1 v2_2
  | 0, _, _, _, _, _, _ => rfl
  | M + 1, v6, v7, v8, v2_0, v2_1, v2_2 => viaRoundS (fun k => spec_l1Piece.Z11 N v6 v7 v8 v2_0 v2_1 v2_2 k (fun v6 v7 => K (.exit 0) (f109s6 v6 v7))) (f109t11 N (K := seqK (fun σ => f109w10 N M σ K) K) ..) (fx6 fun v6 v7 v8 v2_0 v2_1 v2_2 => f109t10L N K M v6 v7 v8 v2_0 v2_1 v2_2) (by kernel_rfl)
theorem f109t10 N v6 v7 v8 v2_0 v2_1 v2_2 (K : KT ρ) : f109i N (f109c 87) f109p10 (f109s4 v6 v7 v8 v2_0 v2_1 v2_2) (joinK (some f109l6) K) =
  spec_l1Piece.Z10 N v6 v7 v8 v2_0 v2_1 v2_2 (fun v6 v7 => K (.exit 0) (f109s6 v6 v7)) :=
 viaLoopS (by kernel_rfl) (f109t10L N (joinK (some f109l6) K) N v6 v7 v8 v2_0 v2_1 v2_2) (by kernel_rfl)
noncomputable def f109p9 : Plan := .mk (some f109l6) none f109p10 .n
theorem f109t9 N v6 v7 v8 v2_0 v2_1 v2_2 (K : KT ρ) : f109i N (f109c 55) f109p9 (f109s4 v6 v7 v8 v2_0 v2_1 v2_2) (joinK (some f109l6) K) =
  spec_l1Piece.Z9 N v6 v7 v8 v2_0 v2_1 v2_2 (fun v6 v7 => K .nrm (f109s6 v6 v7)) :=
 viaBlockS (by kernel_rfl) (f109t10 N (K := blockK 0 (joinK (some f109l6) K)) ..) (by kernel_rfl)
noncomputable def f109p7 : Plan := .mk (some f109l4) none .n f109p9
theorem f109t7 N v6 v7 v2_0 v2_1 v2_2 (K : KT ρ) : f109i N (f109c 23) f109p7 (f109s3 v6 v7 v2_0 v2_1 v2_2) (joinK (some f109l6) K) =
  spec_l1Piece.Z7 N v6 v7 v2_0 v2_1 v2_2 (fun v6 v7 => K .nrm (f109s6 v6 v7)) :=
 viaSeqS (fun k => spec_l1Piece.Z8 N v6 v7 v2_0 v2_1 v2_2 k) (by kernel_rfl) (f109t8 N (K := seqK (fun σ => f109i N (f109c 55) f109p9 σ (joinK (some f109l6) K)) (joinK (some f109l6) K)) ..) (fx6 fun v6 v7 v8 v2_0 v2_1 v2_2 => f109t9 N v6 v7 v8 v2_0 v2_1 v2_2 K) (by kernel_rfl)
theorem f109t21 N v6 v7 (K : KT ρ) : f109i N (f109c 31) .n (f109s6 v6 v7) (joinK (some f109lE) K) =
  spec_l1Piece.Z21 N v6 v7 (fun v4 v5 => K .ret (f109s7 v4 v5)) := by kernel_rfl
noncomputable def f109p6 : Plan := .mk (some f109l6) none f109p7 .n
theorem f109t6 N v6 v7 v2_0 v2_1 v2_2 (K : KT ρ) : f109i N (f109c 15) f109p6 (f109s3 v6 v7 v2_0 v2_1 v2_2) (joinK (some f109lE) K) =
  spec_l1Piece.Z6 N v6 v7 v2_0 v2_1 v2_2 (fun v4 v5 => K .ret (f109s7 v4 v5)) :=
 viaSeqS (fun k => spec_l1Piece.Z7 N v6 v7 v2_0 v2_1 v2_2 k) (by kernel_rfl) (f109t7 N (K := seqK (fun σ => f109i N (f109c 31) .n σ (joinK (some f109lE) K)) (joinK (some f109lE) K)) ..) (fx2 fun v6 v7 => f109t21 N v6 v7 K) (by kernel_rfl)
noncomputable def f109p4 : Plan := .mk (some f109l3) none .n f109p6
theorem f109t4 N v6 v1 v2_0 v2_1 v2_2 (K : KT ρ) : f109i N (f109c 7) f109p4 (f109s2 v6 v1 v2_0 v2_1 v2_2) (joinK (some f109lE) K) =
  spec_l1Piece.Z4 N v6 v1 v2_0 v2_1 v2_2 (fun v4 v5 => K .ret (f109s7 v4 v5)) :=
 viaSeqS (fun k => spec_l1Piece.Z5 N v6 v1 v2_0 v2_1 v2_2 k) (by kernel_rfl) (f109t5 N (K := seqK (fun σ => f109i N (f109c 15) f109p6 σ (joinK (some f109lE) K)) (joinK (some f109lE) K)) ..) (fx5 fun v6 v7 v2_0 v2_1 v2_2 => f109t6 N v6 v7 v2_0 v2_1 v2_2 K) (by kernel_rfl)
noncomputable def f109p2 : Plan := .mk (some f109l2) none .n f109p4
theorem f109t2 N v1 v2_0 v2_1 v2_2 (K : KT ρ) : f109i N (f109c 3) f109p2 (f109s1 v1 v2_0 v2_1 v2_2) (joinK (some f109lE) K) =
  spec_l1Piece.Z2 N v1 v2_0 v2_1 v2_2 (fun v4 v5 => K .ret (f109s7 v4 v5)) :=
 viaSeqS (fun k => spec_l1Piece.Z3 N v1 v2_0 v2_1 v2_2 k) (by kernel_rfl) (f109t3 N (K := seqK (fun σ => f109i N (f109c 7) f109p4 σ (joinK (some f109lE) K)) (joinK (some f109lE) K)) ..) (fx5 fun v6 v1 v2_0 v2_1 v2_2 => f109t4 N v6 v1 v2_0 v2_1 v2_2 K) (by kernel_rfl)
noncomputable def f109p0 : Plan := .mk (some f109l1) none .n f109p2
theorem f109t0 N v0 v1 (K : KT ρ) : f109i N (f109c 1) f109p0 (f109s0 v0 v1) (joinK (some f109lE) K) =
  spec_l1Piece.Z0 N v0 v1 (fun v4 v5 => K .ret (f109s7 v4 v5)) :=
 viaSeqS (fun k => spec_l1Piece.Z1 N v0 v1 k) (by kernel_rfl) (f109t1 N (K := seqK (fun σ => f109i N (f109c 3) f109p2 σ (joinK (some f109lE) K)) (joinK (some f109lE) K)) ..) (fx4 fun v1 v2_0 v2_1 v2_2 => f109t2 N v1 v2_0 v2_1 v2_2 K) (by kernel_rfl)
theorem f109m (N : Nat) (v0 : MT) (v1 : Int) : f109i N (f109c 1) f109p0 (f109s0 v0 v1) (joinK (some f109lE) (finK tab f109sig Tryd.f109.results.toList)) = spec_l1Piece.Z0 N v0 v1 (fun v4 v5 => some ((), (v4, (v5, ())))) :=
  (f109t0 N v0 v1 (finK tab f109sig Tryd.f109.results.toList)).trans (by kernel_rfl)
theorem f109ok (h : spec_l1Piece.Spec) : EntryOk Tryd.prog 109 e109 :=
  entry_of_code (sig := f109sig) (c := (f109c 1)) (pl := f109p0) (je := (some f109lE)) (B := f109B) Tryd.func109 (by kernel_rfl) (by kernel_rfl) (by kernel_rfl) tabOk f109GOk (by kernel_rfl) (by kernel_rfl) (by kernel_rfl) (by kernel_rfl) fun X hb hp => by
    obtain ⟨v0, v1, _⟩ := X
    obtain ⟨N, h⟩ := h v0 v1 hb.1 hp
    exact ⟨N, (f109m N v0 v1).trans (h N (Nat.le_refl N))⟩
theorem e109ok : EntryOk Tryd.prog 109 e109 := f109ok spec_l1Piece.ok
end Go.Fw
namespace Go.Fw
variable {ρ : Type}
open Go.Proofs
noncomputable def f110sig : Sig := ⟨[⟨.int .i64, false, false⟩], [⟨.int .i64, false, false⟩]⟩
noncomputable def e110 : Entry := ⟨f110sig, none, fun X => ((), ((spec_l1Abs.g X.1), ()))⟩
noncomputable def f110G : Gm := emptyG
theorem f110GOk : GOk Tryd.prog f110G := GOk.nil
noncomputable def f110lE : Clean := ⟨[], [], [], [], []⟩
noncomputable def f110s0 (v0 : Int) : St := initSt f110sig.ps (v0, ())
noncomputable def f110s1 (v2 : Int) : St := stOf [(2, xi v2)] [] []
noncomputable def f110l1 : Clean := ⟨[2], [], [], [], []⟩
noncomputable def f110B : Nat → Option Clean := lookL [(1000000, f110l1)]
noncomputable abbrev f110i {ρ : Type} (N : Nat) (c : Code) (p : Plan) (σ : St) (K : KT ρ) : Option ρ := iCode f110G tab f110B N c p σ K
noncomputable def f110c (n : Nat) : Code := codeN 99 (bodyOf Tryd.f110) n
theorem f110t0 N v0 (K : KT ρ) : f110i N (f110c 1) .n (f110s0 v0) (joinK (some f110lE) K) =
  spec_l1Abs.Z0 N v0 (fun v2 => K .ret (f110s1 v2)) := by kernel_rfl
theorem f110m (N : Nat) (v0 : Int) : f110i N (f110c 1) .n (f110s0 v0) (joinK (some f110lE) (finK tab f110sig Tryd.f110.results.toList)) = spec_l1Abs.Z0 N v0 (fun v2 => some ((), (v2, ()))) :=
  (f110t0 N v0 (finK tab f110sig Tryd.f110.results.toList)).trans (by kernel_rfl)
theorem f110ok (h : spec_l1Abs.Spec) : EntryOk Tryd.prog 110 e110 :=
  entry_of_code (sig := f110sig) (c := (f110c 1)) (pl := .n) (je := (some f110lE)) (B := f110B) Tryd.func110 (by kernel_rfl) (by kernel_rfl) (by kernel_rfl) tabOk f110GOk (by kernel_rfl) (by kernel_rfl) (by kernel_rfl) (by kernel_rfl) fun X hb hp => by
    obtain ⟨v0, _⟩ := X
    obtain ⟨N, h⟩ := h v0
    exact ⟨N, (f110m N v0).trans (h N (Nat.le_refl N))⟩
theorem e110ok : EntryOk Tryd.prog 110 e110 := f110ok spec_l1Abs.ok
end Go.Fw
namespace Go.Fw
variable {ρ : Type}
open Go.Proofs
noncomputable def f111sig : Sig := ⟨[⟨.int .i64, false, false⟩, ⟨.int .i64, false, false⟩], [⟨.int .i64, false, false⟩]⟩
noncomputable def e111 : Entry := ⟨f111sig, (some fun X => spec_l1Gcd.P X.1 X.2.1), fun X => ((), ((spec_l1Gcd.g X.1 X.2.1), ()))⟩
noncomputable def f111G : Gm := emptyG
theorem f111GOk : GOk Tryd.prog f111G := GOk.nil
noncomputable def f111lE : Clean := ⟨[], [], [], [], []⟩
noncomputable def f111s0 (v0 v1 : Int) : St := initSt f111sig.ps (v0, (v1, ()))
noncomputable def f111s1 (v0 v1 : Int) : St := stOf [(0, xi v0), (1, xi v1)] [] []
noncomputable def f111l1 : Clean := ⟨[0, 1], [], [], [], []⟩
noncomputable def f111s2 (v0 : Int) : St := stOf [(0, xi v0)] [] []
noncomputable def f111l2 : Clean := ⟨[0], [], [], [], []⟩
noncomputable def f111s3 (v4 : Int) : St := stOf [(4, xi v4)] [] []
noncomputable def f111l3 : Clean := ⟨[4], [], [], [], []⟩
noncomputable def f111B : Nat → Option Clean := lookL [(0, f111l2), (1000000, f111l3)]
noncomputable abbrev f111i {ρ : Type} (N : Nat) (c : Code) (p : Plan) (σ : St) (K : KT ρ) : Option ρ := iCode f111G tab f111B N c p σ K
noncomputable def f111c (n : Nat) : Code := codeN 99 (bodyOf Tryd.f111) n
theorem f111t1 N v0 v1 (K : KT ρ) : f111i N (f111c 2) .n (f111s0 v0 v1) (joinK (some f111l1) K) =
  spec_l1Gcd.Z1 N v0 v1 (fun v0 v1 => K .nrm (f111s1 v0 v1)) := by kernel_rfl
theorem f111t5 N v0 v1 (K : KT ρ) : f111i N (f111c 17) .n (f111s1 v0 v1) (joinK (some f111l1) K) =
  spec_l1Gcd.Z5 N v0 v1 (fun v0 v1 => K .nrm (f111s1 v0 v1)) (fun v0 => K (.exit 0) (f111s2 v0)) := by kernel_rfl
noncomputable def f111p4 : Plan := .mk none (some f111l1) .n .n
noncomputable abbrev f111w4 {ρ : Type} (N M : Nat) (σ : St) (K : KT ρ) : Option ρ := loopC (fun σ K => f111i N (f111c 17) .n σ K) f111l1 M σ K
theorem f111t4L {ρ : Type} (N : Nat) (K : KT ρ) : ∀ (M : Nat) (v0 v1 : Int), f111w4 N M (f111s1 v0 v1) K =
  spec_l1Gcd.Z4L N (fun v0 => K (.exit 0) (f111s2 v0)) M v0 v1
  | 0, _, _ => rfl
  | M + 1, v0, v1 => viaRoundS (fun k => spec_l1Gcd.Z5 N v0 v1 k (fun v0 => K (.exit 0) (f111s2 v0))) (f111t5 N (K := seqK (fun σ => f111w4 N M σ K) K) ..) (fx2 fun v0 v1 => f111t4L N K M v0 v1) (by kernel_rfl)
theorem f111t4 N v0 v1 (K : KT ρ) : f111i N (f111c 9) f111p4 (f111s1 v0 v1) (joinK (some f111l2) K) =
  spec_l1Gcd.Z4 N v0 v1 (fun v0 => K (.exit 0) (f111s2 v0)) :=
 viaLoopS (by kernel_rfl) (f111t4L N (joinK (some f111l2) K) N v0 v1) (by kernel_rfl)
noncomputable def f111p3 : Plan := .mk (some f111l2) none f111p4 .n
theorem f111t3 N v0 v1 (K : KT ρ) : f111i N (f111c 5) f111p3 (f111s1 v0 v1) (joinK (some f111l2) K) =
  spec_l1Gcd.Z3 N v0 v1 (fun v0 => K .nrm (f111s2 v0)) :=
 viaBlockS (by kernel_rfl) (f111t4 N (K := blockK 0 (joinK (some f111l2) K)) ..) (by kernel_rfl)
theorem f111t6 N v0 (K : KT ρ) : f111i N (f111c 7) .n (f111s2 v0) (joinK (some f111lE) K) =
  spec_l1Gcd.Z6 N v0 (fun v4 => K .ret (f111s3 v4)) := by kernel_rfl
noncomputable def f111p2 : Plan := .mk (some f111l2) none f111p3 .n
theorem f111t2 N v0 v1 (K : KT ρ) : f111i N (f111c 3) f111p2 (f111s1 v0 v1) (joinK (some f111lE) K) =
  spec_l1Gcd.Z2 N v0 v1 (fun v4 => K .ret (f111s3 v4)) :=
 viaSeqS (fun k => spec_l1Gcd.Z3 N v0 v1 k) (by kernel_rfl) (f111t3 N (K := seqK (fun σ => f111i N (f111c 7) .n σ (joinK (some f111lE) K)) (joinK (some f111lE) K)) ..) (funext fun v0 => f111t6 N v0 K) (by kernel_rfl)
noncomputable def f111p0 : Plan := .mk (some f111l1) none .n f111p2
theorem f111t0 N v0 v1 (K : KT ρ) : f111i N (f111c 1) f111p0 (f111s0 v0 v1) (joinK (some f111lE) K) =
  spec_l1Gcd.Z0 N v0 v1 (fun v4 => K .ret (f111s3 v4)) :=
 viaSeqS (fun k => spec_l1Gcd.Z1 N v0 v1 k) (by kernel_rfl) (f111t1 N (K := seqK (fun σ => f111i N (f111c 3) f111p2 σ (joinK (some f111lE) K)) (joinK (some f111lE) K)) ..) (fx2 fun v0 v1 => f111t2 N v0 v1 K) (by kernel_rfl)
theorem f111m (N : Nat) (v0 v1 : Int) : f111i N (f111c 1) f111p0 (f111s0 v0 v1) (joinK (some f111lE) (finK tab f111sig Tryd.f111.results.toList)) = spec_l1Gcd.Z0 N v0 v1 (fun v4 => some ((), (v4, ()))) :=
  (f111t0 N v0 v1 (finK tab f111sig Tryd.f111.results.toList)).trans (by kernel_rfl)
theorem f111ok (h : spec_l1Gcd.Spec) : EntryOk Tryd.prog 111 e111 :=
  entry_of_code (sig := f111sig) (c := (f111c 1)) (pl := f111p0) (je := (some f111lE)) (B := f111B) Tryd.func111 (by kernel_rfl) (by kernel_rfl) (by kernel_rfl) tabOk f111GOk (by kernel_rfl) (by kernel_rfl) (by kernel_rfl) (by kernel_rfl) fun X hb hp => by
    obtain ⟨v0, v1, _⟩ := X
    obtain ⟨N, h⟩ := h v0 v1 hp
    exact ⟨N, (f111m N v0 v1).trans (h N (Nat.le_refl N))⟩
theorem e111ok : EntryOk Tryd.prog 111 e111 := f111ok spec_l1Gcd.ok
end Go.Fw
namespace Go.Fw
variable {ρ : Type}
open Go.Proofs
noncomputable def f91sig : Sig := ⟨[⟨.pair (.int .i64) (.pair (.int .i64) (.sl 3 (.int .i64))), true, false⟩], [⟨.sl 3 (.int .i64), false, false⟩, ⟨.bool, false, false⟩]⟩
noncomputable def e91 : Entry := ⟨f91sig, (some fun X => spec_l1Factors.P X.1), fun X => ((), ((spec_l1Factors.g X.1).1, ((spec_l1Factors.g X.1).2, ())))⟩
noncomputable def f91G : Gm := addG (addG (addG (addG emptyG 108 e108) 109 e109) 110 e110) 111 e111
theorem f91GOk : GOk Tryd.prog f91G := ((((GOk.nil).add e108ok (by kernel_rfl)).add e109ok (by kernel_rfl)).add e110ok (by kernel_rfl)).add e111ok (by kernel_rfl)
noncomputable def f91lE : Clean := ⟨[], [], [], [], []⟩
noncomputable def f91s0 (v0 : MT) : St := initSt f91sig.ps (v0, ())
noncomputable def f91s1 (v1_0 v1_1 : Int) (v1_2 : LI) : St := stOf [(1, xb 1)] [(1, (29, [yi v1_0, yi v1_1, .sn 3 tI v1_2 none]))] []
noncomputable def f91l1 : Clean := ⟨[1], [1], [], [], []⟩
noncomputable def f91s2 (v4 : LI) (v1_0 v1_1 : Int) (v1_2 : LI) : St := stOf [(1, xb 1), (4, xo 1000256)] [(1, (29, [yi v1_0, yi v1_1, .sn 3 tI v1_2 none]))] [(1000256, (⟨3, .int .i64, v4, true, false⟩ : Row))]
noncomputable def f91l2 : Clean := ⟨[1, 4], [1], [], [], [(⟨false, 4, 0⟩, 1000256)]⟩
noncomputable def f91s3 (v4 : LI) (v5 v1_0 v1_1 : Int) (v1_2 : LI) : St := stOf [(1, xb 1), (4, xo 1000256), (5, xi v5)] [(1, (29, [yi v1_0, yi v1_1, .sn 3 tI v1_2 none]))] [(1000256, (⟨3, .int .i64, v4, true, false⟩ : Row))]
noncomputable def f91l3 : Clean := ⟨[1, 4, 5], [1], [], [], [(⟨false, 4, 0⟩, 1000256)]⟩
noncomputable def f91s4 (v4 v6 v7 : LI) (v5 v1_0 v1_1 : Int) (v1_2 : LI) : St := stOf [(1, xb 1), (4, xo 1000256), (5, xi v5), (6, xo 1000384), (7, xo 1000448)] [(1, (29, [yi v1_0, yi v1_1, .sn 3 tI v1_2 none]))] [(1000256, (⟨3, .int .i64, v4, true, false⟩ : Row)), (1000384, (⟨3, .int .i64, v6, true, false⟩ : Row)), (1000448, (⟨3, .int .i64, v7, true, false⟩ : Row))]
noncomputable def f91l4 : Clean := ⟨[1, 4, 5, 6, 7], [1], [], [], [(⟨false, 4, 0⟩, 1000256), (⟨false, 6, 0⟩, 1000384), (⟨false, 7, 0⟩, 1000448)]⟩
noncomputable def f91s5 (v4 v6 v7 : LI) (v5 v8 v1_0 v1_1 : Int) (v1_2 : LI) : St := stOf [(1, xb 1), (4, xo 1000256), (5, xi v5), (6, xo 1000384), (7, xo 1000448), (8, xi v8)] [(1, (29, [yi v1_0, yi v1_1, .sn 3 tI v1_2 none]))] [(1000256, (⟨3, .int .i64, v4, true, false⟩ : Row)), (1000384, (⟨3, .int .i64, v6, true, false⟩ : Row)), (1000448, (⟨3, .int .i64, v7, true, false⟩ : Row))]
noncomputable def f91l5 : Clean := ⟨[1, 4, 5, 6, 7, 8], [1], [], [], [(⟨false, 4, 0⟩, 1000256), (⟨false, 6, 0⟩, 1000384), (⟨false, 7, 0⟩, 1000448)]⟩
noncomputable def f91s6 (v4 v6 v7 : LI) (v5 v9 v1_0 v1_1 : Int) (v1_2 : LI) : St := stOf [(1, xb 1), (4, xo 1000256), (5, xi v5), (6, xo 1000384), (7, xo 1000448), (9, xi v9)] [(1, (29, [yi v1_0, yi v1_1, .sn 3 tI v1_2 none]))] [(1000256, (⟨3, .int .i64, v4, true, false⟩ : Row)), (1000384, (⟨3, .int .i64, v6, true, false⟩ : Row)), (1000448, (⟨3, .int .i64, v7, true, false⟩ : Row))]
noncomputable def f91l6 : Clean := ⟨[1, 4, 5, 6, 7, 9], [1], [], [], [(⟨false, 4, 0⟩, 1000256), (⟨false, 6, 0⟩, 1000384), (⟨false, 7, 0⟩, 1000448)]⟩
noncomputable def f91s7 (v4 v6 v7 : LI) (v5 v9 v10 v1_0 v1_1 : Int) (v1_2 : LI) : St := stOf [(1, xb 1), (4, xo 1000256), (5, xi v5), (6, xo 1000384), (7, xo 1000448), (9, xi v9), (10, xi v10)] [(1, (29, [yi v1_0, yi v1_1, .sn 3 tI v1_2 none]))] [(1000256, (⟨3, .int .i64, v4, true, false⟩ : Row)), (1000384, (⟨3, .int .i64, v6, true, false⟩ : Row)), (1000448, (⟨3, .int .i64, v7, true, false⟩ : Row))]
noncomputable def f91l7 : Clean := ⟨[1, 4, 5, 6, 7, 9, 10], [1], [], [], [(⟨false, 4, 0⟩, 1000256), (⟨false, 6, 0⟩, 1000384), (⟨false, 7, 0⟩, 1000448)]⟩
noncomputable def f91s8 (v4 v6 : LI) (v5 v9 v1_0 v1_1 : Int) (v1_2 : LI) : St := stOf [(1, xb 1), (4, xo 1000256), (5, xi v5), (6, xo 1000384), (9, xi v9)] [(1, (29, [yi v1_0, yi v1_1, .sn 3 tI v1_2 none]))] [(1000256, (⟨3, .int .i64, v4, true, false⟩ : Row)), (1000384, (⟨3, .int .i64, v6, true, false⟩ : Row))]
noncomputable def f91l8 : Clean := ⟨[1, 4, 5, 6, 9], [1], [], [], [(⟨false, 4, 0⟩, 1000256), (⟨false, 6, 0⟩, 1000384)]⟩
noncomputable def f91s9 (v4 v6 : LI) (v5 v9 v11 v1_0 v1_1 : Int) (v1_2 : LI) : St := stOf [(1, xb 1), (4, xo 1000256), (5, xi v5), (6, xo 1000384), (9, xi v9), (11, xi v11)] [(1, (29, [yi v1_0, yi v1_1, .sn 3 tI v1_2 none]))] [(1000256, (⟨3, .int .i64, v4, true, false⟩ : Row)), (1000384, (⟨3, .int .i64, v6, true, false⟩ : Row))]
noncomputable def f91l9 : Clean := ⟨[1, 4, 5, 6, 9, 11], [1], [], [], [(⟨false, 4, 0⟩, 1000256), (⟨false, 6, 0⟩, 1000384)]⟩
noncomputable def f91s10 (v4 : LI) (v12 v1_0 v1_1 : Int) (v1_2 : LI) : St := stOf [(1, xb 1), (4, xo 1000256), (12, xi v12)] [(1, (29, [yi v1_0, yi v1_1, .sn 3 tI v1_2 none]))] [(1000256, (⟨3, .int .i64, v4, true, false⟩ : Row))]
noncomputable def f91l10 : Clean := ⟨[1, 4, 12], [1], [], [], [(⟨false, 4, 0⟩, 1000256)]⟩
noncomputable def f91s11 (v4 : LI) (v12 v13 v1_0 v1_1 : Int) (v1_2 : LI) : St := stOf [(1, xb 1), (4, xo 1000256), (12, xi v12), (13, xi v13)] [(1, (29, [yi v1_0, yi v1_1, .sn 3 tI v1_2 none]))] [(1000256, (⟨3, .int .i64, v4, true, false⟩ : Row))]
noncomputable def f91l11 : Clean := ⟨[1, 4, 12, 13], [1], [], [], [(⟨false, 4, 0⟩, 1000256)]⟩
noncomputable def f91s12 (v4 : LI) : St := stOf [(4, xo 1000256)] [] [(1000256, (⟨3, .int .i64, v4, true, false⟩ : Row))]
noncomputable def f91l12 : Clean := ⟨[4], [], [], [], [(⟨false, 4, 0⟩, 1000256)]⟩
noncomputable def f91s13 (v2 : LI) (v3 : Bool) : St := stOf [(2, xo 1000128), (3, xB v3)] [] [(1000128, (⟨3, .int .i64, v2, true, false⟩ : Row))]
noncomputable def f91l13 : Clean := ⟨[2, 3], [], [⟨⟨false, 2, 0⟩, 30000000, 3, .int .i64, true⟩], [], [(⟨false, 2, 0⟩, 1000128)]⟩
noncomputable def f91B : Nat → Option Clean := lookL [(2, f91l4), (4, f91l8), (6, f91l3), (1, f91l3), (0, f91l2), (10, f91l10), (9, f91l10), (8, f91l12), (1000000, f91l13)]
noncomputable abbrev f91i {ρ : Type} (N : Nat) (c : Code) (p : Plan) (σ : St) (K : KT ρ) : Option ρ := iCode f91G tab f91B N c p σ K
noncomputable def f91c (n : Nat) : Code := codeN 99 (bodyOf Tryd.f91) n
theorem f91t1 N v0 (K : KT ρ) : f91i N (f91c 2) .n (f91s0 v0) (joinK (some f91l1) K) =
  spec_l1Factors.Z1 N v0 (fun v1_0 v1_1 v1_2 => K .nrm (f91s1 v1_0 v1_1 v1_2)) := by kernel_rfl
theorem f91t3 N v1_0 v1_1 v1_2 (K : KT ρ) : f91i N (f91c 5) .n (f91s1 v1_0 v1_1 v1_2) (joinK (some f91l2) K) =
  spec_l1Factors.Z3 N v1_0 v1_1 v1_2 (fun v4 v1_0 v1_1 v1_2 => K .nrm (f91s2 v4 v1_0 v1_1 v1_2)) := by kernel_rfl
theorem f91t6 N v4 v1_0 v1_1 v1_2 (K : KT ρ) : f91i N (f91c 19) .n (f91s2 v4 v1_0 v1_1 v1_2) (joinK (some f91l3) K) =
  spec_l1Factors.Z6 N v4 v1_0 v1_1 v1_2 (fun v4 v5 v1_0 v1_1 v1_2 => K .nrm (f91s3 v4 v5 v1_0 v1_1 v1_2)) := by kernel_rfl
theorem f91t10 N v4 v5 v1_0 v1_1 v1_2 (K : KT ρ) : f91i N (f91c 139) .n (f91s3 v4 v5 v1_0 v1_1 v1_2) (joinK (some f91l3) K) =
  spec_l1Factors.Z10 N v4 v5 v1_0 v1_1 v1_2 (fun v4 v5 v1_0 v1_1 v1_2 => K .nrm (f91s3 v4 v5 v1_0 v1_1 v1_2)) (fun v4 v1_0 v1_1 v1_2 => K (.exit 0) (f91s2 v4 v1_0 v1_1 v1_2)) := by kernel_rfl
theorem f91t14 N v4 v5 v1_0 v1_1 v1_2 (K : KT ρ) : f91i N (f91c 1099) .n (f91s3 v4 v5 v1_0 v1_1 v1_2) (joinK (some f91l3) K) =
  spec_l1Factors.Z14 N v4 v5 v1_0 v1_1 v1_2 (fun v4 v5 v1_0 v1_1 v1_2 => K .nrm (f91s3 v4 v5 v1_0 v1_1 v1_2)) (fun v4 v5 v1_0 v1_1 v1_2 => K (.exit 1) (f91s3 v4 v5 v1_0 v1_1 v1_2)) := by kernel_rfl
theorem f91t16 N v4 v5 v1_0 v1_1 v1_2 (K : KT ρ) : f91i N (f91c 2635) .n (f91s3 v4 v5 v1_0 v1_1 v1_2) (joinK (some f91l4) K) =
  spec_l1Factors.Z16 N v4 v5 v1_0 v1_1 v1_2 (fun v4 v6 v7 v5 v1_0 v1_1 v1_2 => K .nrm (f91s4 v4 v6 v7 v5 v1_0 v1_1 v1_2)) := by kernel_rfl
theorem f91t18 N v4 v6 v7 v5 v1_0 v1_1 v1_2 (K : KT ρ) : f91i N (f91c 5707) .n (f91s4 v4 v6 v7 v5 v1_0 v1_1 v1_2) (joinK (some f91l4) K) =
  spec_l1Factors.Z18 N v4 v6 v7 v5 v1_0 v1_1 v1_2 (fun v4 v6 v7 v5 v1_0 v1_1 v1_2 => K .nrm (f91s4 v4 v6 v7 v5 v1_0 v1_1 v1_2)) := by kernel_rfl
theorem f91t21 N v4 v6 v7 v5 v1_0 v1_1 v1_2 (K : KT ρ) : f91i N (f91c 20043) .n (f91s4 v4 v6 v7 v5 v1_0 v1_1 v1_2) (joinK (some f91l5) K) =
  spec_l1Factors.Z21 N v4 v6 v7 v5 v1_0 v1_1 v1_2 (fun v4 v6 v7 v5 v8 v1_0 v1_1 v1_2 => K .nrm (f91s5 v4 v6 v7 v5 v8 v1_0 v1_1 v1_2)) := by kernel_rfl
theorem f91t24 N v4 v6 v7 v5 v8 v1_0 v1_1 v1_2 (K : KT ρ) : f91i N (f91c 77387) .n (f91s5 v4 v6 v7 v5 v8 v1_0 v1_1 v1_2) (joinK (some f91l5) K) =
  spec_l1Factors.Z24 N v4 v6 v7 v5 v8 v1_0 v1_1 v1_2 (fun v4 v6 v7 v5 v8 v1_0 v1_1 v1_2 => K .nrm (f91s5 v4 v6 v7 v5 v8 v1_0 v1_1 v1_2)) (fun v4 v6 v7 v5 v1_0 v1_1 v1_2 => K (.exit 2) (f91s4 v4 v6 v7 v5 v1_0 v1_1 v1_2)) := by kernel_rfl
noncomputable def f91p23 : Plan := .mk none (some f91l5) .n .n
noncomputable abbrev f91w23 {ρ : Type} (N M : Nat) (σ : St) (K : KT ρ) : Option ρ := loopC (fun σ K => f91i N (f91c 77387) .n σ K) f91l5 M σ K
theorem f91t23L {ρ : Type} (N : Nat) (K : KT ρ) : ∀ (M : Nat) (v4 v6 v7 : LI) (v5 v8 v1_0 v1_1 : Int) (v1_2 : LI), f91w23 N M (f91s5 v4 v6 v7 v5 v8 v1_0 v1_1 v1_2) K =
  spec_l1Factors.Z23L N (fun v4 v6 v7 v5 v1_0 v1_1 v1_2 => K (.exit 2) (f91s4 v4 v6 v7 v5 v1_0 v1_1 v1_2)) M v4 v6 v7 v5 v8 v1_0 v1_1 v1_2
  | 0, _, _, _, _, _, _, _, _ => rfl
  | M + 1, v4, v6, v7, v5, v8, v1_0, v1_1, v1_2 => viaRoundS (fun k => spec_l1Factors.Z24 N v4 v6 v7 v5 v8 v1_0 v1_1 v1_2 k (fun v4 v6 v7 v5 v1_0 v1_1 v1_2 => K (.exit 2) (f91s4 v4 v6 v7 v5 v1_0 v1_1 v1_2))) (f91t24 N (K := seqK (fun σ => f91w23 N M σ K) K) ..) (fx8 fun v4 v6 v7 v5 v8 v1_0 v1_1 v1_2 => f91t23L N K M v4 v6 v7 v5 v8 v1_0 v1_1 v1_2) (by kernel_rfl)
theorem f91t23 N v4 v6 v7 v5 v8 v1_0 v1_1 v1_2 (K : KT ρ) : f91i N (f91c 44619) f91p23 (f91s5 v4 v6 v7 v5 v8 v1_0 v1_1 v1_2) (joinK (some f91l4) K) =
  spec_l1Factors.Z23 N v4 v6 v7 v5 v8 v1_0 v1_1 v1_2 (fun v4 v6 v7 v5 v1_0 v1_1 v1_2 => K (.exit 2) (f91s4 v4 v6 v7 v5 v1_0 v1_1 v1_2)) :=
 viaLoopS (by kernel_rfl) (f91t23L N (joinK (some f91l4) K) N v4 v6 v7 v5 v8 v1_0 v1_1 v1_2) (by kernel_rfl)
noncomputable def f91p22 : Plan := .mk (some f91l4) none f91p23 .n
theorem f91t22 N v4 v6 v7 v5 v8 v1_0 v1_1 v1_2 (K : KT ρ) : f91i N (f91c 28235) f91p22 (f91s5 v4 v6 v7 v5 v8 v1_0 v1_1 v1_2) (joinK (some f91l4) K) =
  spec_l1Factors.Z22 N v4 v6 v7 v5 v8 v1_0 v1_1 v1_2 (fun v4 v6 v7 v5 v1_0 v1_1 v1_2 => K .nrm (f91s4 v4 v6 v7 v5 v1_0 v1_1 v1_2)) :=
 viaBlockS (by kernel_rfl) (f91t23 N (K := blockK 2 (joinK (some f91l4) K)) ..) (by kernel_rfl)
noncomputable def f91p20 : Plan := .mk (some f91l5) none .n f91p22
theorem f91t20 N v4 v6 v7 v5 v1_0 v1_1 v1_2 (K : KT ρ) : f91i N (f91c 11851) f91p20 (f91s4 v4 v6 v7 v5 v1_0 v1_1 v1_2) (joinK (some f91l4) K) =
  spec_l1Factors.Z20 N v4 v6 v7 v5 v1_0 v1_1 v1_2 (fun v4 v6 v7 v5 v1_0 v1_1 v1_2 => K .nrm (f91s4 v4 v6 v7 v5 v1_0 v1_1 v1_2)) :=
 viaSeqS (fun k => spec_l1Factors.Z21 N v4 v6 v7 v5 v1_0 v1_1 v1_2 k) (by kernel_rfl) (f91t21 N (K := seqK (fun σ => f91i N (f91c 28235) f91p22 σ (joinK (some f91l4) K)) (joinK (some f91l4) K)) ..) (fx8 fun v4 v6 v7 v5 v8 v1_0 v1_1 v1_2 => f91t22 N v4 v6 v7 v5 v8 v1_0 v1_1 v1_2 K) (by kernel_rfl)
theorem f91t26 N v4 v6 v7 v5 v1_0 v1_1 v1_2 (K : KT ρ) : f91i N (f91c 24139) .n (f91s4 v4 v6 v7 v5 v1_0 v1_1 v1_2) (joinK (some f91l6) K) =
  spec_l1Factors.Z26 N v4 v6 v7 v5 v1_0 v1_1 v1_2 (fun v4 v6 v7 v5 v9 v1_0 v1_1 v1_2 => K .nrm (f91s6 v4 v6 v7 v5 v9 v1_0 v1_1 v1_2)) := by kernel_rfl
theorem f91t29 N v4 v6 v7 v5 v9 v1_0 v1_1 v1_2 (K : KT ρ) : f91i N (f91c 81483) .n (f91s6 v4 v6 v7 v5 v9 v1_0 v1_1 v1_2) (joinK (some f91l7) K) =
  spec_l1Factors.Z29 N v4 v6 v7 v5 v9 v1_0 v1_1 v1_2 (fun v4 v6 v7 v5 v9 v10 v1_0 v1_1 v1_2 => K .nrm (f91s7 v4 v6 v7 v5 v9 v10 v1_0 v1_1 v1_2)) := by kernel_rfl
theorem f91t32 N v4 v6 v7 v5 v9 v10 v1_0 v1_1 v1_2 (K : KT ρ) : f91i N (f91c 310859) .n (f91s7 v4 v6 v7 v5 v9 v10 v1_0 v1_1 v1_2) (joinK (some f91l7) K) =
  spec_l1Factors.Z32 N v4 v6 v7 v5 v9 v10 v1_0 v1_1 v1_2 (fun v4 v6 v7 v5 v9 v10 v1_0 v1_1 v1_2 => K .nrm (f91s7 v4 v6 v7 v5 v9 v10 v1_0 v1_1 v1_2)) (fun v4 v6 v5 v9 v1_0 v1_1 v1_2 => K (.exit 4) (f91s8 v4 v6 v5 v9 v1_0 v1_1 v1_2)) := by kernel_rfl
noncomputable def f91p31 : Plan := .mk none (some f91l7) .n .n
noncomputable abbrev f91w31 {ρ : Type} (N M : Nat) (σ : St) (K : KT ρ) : Option ρ := loopC (fun σ K => f91i N (f91c 310859) .n σ K) f91l7 M σ K
theorem f91t31L {ρ : Type} (N : Nat) (K : KT ρ) : ∀ (M : Nat) (v4 v6 v7 : LI) (v5 v9 v10 v1_0 v1_1 : Int) (v1_2 : LI), f91w31 N M (f91s7 v4 v6 v7 v5 v9 v10 v1_0 v1_1 v1_2) K =
  spec_l1Factors.Z31L N (fun v4 v6 v5 v9 v1_0 v1_1 v1_2 => K (.exit 4) (f91s8 v4 v6 v5 v9 v1_0 v1_1 v1_2)) M v4 v6 v7 v5 v9 v10 v1_0 v1_1 v1_2
  | 0, _, _, _, _, _, _, _, _, _ => rfl
  | M + 1, v4, v6, v7, v5, v9, v10, v1_0, v1_1, v1_2 => viaRoundS (fun k => spec_l1Factors.Z32 N v4 v6 v7 v5 v9 v10 v1_0 v1_1 v1_2 k (fun v4 v6 v5 v9 v1_0 v1_1 v1_2 => K (.exit 4) (f91s8 v4 v6 v5 v9 v1_0 v1_1 v1_2))) (f91t32 N (K := seqK (fun σ => f91w31 N M σ K) K) ..) (fx9 fun v4 v6 v7 v5 v9 v10 v1_0 v1_1 v1_2 => f91t31L N K M v4 v6 v7 v5 v9 v10 v1_0 v1_1 v1_2) (by kernel_rfl)
theorem f91t31 N v4 v6 v7 v5 v9 v10 v1_0 v1_1 v1_2 (K : KT ρ) : f91i N (f91c 179787) f91p31 (f91s7 v4 v6 v7 v5 v9 v10 v1_0 v1_1 v1_2) (joinK (some f91l8) K) =
  spec_l1Factors.Z31 N v4 v6 v7 v5 v9 v10 v1_0 v1_1 v1_2 (fun v4 v6 v5 v9 v1_0 v1_1 v1_2 => K (.exit 4) (f91s8 v4 v6 v5 v9 v1_0 v1_1 v1_2)) :=
 viaLoopS (by kernel_rfl) (f91t31L N (joinK (some f91l8) K) N v4 v6 v7 v5 v9 v10 v1_0 v1_1 v1_2) (by kernel_rfl)
noncomputable def f91p30 : Plan := .mk (some f91l8) none f91p31 .n
theorem f91t30 N v4 v6 v7 v5 v9 v10 v1_0 v1_1 v1_2 (K : KT ρ) : f91i N (f91c 114251) f91p30 (f91s7 v4 v6 v7 v5 v9 v10 v1_0 v1_1 v1_2) (joinK (some f91l8) K) =
  spec_l1Factors.Z30 N v4 v6 v7 v5 v9 v10 v1_0 v1_1 v1_2 (fun v4 v6 v5 v9 v1_0 v1_1 v1_2 => K .nrm (f91s8 v4 v6 v5 v9 v1_0 v1_1 v1_2)) :=
 viaBlockS (by kernel_rfl) (f91t31 N (K := blockK 4 (joinK (some f91l8) K)) ..) (by kernel_rfl)
noncomputable def f91p28 : Plan := .mk (some f91l7) none .n f91p30
theorem f91t28 N v4 v6 v7 v5 v9 v1_0 v1_1 v1_2 (K : KT ρ) : f91i N (f91c 48715) f91p28 (f91s6 v4 v6 v7 v5 v9 v1_0 v1_1 v1_2) (joinK (some f91l8) K) =
  spec_l1Factors.Z28 N v4 v6 v7 v5 v9 v1_0 v1_1 v1_2 (fun v4 v6 v5 v9 v1_0 v1_1 v1_2 => K .nrm (f91s8 v4 v6 v5 v9 v1_0 v1_1 v1_2)) :=
 viaSeqS (fun k => spec_l1Factors.Z29 N v4 v6 v7 v5 v9 v1_0 v1_1 v1_2 k) (by kernel_rfl) (f91t29 N (K := seqK (fun σ => f91i N (f91c 114251) f91p30 σ (joinK (some f91l8) K)) (joinK (some f91l8) K)) ..) (fx9 fun v4 v6 v7 v5 v9 v10 v1_0 v1_1 v1_2 => f91t30 N v4 v6 v7 v5 v9 v10 v1_0 v1_1 v1_2 K) (by kernel_rfl)
theorem f91t34 N v4 v6 v5 v9 v1_0 v1_1 v1_2 (K : KT ρ) : f91i N (f91c 97867) .n (f91s8 v4 v6 v5 v9 v1_0 v1_1 v1_2) (joinK (some f91l9) K) =
  spec_l1Factors.Z34 N v4 v6 v5 v9 v1_0 v1_1 v1_2 (fun v4 v6 v5 v9 v11 v1_0 v1_1 v1_2 => K .nrm (f91s9 v4 v6 v5 v9 v11 v1_0 v1_1 v1_2)) := by kernel_rfl
theorem f91t37 N v4 v6 v5 v9 v11 v1_0 v1_1 v1_2 (K : KT ρ) : f91i N (f91c 327243) .n (f91s9 v4 v6 v5 v9 v11 v1_0 v1_1 v1_2) (joinK (some f91l9) K) =
  spec_l1Factors.Z37 N v4 v6 v5 v9 v11 v1_0 v1_1 v1_2 (fun v4 v6 v5 v9 v11 v1_0 v1_1 v1_2 => K .nrm (f91s9 v4 v6 v5 v9 v11 v1_0 v1_1 v1_2)) (fun v4 v5 v1_0 v1_1 v1_2 => K (.exit 6) (f91s3 v4 v5 v1_0 v1_1 v1_2)) := by kernel_rfl
noncomputable def f91p36 : Plan := .mk none (some f91l9) .n .n
noncomputable abbrev f91w36 {ρ : Type} (N M : Nat) (σ : St) (K : KT ρ) : Option ρ := loopC (fun σ K => f91i N (f91c 327243) .n σ K) f91l9 M σ K
theorem f91t36L {ρ : Type} (N : Nat) (K : KT ρ) : ∀ (M : Nat) (v4 v6 : LI) (v5 v9 v11 v1_0 v1_1 : Int) (v1_2 : LI), f91w36 N M (f91s9 v4 v6 v5 v9 v11 v1_0 v1_1 v1_2) K =
  spec_l1Factors.Z36L N (fun v4 v5 v1_0 v1_1 v1_2 => K (.exit 6) (f91s3 v4 v5 v1_0 v1_1 v1_2)) M v4 v6 v5 v9 v11 v1_0 v1_1 v1_2
  | 0, _, _, _, _, _, _, _, _ => rfl
  | M + 1, v4, v6, v5, v9, v11, v1_0, v1_1, v1_2 => viaRoundS (fun k => spec_l1Factors.Z37 N v4 v6 v5 v9 v11 v1_0 v1_1 v1_2 k (fun v4 v5 v1_0 v1_1 v1_2 => K (.exit 6) (f91s3 v4 v5 v1_0 v1_1 v1_2))) (f91t37 N (K := seqK (fun σ => f91w36 N M σ K) K) ..) (fx8 fun v4 v6 v5 v9 v11 v1_0 v1_1 v1_2 => f91t36L N K M v4 v6 v5 v9 v11 v1_0 v1_1 v1_2) (by kernel_rfl)
theorem f91t36 N v4 v6 v5 v9 v11 v1_0 v1_1 v1_2 (K : KT ρ) : f91i N (f91c 196171) f91p36 (f91s9 v4 v6 v5 v9 v11 v1_0 v1_1 v1_2) (joinK (some f91l3) K) =
  spec_l1Factors.Z36 N v4 v6 v5 v9 v11 v1_0 v1_1 v1_2 (fun v4 v5 v1_0 v1_1 v1_2 => K (.exit 6) (f91s3 v4 v5 v1_0 v1_1 v1_2)) :=
 viaLoopS (by kernel_rfl) (f91t36L N (joinK (some f91l3) K) N v4 v6 v5 v9 v11 v1_0 v1_1 v1_2) (by kernel_rfl)
noncomputable def f91p35 : Plan := .mk (some f91l3) none f91p36 .n
theorem f91t35 N v4 v6 v5 v9 v11 v1_0 v1_1 v1_2 (K : KT ρ) : f91i N (f91c 130635) f91p35 (f91s9 v4 v6 v5 v9 v11 v1_0 v1_1 v1_2) (joinK (some f91l3) K) =
  spec_l1Factors.Z35 N v4 v6 v5 v9 v11 v1_0 v1_1 v1_2 (fun v4 v5 v1_0 v1_1 v1_2 => K .nrm (f91s3 v4 v5 v1_0 v1_1 v1_2)) :=
 viaBlockS (by kernel_rfl) (f91t36 N (K := blockK 6 (joinK (some f91l3) K)) ..) (by kernel_rfl)
noncomputable def f91p33 : Plan := .mk (some f91l9) none .n f91p35
theorem f91t33 N v4 v6 v5 v9 v1_0 v1_1 v1_2 (K : KT ρ) : f91i N (f91c 65099) f91p33 (f91s8 v4 v6 v5 v9 v1_0 v1_1 v1_2) (joinK (some f91l3) K) =
  spec_l1Factors.Z33 N v4 v6 v5 v9 v1_0 v1_1 v1_2 (fun v4 v5 v1_0 v1_1 v1_2 => K .nrm (f91s3 v4 v5 v1_0 v1_1 v1_2)) :=
 viaSeqS (fun k => spec_l1Factors.Z34 N v4 v6 v5 v9 v1_0 v1_1 v1_2 k) (by kernel_rfl) (f91t34 N (K := seqK (fun σ => f91i N (f91c 130635) f91p35 σ (joinK (some f91l3) K)) (joinK (some f91l3) K)) ..) (fx8 fun v4 v6 v5 v9 v11 v1_0 v1_1 v1_2 => f91t35 N v4 v6 v5 v9 v11 v1_0 v1_1 v1_2 K) (by kernel_rfl)
noncomputable def f91p27 : Plan := .mk (some f91l8) none f91p28 f91p33
theorem f91t27 N v4 v6 v7 v5 v9 v1_0 v1_1 v1_2 (K : KT ρ) : f91i N (f91c 32331) f91p27 (f91s6 v4 v6 v7 v5 v9 v1_0 v1_1 v1_2) (joinK (some f91l3) K) =
  spec_l1Factors.Z27 N v4 v6 v7 v5 v9 v1_0 v1_1 v1_2 (fun v4 v5 v1_0 v1_1 v1_2 => K .nrm (f91s3 v4 v5 v1_0 v1_1 v1_2)) :=
 viaSeqS (fun k => spec_l1Factors.Z28 N v4 v6 v7 v5 v9 v1_0 v1_1 v1_2 k) (by kernel_rfl) (f91t28 N (K := seqK (fun σ => f91i N (f91c 65099) f91p33 σ (joinK (some f91l3) K)) (joinK (some f91l3) K)) ..) (fx7 fun v4 v6 v5 v9 v1_0 v1_1 v1_2 => f91t33 N v4 v6 v5 v9 v1_0 v1_1 v1_2 K) (by kernel_rfl)
noncomputable def f91p25 : Plan := .mk (some f91l6) none .n f91p27
theorem f91t25 N v4 v6 v7 v5 v1_0 v1_1 v1_2 (K : KT ρ) : f91i N (f91c 15947) f91p25 (f91s4 v4 v6 v7 v5 v1_0 v1_1 v1_2) (joinK (some f91l3) K) =
  spec_l1Factors.Z25 N v4 v6 v7 v5 v1_0 v1_1 v1_2 (fun v4 v5 v1_0 v1_1 v1_2 => K .nrm (f91s3 v4 v5 v1_0 v1_1 v1_2)) :=
 viaSeqS (fun k => spec_l1Factors.Z26 N v4 v6 v7 v5 v1_0 v1_1 v1_2 k) (by kernel_rfl) (f91t26 N (K := seqK (fun σ => f91i N (f91c 32331) f91p27 σ (joinK (some f91l3) K)) (joinK (some f91l3) K)) ..) (fx8 fun v4 v6 v7 v5 v9 v1_0 v1_1 v1_2 => f91t27 N v4 v6 v7 v5 v9 v1_0 v1_1 v1_2 K) (by kernel_rfl)
noncomputable def f91p19 : Plan := .mk (some f91l4) none f91p20 f91p25
theorem f91t19 N v4 v6 v7 v5 v1_0 v1_1 v1_2 (K : KT ρ) : f91i N (f91c 7755) f91p19 (f91s4 v4 v6 v7 v5 v1_0 v1_1 v1_2) (joinK (some f91l3) K) =
  spec_l1Factors.Z19 N v4 v6 v7 v5 v1_0 v1_1 v1_2 (fun v4 v5 v1_0 v1_1 v1_2 => K .nrm (f91s3 v4 v5 v1_0 v1_1 v1_2)) :=
 viaSeqS (fun k => spec_l1Factors.Z20 N v4 v6 v7 v5 v1_0 v1_1 v1_2 k) (by kernel_rfl) (f91t20 N (K := seqK (fun σ => f91i N (f91c 15947) f91p25 σ (joinK (some f91l3) K)) (joinK (some f91l3) K)) ..) (fx7 fun v4 v6 v7 v5 v1_0 v1_1 v1_2 => f91t25 N v4 v6 v7 v5 v1_0 v1_1 v1_2 K) (by kernel_rfl)
noncomputable def f91p17 : Plan := .mk (some f91l4) none .n f91p19
theorem f91t17 N v4 v6 v7 v5 v1_0 v1_1 v1_2 (K : KT ρ) : f91i N (f91c 3659) f91p17 (f91s4 v4 v6 v7 v5 v1_0 v1_1 v1_2) (joinK (some f91l3) K) =
  spec_l1Factors.Z17 N v4 v6 v7 v5 v1_0 v1_1 v1_2 (fun v4 v5 v1_0 v1_1 v1_2 => K .nrm (f91s3 v4 v5 v1_0 v1_1 v1_2)) :=
 viaSeqS (fun k => spec_l1Factors.Z18 N v4 v6 v7 v5 v1_0 v1_1 v1_2 k) (by kernel_rfl) (f91t18 N (K := seqK (fun σ => f91i N (f91c 7755) f91p19 σ (joinK (some f91l3) K)) (joinK (some f91l3) K)) ..) (fx7 fun v4 v6 v7 v5 v1_0 v1_1 v1_2 => f91t19 N v4 v6 v7 v5 v1_0 v1_1 v1_2 K) (by kernel_rfl)
noncomputable def f91p15 : Plan := .mk (some f91l4) none .n f91p17
theorem f91t15 N v4 v5 v1_0 v1_1 v1_2 (K : KT ρ) : f91i N (f91c 1611) f91p15 (f91s3 v4 v5 v1_0 v1_1 v1_2) (joinK (some f91l3) K) =
  spec_l1Factors.Z15 N v4 v5 v1_0 v1_1 v1_2 (fun v4 v5 v1_0 v1_1 v1_2 => K .nrm (f91s3 v4 v5 v1_0 v1_1 v1_2)) :=
 viaSeqS (fun k => spec_l1Factors.Z16 N v4 v5 v1_0 v1_1 v1_2 k) (by kernel_rfl) (f91t16 N (K := seqK (fun σ => f91i N (f91c 3659) f91p17 σ (joinK (some f91l3) K)) (joinK (some f91l3) K)) ..) (fx7 fun v4 v6 v7 v5 v1_0 v1_1 v1_2 => f91t17 N v4 v6 v7 v5 v1_0 v1_1 v1_2 K) (by kernel_rfl)
noncomputable def f91p13 : Plan := .mk (some f91l3) none .n f91p15
theorem f91t13 N v4 v5 v1_0 v1_1 v1_2 (K : KT ρ) : f91i N (f91c 587) f91p13 (f91s3 v4 v5 v1_0 v1_1 v1_2) (joinK (some f91l3) K) =
  spec_l1Factors.Z13 N v4 v5 v1_0 v1_1 v1_2 (fun v4 v5 v1_0 v1_1 v1_2 => K .nrm (f91s3 v4 v5 v1_0 v1_1 v1_2)) (fun v4 v5 v1_0 v1_1 v1_2 => K (.exit 1) (f91s3 v4 v5 v1_0 v1_1 v1_2)) :=
 viaSeqS (fun k => spec_l1Factors.Z14 N v4 v5 v1_0 v1_1 v1_2 k (fun v4 v5 v1_0 v1_1 v1_2 => K (.exit 1) (f91s3 v4 v5 v1_0 v1_1 v1_2))) (by kernel_rfl) (f91t14 N (K := seqK (fun σ => f91i N (f91c 1611) f91p15 σ (joinK (some f91l3) K)) (joinK (some f91l3) K)) ..) (fx5 fun v4 v5 v1_0 v1_1 v1_2 => f91t15 N v4 v5 v1_0 v1_1 v1_2 K) (by kernel_rfl)
noncomputable def f91p12 : Plan := .mk (some f91l3) none f91p13 .n
theorem f91t12 N v4 v5 v1_0 v1_1 v1_2 (K : KT ρ) : f91i N (f91c 331) f91p12 (f91s3 v4 v5 v1_0 v1_1 v1_2) (joinK (some f91l3) K) =
  spec_l1Factors.Z12 N v4 v5 v1_0 v1_1 v1_2 (fun v4 v5 v1_0 v1_1 v1_2 => K .nrm (f91s3 v4 v5 v1_0 v1_1 v1_2)) :=
 viaBlockS (by kernel_rfl) (f91t13 N (K := blockK 1 (joinK (some f91l3) K)) ..) (by kernel_rfl)
theorem f91t38 N v4 v5 v1_0 v1_1 v1_2 (K : KT ρ) : f91i N (f91c 459) .n (f91s3 v4 v5 v1_0 v1_1 v1_2) (joinK (some f91l3) K) =
  spec_l1Factors.Z38 N v4 v5 v1_0 v1_1 v1_2 (fun v4 v5 v1_0 v1_1 v1_2 => K .nrm (f91s3 v4 v5 v1_0 v1_1 v1_2)) := by kernel_rfl
noncomputable def f91p11 : Plan := .mk (some f91l3) none f91p12 .n
theorem f91t11 N v4 v5 v1_0 v1_1 v1_2 (K : KT ρ) : f91i N (f91c 203) f91p11 (f91s3 v4 v5 v1_0 v1_1 v1_2) (joinK (some f91l3) K) =
  spec_l1Factors.Z11 N v4 v5 v1_0 v1_1 v1_2 (fun v4 v5 v1_0 v1_1 v1_2 => K .nrm (f91s3 v4 v5 v1_0 v1_1 v1_2)) :=
 viaSeqS (fun k => spec_l1Factors.Z12 N v4 v5 v1_0 v1_1 v1_2 k) (by kernel_rfl) (f91t12 N (K := seqK (fun σ => f91i N (f91c 459) .n σ (joinK (some f91l3) K)) (joinK (some f91l3) K)) ..) (fx5 fun v4 v5 v1_0 v1_1 v1_2 => f91t38 N v4 v5 v1_0 v1_1 v1_2 K) (by kernel_rfl)
noncomputable def f91p9 : Plan := .mk (some f91l3) none .n f91p11
theorem f91t9 N v4 v5 v1_0 v1_1 v1_2 (K : KT ρ) : f91i N (f91c 75) f91p9 (f91s3 v4 v5 v1_0 v1_1 v1_2) (joinK (some f91l3) K) =
  spec_l1Factors.Z9 N v4 v5 v1_0 v1_1 v1_2 (fun v4 v5 v1_0 v1_1 v1_2 => K .nrm (f91s3 v4 v5 v1_0 v1_1 v1_2)) (fun v4 v1_0 v1_1 v1_2 => K (.exit 0) (f91s2 v4 v1_0 v1_1 v1_2)) :=
 viaSeqS (fun k => spec_l1Factors.Z10 N v4 v5 v1_0 v1_1 v1_2 k (fun v4 v1_0 v1_1 v1_2 => K (.exit 0) (f91s2 v4 v1_0 v1_1 v1_2))) (by kernel_rfl) (f91t10 N (K := seqK (fun σ => f91i N (f91c 203) f91p11 σ (joinK (some f91l3) K)) (joinK (some f91l3) K)) ..) (fx5 fun v4 v5 v1_0 v1_1 v1_2 => f91t11 N v4 v5 v1_0 v1_1 v1_2 K) (by kernel_rfl)
noncomputable def f91p8 : Plan := .mk none (some f91l3) f91p9 .n
noncomputable abbrev f91w8 {ρ : Type} (N M : Nat) (σ : St) (K : KT ρ) : Option ρ := loopC (fun σ K => f91i N (f91c 75) f91p9 σ K) f91l3 M σ K
theorem f91t8L {ρ : Type} (N : Nat) (K : KT ρ) : ∀ (M : Nat) (v4 : LI) (v5 v1_0 v1_1 : Int) (v1_2 : LI), f91w8 N M (f91s3 v4 v5 v1_0 v1_1 v1_2) K =
  spec_l1Factors.Z8L N (fun v4 v1_0 v1_1 v1_2 => K (.exit 0) (f91s2 v4 v1_0 v1_1 v1_2)) M v4 v5 v1_0 v1_1 v1_2
  | 0, _, _, _, _, _ => rfl
  | M + 1, v4, v5, v1_0, v1_1, v1_2 => viaRoundS (fun k => spec_l1Factors.Z9 N v4 v5 v1_0 v1_1 v1_2 k (fun v4 v1_0 v1_1 v1_2 => K (.exit 0) (f91s2 v4 v1_0 v1_1 v1_2))) (f91t9 N (K := seqK (fun σ => f91w8 N M σ K) K) ..) (fx5 fun v4 v5 v1_0 v1_1 v1_2 => f91t8L N K M v4 v5 v1_0 v1_1 v1_2) (by kernel_rfl)
theorem f91t8 N v4 v5 v1_0 v1_1 v1_2 (K : KT ρ) : f91i N (f91c 43) f91p8 (f91s3 v4 v5 v1_0 v1_1 v1_2) (joinK (some f91l2) K) =
  spec_l1Factors.Z8 N v4 v5 v1_0 v1_1 v1_2 (fun v4 v1_0 v1_1 v1_2 => K (.exit 0) (f91s2 v4 v1_0 v1_1 v1_2)) :=
 viaLoopS (by kernel_rfl) (f91t8L N (joinK (some f91l2) K) N v4 v5 v1_0 v1_1 v1_2) (by kernel_rfl)
noncomputable def f91p7 : Plan := .mk (some f91l2) none f91p8 .n
theorem f91t7 N v4 v5 v1_0 v1_1 v1_2 (K : KT ρ) : f91i N (f91c 27) f91p7 (f91s3 v4 v5 v1_0 v1_1 v1_2) (joinK (some f91l2) K) =
  spec_l1Factors.Z7 N v4 v5 v1_0 v1_1 v1_2 (fun v4 v1_0 v1_1 v1_2 => K .nrm (f91s2 v4 v1_0 v1_1 v1_2)) :=
 viaBlockS (by kernel_rfl) (f91t8 N (K := blockK 0 (joinK (some f91l2) K)) ..) (by kernel_rfl)
noncomputable def f91p5 : Plan := .mk (some f91l3) none .n f91p7
theorem f91t5 N v4 v1_0 v1_1 v1_2 (K : KT ρ) : f91i N (f91c 11) f91p5 (f91s2 v4 v1_0 v1_1 v1_2) (joinK (some f91l2) K) =
  spec_l1Factors.Z5 N v4 v1_0 v1_1 v1_2 (fun v4 v1_0 v1_1 v1_2 => K .nrm (f91s2 v4 v1_0 v1_1 v1_2)) :=
 viaSeqS (fun k => spec_l1Factors.Z6 N v4 v1_0 v1_1 v1_2 k) (by kernel_rfl) (f91t6 N (K := seqK (fun σ => f91i N (f91c 27) f91p7 σ (joinK (some f91l2) K)) (joinK (some f91l2) K)) ..) (fx5 fun v4 v5 v1_0 v1_1 v1_2 => f91t7 N v4 v5 v1_0 v1_1 v1_2 K) (by kernel_rfl)
theorem f91t41 N v4 v1_0 v1_1 v1_2 (K : KT ρ) : f91i N (f91c 39) .n (f91s2 v4 v1_0 v1_1 v1_2) (joinK (some f91l10) K) =
  spec_l1Factors.Z41 N v4 v1_0 v1_1 v1_2 (fun v4 v12 v1_0 v1_1 v1_2 => K .nrm (f91s10 v4 v12 v1_0 v1_1 v1_2)) := by kernel_rfl
theorem f91t45 N v4 v12 v1_0 v1_1 v1_2 (K : KT ρ) : f91i N (f91c 279) .n (f91s10 v4 v12 v1_0 v1_1 v1_2) (joinK (some f91l10) K) =
  spec_l1Factors.Z45 N v4 v12 v1_0 v1_1 v1_2 (fun v4 v12 v1_0 v1_1 v1_2 => K .nrm (f91s10 v4 v12 v1_0 v1_1 v1_2)) (fun v4 => K (.exit 8) (f91s12 v4)) := by kernel_rfl
theorem f91t49 N v4 v12 v1_0 v1_1 v1_2 (K : KT ρ) : f91i N (f91c 2199) .n (f91s10 v4 v12 v1_0 v1_1 v1_2) (joinK (some f91l11) K) =
  spec_l1Factors.Z49 N v4 v12 v1_0 v1_1 v1_2 (fun v4 v12 v13 v1_0 v1_1 v1_2 => K .nrm (f91s11 v4 v12 v13 v1_0 v1_1 v1_2)) := by kernel_rfl
theorem f91t52 N v4 v12 v13 v1_0 v1_1 v1_2 (K : KT ρ) : f91i N (f91c 9367) .n (f91s11 v4 v12 v13 v1_0 v1_1 v1_2) (joinK (some f91l11) K) =
  spec_l1Factors.Z52 N v4 v12 v13 v1_0 v1_1 v1_2 (fun v4 v12 v13 v1_0 v1_1 v1_2 => K .nrm (f91s11 v4 v12 v13 v1_0 v1_1 v1_2)) (fun v4 v12 v1_0 v1_1 v1_2 => K (.exit 10) (f91s10 v4 v12 v1_0 v1_1 v1_2)) (fun v2 v3 => K .ret (f91s13 v2 v3)) := by kernel_rfl
noncomputable def f91p51 : Plan := .mk none (some f91l11) .n .n
noncomputable abbrev f91w51 {ρ : Type} (N M : Nat) (σ : St) (K : KT ρ) : Option ρ := loopC (fun σ K => f91i N (f91c 9367) .n σ K) f91l11 M σ K
theorem f91t51L {ρ : Type} (N : Nat) (K : KT ρ) : ∀ (M : Nat) (v4 : LI) (v12 v13 v1_0 v1_1 : Int) (v1_2 : LI), f91w51 N M (f91s11 v4 v12 v13 v1_0 v1_1 v1_2) K =
  spec_l1Factors.Z51L N (fun v4 v12 v1_0 v1_1 v1_2 => K (.exit 10) (f91s10 v4 v12 v1_0 v1_1 v1_2)) (fun v2 v3 => K .ret (f91s13 v2 v3)) M v4 v12 v13 v1_0 v1_1 v1_2
  | 0, _, _, _, _, _, _ => rfl
  | M + 1, v4, v12, v13, v1_0, v1_1, v1_2 => viaRoundS (fun k => spec_l1Factors.Z52 N v4 v12 v13 v1_0 v1_1 v1_2 k (fun v4 v12 v1_0 v1_1 v1_2 => K (.exit 10) (f91s10 v4 v12 v1_0 v1_1 v1_2)) (fun v2 v3 => K .ret (f91s13 v2 v3))) (f91t52 N (K := seqK (fun σ => f91w51 N M σ K) K) ..) (fx6 fun v4 v12 v13 v1_0 v1_1 v1_2 => f91t51L N K M v4 v12 v13 v1_0 v1_1 v1_2) (by kernel_rfl)
theorem f91t51 N v4 v12 v13 v1_0 v1_1 v1_2 (K : KT ρ) : f91i N (f91c 5271) f91p51 (f91s11 v4 v12 v13 v1_0 v1_1 v1_2) (joinK (some f91l10) K) =
  spec_l1Factors.Z51 N v4 v12 v13 v1_0 v1_1 v1_2 (fun v4 v12 v1_0 v1_1 v1_2 => K (.exit 10) (f91s10 v4 v12 v1_0 v1_1 v1_2)) (fun v2 v3 => K .ret (f91s13 v2 v3)) :=
 viaLoopS (by kernel_rfl) (f91t51L N (joinK (some f91l10) K) N v4 v12 v13 v1_0 v1_1 v1_2) (by kernel_rfl)
noncomputable def f91p50 : Plan := .mk (some f91l10) none f91p51 .n
theorem f91t50 N v4 v12 v13 v1_0 v1_1 v1_2 (K : KT ρ) : f91i N (f91c 3223) f91p50 (f91s11 v4 v12 v13 v1_0 v1_1 v1_2) (joinK (some f91l10) K) =
  spec_l1Factors.Z50 N v4 v12 v13 v1_0 v1_1 v1_2 (fun v4 v12 v1_0 v1_1 v1_2 => K .nrm (f91s10 v4 v12 v1_0 v1_1 v1_2)) (fun v2 v3 => K .ret (f91s13 v2 v3)) :=
 viaBlockS (by kernel_rfl) (f91t51 N (K := blockK 10 (joinK (some f91l10) K)) ..) (by kernel_rfl)
noncomputable def f91p48 : Plan := .mk (some f91l11) none .n f91p50
theorem f91t48 N v4 v12 v1_0 v1_1 v1_2 (K : KT ρ) : f91i N (f91c 1175) f91p48 (f91s10 v4 v12 v1_0 v1_1 v1_2) (joinK (some f91l10) K) =
  spec_l1Factors.Z48 N v4 v12 v1_0 v1_1 v1_2 (fun v4 v12 v1_0 v1_1 v1_2 => K .nrm (f91s10 v4 v12 v1_0 v1_1 v1_2)) (fun v2 v3 => K .ret (f91s13 v2 v3)) :=
 viaSeqS (fun k => spec_l1Factors.Z49 N v4 v12 v1_0 v1_1 v1_2 k) (by kernel_rfl) (f91t49 N (K := seqK (fun σ => f91i N (f91c 3223) f91p50 σ (joinK (some f91l10) K)) (joinK (some f91l10) K)) ..) (fx6 fun v4 v12 v13 v1_0 v1_1 v1_2 => f91t50 N v4 v12 v13 v1_0 v1_1 v1_2 K) (by kernel_rfl)
noncomputable def f91p47 : Plan := .mk (some f91l10) none f91p48 .n
theorem f91t47 N v4 v12 v1_0 v1_1 v1_2 (K : KT ρ) : f91i N (f91c 663) f91p47 (f91s10 v4 v12 v1_0 v1_1 v1_2) (joinK (some f91l10) K) =
  spec_l1Factors.Z47 N v4 v12 v1_0 v1_1 v1_2 (fun v4 v12 v1_0 v1_1 v1_2 => K .nrm (f91s10 v4 v12 v1_0 v1_1 v1_2)) (fun v2 v3 => K .ret (f91s13 v2 v3)) :=
 viaBlockS (by kernel_rfl) (f91t48 N (K := blockK 9 (joinK (some f91l10) K)) ..) (by kernel_rfl)
theorem f91t53 N v4 v12 v1_0 v1_1 v1_2 (K : KT ρ) : f91i N (f91c 919) .n (f91s10 v4 v12 v1_0 v1_1 v1_2) (joinK (some f91l10) K) =
  spec_l1Factors.Z53 N v4 v12 v1_0 v1_1 v1_2 (fun v4 v12 v1_0 v1_1 v1_2 => K .nrm (f91s10 v4 v12 v1_0 v1_1 v1_2)) := by kernel_rfl
noncomputable def f91p46 : Plan := .mk (some f91l10) none f91p47 .n
theorem f91t46 N v4 v12 v1_0 v1_1 v1_2 (K : KT ρ) : f91i N (f91c 407) f91p46 (f91s10 v4 v12 v1_0 v1_1 v1_2) (joinK (some f91l10) K) =
  spec_l1Factors.Z46 N v4 v12 v1_0 v1_1 v1_2 (fun v4 v12 v1_0 v1_1 v1_2 => K .nrm (f91s10 v4 v12 v1_0 v1_1 v1_2)) (fun v2 v3 => K .ret (f91s13 v2 v3)) :=
 viaSeqS (fun k => spec_l1Factors.Z47 N v4 v12 v1_0 v1_1 v1_2 k (fun v2 v3 => K .ret (f91s13 v2 v3))) (by kernel_rfl) (f91t47 N (K := seqK (fun σ => f91i N (f91c 919) .n σ (joinK (some f91l10) K)) (joinK (some f91l10) K)) ..) (fx5 fun v4 v12 v1_0 v1_1 v1_2 => f91t53 N v4 v12 v1_0 v1_1 v1_2 K) (by kernel_rfl)
noncomputable def f91p44 : Plan := .mk (some f91l10) none .n f91p46
theorem f91t44 N v4 v12 v1_0 v1_1 v1_2 (K : KT ρ) : f91i N (f91c 151) f91p44 (f91s10 v4 v12 v1_0 v1_1 v1_2) (joinK (some f91l10) K) =
  spec_l1Factors.Z44 N v4 v12 v1_0 v1_1 v1_2 (fun v4 v12 v1_0 v1_1 v1_2 => K .nrm (f91s10 v4 v12 v1_0 v1_1 v1_2)) (fun v4 => K (.exit 8) (f91s12 v4)) (fun v2 v3 => K .ret (f91s13 v2 v3)) :=
 viaSeqS (fun k => spec_l1Factors.Z45 N v4 v12 v1_0 v1_1 v1_2 k (fun v4 => K (.exit 8) (f91s12 v4))) (by kernel_rfl) (f91t45 N (K := seqK (fun σ => f91i N (f91c 407) f91p46 σ (joinK (some f91l10) K)) (joinK (some f91l10) K)) ..) (fx5 fun v4 v12 v1_0 v1_1 v1_2 => f91t46 N v4 v12 v1_0 v1_1 v1_2 K) (by kernel_rfl)
noncomputable def f91p43 : Plan := .mk none (some f91l10) f91p44 .n
noncomputable abbrev f91w43 {ρ : Type} (N M : Nat) (σ : St) (K : KT ρ) : Option ρ := loopC (fun σ K => f91i N (f91c 151) f91p44 σ K) f91l10 M σ K
theorem f91t43L {ρ : Type} (N : Nat) (K : KT ρ) : ∀ (M : Nat) (v4 : LI) (v12 v1_0 v1_1 : Int) (v1_2 : LI), f91w43 N M (f91s10 v4 v12 v1_0 v1_1 v1_2) K =
  spec_l1Factors.Z43L N (fun v4 => K (.exit 8) (f91s12 v4)) (fun v2 v3 => K .ret (f91s13 v2 v3)) M v4 v12 v1_0 v1_1 v1_2
  | 0, _, _, _, _, _ => rfl
  | M + 1, v4, v12, v1_0, v1_1, v1_2 => viaRoundS (fun k => spec_l1Factors.Z44 N v4 v12 v1_0 v1_1 v1_2 k (fun v4 => K (.exit 8) (f91s12 v4)) (fun v2 v3 => K .ret (f91s13 v2 v3))) (f91t44 N (K := seqK (fun σ => f91w43 N M σ K) K) ..) (fx5 fun v4 v12 v1_0 v1_1 v1_2 => f91t43L N K M v4 v12 v1_0 v1_1 v1_2) (by kernel_rfl)
theorem f91t43 N v4 v12 v1_0 v1_1 v1_2 (K : KT ρ) : f91i N (f91c 87) f91p43 (f91s10 v4 v12 v1_0 v1_1 v1_2) (joinK (some f91l12) K) =
  spec_l1Factors.Z43 N v4 v12 v1_0 v1_1 v1_2 (fun v4 => K (.exit 8) (f91s12 v4)) (fun v2 v3 => K .ret (f91s13 v2 v3)) :=
 viaLoopS (by kernel_rfl) (f91t43L N (joinK (some f91l12) K) N v4 v12 v1_0 v1_1 v1_2) (by kernel_rfl)
noncomputable def f91p42 : Plan := .mk (some f91l12) none f91p43 .n
theorem f91t42 N v4 v12 v1_0 v1_1 v1_2 (K : KT ρ) : f91i N (f91c 55) f91p42 (f91s10 v4 v12 v1_0 v1_1 v1_2) (joinK (some f91l12) K) =
  spec_l1Factors.Z42 N v4 v12 v1_0 v1_1 v1_2 (fun v4 => K .nrm (f91s12 v4)) (fun v2 v3 => K .ret (f91s13 v2 v3)) :=
 viaBlockS (by kernel_rfl) (f91t43 N (K := blockK 8 (joinK (some f91l12) K)) ..) (by kernel_rfl)
noncomputable def f91p40 : Plan := .mk (some f91l10) none .n f91p42
theorem f91t40 N v4 v1_0 v1_1 v1_2 (K : KT ρ) : f91i N (f91c 23) f91p40 (f91s2 v4 v1_0 v1_1 v1_2) (joinK (some f91l12) K) =
  spec_l1Factors.Z40 N v4 v1_0 v1_1 v1_2 (fun v4 => K .nrm (f91s12 v4)) (fun v2 v3 => K .ret (f91s13 v2 v3)) :=
 viaSeqS (fun k => spec_l1Factors.Z41 N v4 v1_0 v1_1 v1_2 k) (by kernel_rfl) (f91t41 N (K := seqK (fun σ => f91i N (f91c 55) f91p42 σ (joinK (some f91l12) K)) (joinK (some f91l12) K)) ..) (fx5 fun v4 v12 v1_0 v1_1 v1_2 => f91t42 N v4 v12 v1_0 v1_1 v1_2 K) (by kernel_rfl)
theorem f91t54 N v4 (K : KT ρ) : f91i N (f91c 31) .n (f91s12 v4) (joinK (some f91lE) K) =
  spec_l1Factors.Z54 N v4 (fun v2 v3 => K .ret (f91s13 v2 v3)) := by kernel_rfl
noncomputable def f91p39 : Plan := .mk (some f91l12) none f91p40 .n
theorem f91t39 N v4 v1_0 v1_1 v1_2 (K : KT ρ) : f91i N (f91c 15) f91p39 (f91s2 v4 v1_0 v1_1 v1_2) (joinK (some f91lE) K) =
  spec_l1Factors.Z39 N v4 v1_0 v1_1 v1_2 (fun v2 v3 => K .ret (f91s13 v2 v3)) :=
 viaSeqS (fun k => spec_l1Factors.Z40 N v4 v1_0 v1_1 v1_2 k (fun v2 v3 => K .ret (f91s13 v2 v3))) (by kernel_rfl) (f91t40 N (K := seqK (fun σ => f91i N (f91c 31) .n σ (joinK (some f91lE) K)) (joinK (some f91lE) K)) ..) (funext fun v4 => f91t54 N v4 K) (by kernel_rfl)
noncomputable def f91p4 : Plan := .mk (some f91l2) none f91p5 f91p39
theorem f91t4 N v4 v1_0 v1_1 v1_2 (K : KT ρ) : f91i N (f91c 7) f91p4 (f91s2 v4 v1_0 v1_1 v1_2) (joinK (some f91lE) K) =
  spec_l1Factors.Z4 N v4 v1_0 v1_1 v1_2 (fun v2 v3 => K .ret (f91s13 v2 v3)) :=
 viaSeqS (fun k => spec_l1Factors.Z5 N v4 v1_0 v1_1 v1_2 k) (by kernel_rfl) (f91t5 N (K := seqK (fun σ => f91i N (f91c 15) f91p39 σ (joinK (some f91lE) K)) (joinK (some f91lE) K)) ..) (fx4 fun v4 v1_0 v1_1 v1_2 => f91t39 N v4 v1_0 v1_1 v1_2 K) (by kernel_rfl)
noncomputable def f91p2 : Plan := .mk (some f91l2) none .n f91p4
theorem f91t2 N v1_0 v1_1 v1_2 (K : KT ρ) : f91i N (f91c 3) f91p2 (f91s1 v1_0 v1_1 v1_2) (joinK (some f91lE) K) =
  spec_l1Factors.Z2 N v1_0 v1_1 v1_2 (fun v2 v3 => K .ret (f91s13 v2 v3)) :=
 viaSeqS (fun k => spec_l1Factors.Z3 N v1_0 v1_1 v1_2 k) (by kernel_rfl) (f91t3 N (K := seqK (fun σ => f91i N (f91c 7) f91p4 σ (joinK (some f91lE) K)) (joinK (some f91lE) K)) ..) (fx4 fun v4 v1_0 v1_1 v1_2 => f91t4 N v4 v1_0 v1_1 v1_2 K) (by kernel_rfl)
noncomputable def f91p0 : Plan := .mk (some f91l1) none .n f91p2
theorem f91t0 N v0 (K : KT ρ) : f91i N (f91c 1) f91p0 (f91s0 v0) (joinK (some f91lE) K) =
  spec_l1Factors.Z0 N v0 (fun v2 v3 => K .ret (f91s13 v2 v3)) :=
 viaSeqS (fun k => spec_l1Factors.Z1 N v0 k) (by kernel_rfl) (f91t1 N (K := seqK (fun σ => f91i N (f91c 3) f91p2 σ (joinK (some f91lE) K)) (joinK (some f91lE) K)) ..) (fx3 fun v1_0 v1_1 v1_2 => f91t2 N v1_0 v1_1 v1_2 K) (by kernel_rfl)
theorem f91m (N : Nat) (v0 : MT) : f91i N (f91c 1) f91p0 (f91s0 v0) (joinK (some f91lE) (finK tab f91sig Tryd.f91.results.toList)) = spec_l1Factors.Z0 N v0 (fun v2 v3 => some ((), (v2, (v3, ())))) :=
  (f91t0 N v0 (finK tab f91sig Tryd.f91.results.toList)).trans (by kernel_rfl)
theorem f91ok (h : spec_l1Factors.Spec) : EntryOk Tryd.prog 91 e91 :=
  entry_of_code (sig := f91sig) (c := (f91c 1)) (pl := f91p0) (je := (some f91lE)) (B := f91B) Tryd.func91 (by kernel_rfl) (by kernel_rfl) (by kernel_rfl) tabOk f91GOk (by kernel_rfl) (by kernel_rfl) (by kernel_rfl) (by kernel_rfl) fun X hb hp => by
    obtain ⟨v0, _⟩ := X
    obtain ⟨N, h⟩ := h v0 hb.1 hp
    exact ⟨N, (f91m N v0).trans (h N (Nat.le_refl N))⟩
theorem e91ok : EntryOk Tryd.prog 91 e91 := f91ok spec_l1Factors.ok
end Go.Fw
namespace Go.Fw
variable {ρ : Type}
open Go.Proofs
noncomputable def f60sig : Sig := ⟨[⟨.pair (.int .i64) (.pair (.int .i64) (.sl 3 (.int .i64))), true, false⟩], [⟨.bool, false, false⟩]⟩
noncomputable def e60 : Entry := ⟨f60sig, none, fun X => ((), ((spec_MatrixOk.g X.1), ()))⟩
noncomputable def f60G : Gm := addG (addG emptyG 90 e90) 91 e91
theorem f60GOk : GOk Tryd.prog f60G := ((GOk.nil).add e90ok (by kernel_rfl)).add e91ok (by kernel_rfl)
noncomputable def f60lE : Clean := ⟨[], [], [], [], []⟩
noncomputable def f60s0 (v0 : MT) : St := initSt f60sig.ps (v0, ())
noncomputable def f60s1 (v2 : Bool) : St := stOf [(2, xB v2)] [] []
noncomputable def f60l1 : Clean := ⟨[2], [], [], [], []⟩
noncomputable def f60B : Nat → Option Clean := lookL [(1000000, f60l1)]
noncomputable abbrev f60i {ρ : Type} (N : Nat) (c : Code) (p : Plan) (σ : St) (K : KT ρ) : Option ρ := iCode f60G tab f60B N c p σ K
noncomputable def f60c (n : Nat) : Code := codeN 99 (bodyOf Tryd.f60) n
theorem f60t0 N v0 (K : KT ρ) : f60i N (f60c 1) .n (f60s0 v0) (joinK (some f60lE) K) =
  spec_MatrixOk.Z0 N v0 (fun v2 => K .ret (f60s1 v2)) := by kernel_rfl
theorem f60m (N : Nat) (v0 : MT) : f60i N (f60c 1) .n (f60s0 v0) (joinK (some f60lE) (finK tab f60sig Tryd.f60.results.toList)) = spec_MatrixOk.Z0 N v0 (fun v2 => some ((), (v2, ()))) :=
  (f60t0 N v0 (finK tab f60sig Tryd.f60.results.toList)).trans (by kernel_rfl)
theorem f60ok (h : spec_MatrixOk.Spec) : EntryOk Tryd.prog 60 e60 :=
  entry_of_code (sig := f60sig) (c := (f60c 1)) (pl := .n) (je := (some f60lE)) (B := f60B) Tryd.func60 (by kernel_rfl) (by kernel_rfl) (by kernel_rfl) tabOk f60GOk (by kernel_rfl) (by kernel_rfl) (by kernel_rfl) (by kernel_rfl) fun X hb hp => by
    obtain ⟨v0, _⟩ := X
    obtain ⟨N, h⟩ := h v0 hb.1
    exact ⟨N, (f60m N v0).trans (h N (Nat.le_refl N))⟩
theorem e60ok : EntryOk Tryd.prog 60 e60 := f60ok spec_MatrixOk.ok
end Go.Fw
namespace Go.Fw
variable {ρ : Type}
open Go.Proofs
noncomputable def f61sig : Sig := ⟨[⟨.sl 3 (.int .i64), false, false⟩], [⟨.str, false, false⟩]⟩
noncomputable def e61 : Entry := ⟨f61sig, (some fun X => spec_FormatInts.P X.1), fun X => ((), ((spec_FormatInts.g X.1), ()))⟩
noncomputable def f61G : Gm := addG emptyG 56 e56
theorem f61GOk : GOk Tryd.prog f61G := (GOk.nil).add e56ok (by kernel_rfl)
noncomputable def f61lE : Clean := ⟨[], [], [], [], []⟩
noncomputable def f61s0 (v0 : LI) : St := initSt f61sig.ps (v0, ())
noncomputable def f61s1 (v0 : LI) : St := stOf [(0, .c (.sn 3 tI v0 none))] [] []
noncomputable def f61l1 : Clean := ⟨[0], [], [], [], []⟩
noncomputable def f61s2 (v0 : LI) (v3 : ByteArray) : St := stOf [(0, .c (.sn 3 tI v0 none)), (3, .c (.str v3))] [] []
noncomputable def f61l2 : Clean := ⟨[0, 3], [], [], [], []⟩
noncomputable def f61s3 (v0 : LI) (v3 : ByteArray) (v4 : Int) : St := stOf [(0, .c (.sn 3 tI v0 none)), (3, .c (.str v3)), (4, xi v4)] [] []
noncomputable def f61l3 : Clean := ⟨[0, 3, 4], [], [], [], []⟩
noncomputable def f61s4 (v3 : ByteArray) : St := stOf [(3, .c (.str v3))] [] []
noncomputable def f61l4 : Clean := ⟨[3], [], [], [], []⟩
noncomputable def f61s5 (v2 : ByteArray) : St := stOf [(2, .c (.str v2))] [] []
noncomputable def f61l5 : Clean := ⟨[2], [], [], [], []⟩
noncomputable def f61B : Nat → Option Clean := lookL [(0, f61l4), (1000000, f61l5)]
noncomputable abbrev f61i {ρ : Type} (N : Nat) (c : Code) (p : Plan) (σ : St) (K : KT ρ) : Option ρ := iCode f61G tab f61B N c p σ K
noncomputable def f61c (n : Nat) : Code := codeN 99 (bodyOf Tryd.f61) n
theorem f61t1 N v0 (K : KT ρ) : f61i N (f61c 2) .n (f61s0 v0) (joinK (some f61l1) K) =
  spec_FormatInts.Z1 N v0 (fun v0 => K .nrm (f61s1 v0)) := by kernel_rfl
theorem f61t3 N v0 (K : KT ρ) : f61i N (f61c 5) .n (f61s1 v0) (joinK (some f61l2) K) =
  spec_FormatInts.Z3 N v0 (fun v0 v3 => K .nrm (f61s2 v0 v3)) := by kernel_rfl
theorem f61t6 N v0 v3 (K : KT ρ) : f61i N (f61c 19) .n (f61s2 v0 v3) (joinK (some f61l3) K) =
  spec_FormatInts.Z6 N v0 v3 (fun v0 v3 v4 => K .nrm (f61s3 v0 v3 v4)) := by kernel_rfl
theorem f61t9 N v0 v3 v4 (K : KT ρ) : f61i N (f61c 75) .n (f61s3 v0 v3 v4) (joinK (some f61l3) K) =
  spec_FormatInts.Z9 N v0 v3 v4 (fun v0 v3 v4 => K .nrm (f61s3 v0 v3 v4)) (fun v3 => K (.exit 0) (f61s4 v3)) := by kernel_rfl
noncomputable def f61p8 : Plan := .mk none (some f61l3) .n .n
noncomputable abbrev f61w8 {ρ : Type} (N M : Nat) (σ : St) (K : KT ρ) : Option ρ := loopC (fun σ K => f61i N (f61c 75) .n σ K) f61l3 M σ K
theorem f61t8L {ρ : Type} (N : Nat) (K : KT ρ) : ∀ (M : Nat) (v0 : LI) (v3 : ByteArray) (v4 : Int), f61w8 N M (f61s3 v0 v3 v4) K =
  spec_FormatInts.Z8L N (fun v3 => K (.exit 0) (f61s4 v3)) M v0 v3 v4
  | 0, _, _, _ => rfl
  | M + 1, v0, v3, v4 => viaRoundS (fun k => spec_FormatInts.Z9 N v0 v3 v4 k (fun v3 => K (.exit 0) (f61s4 v3))) (f61t9 N (K := seqK (fun σ => f61w8 N M σ K) K) ..) (fx3 fun v0 v3 v4 => f61t8L N K M v0 v3 v4) (by kernel_rfl)
theorem f61t8 N v0 v3 v4 (K : KT ρ) : f61i N (f61c 43) f61p8 (f61s3 v0 v3 v4) (joinK (some f61l4) K) =
  spec_FormatInts.Z8 N v0 v3 v4 (fun v3 => K (.exit 0) (f61s4 v3)) :=
 viaLoopS (by kernel_rfl) (f61t8L N (joinK (some f61l4) K) N v0 v3 v4) (by kernel_rfl)
noncomputable def f61p7 : Plan := .mk (some f61l4) none f61p8 .n
theorem f61t7 N v0 v3 v4 (K : KT ρ) : f61i N (f61c 27) f61p7 (f61s3 v0 v3 v4) (joinK (some f61l4) K) =
  spec_FormatInts.Z7 N v0 v3 v4 (fun v3 => K .nrm (f61s4 v3)) :=
 viaBlockS (by kernel_rfl) (f61t8 N (K := blockK 0 (joinK (some f61l4) K)) ..) (by kernel_rfl)
noncomputable def f61p5 : Plan := .mk (some f61l3) none .n f61p7
theorem f61t5 N v0 v3 (K : KT ρ) : f61i N (f61c 11) f61p5 (f61s2 v0 v3) (joinK (some f61l4) K) =
  spec_FormatInts.Z5 N v0 v3 (fun v3 => K .nrm (f61s4 v3)) :=
 viaSeqS (fun k => spec_FormatInts.Z6 N v0 v3 k) (by kernel_rfl) (f61t6 N (K := seqK (fun σ => f61i N (f61c 27) f61p7 σ (joinK (some f61l4) K)) (joinK (some f61l4) K)) ..) (fx3 fun v0 v3 v4 => f61t7 N v0 v3 v4 K) (by kernel_rfl)
theorem f61t10 N v3 (K : KT ρ) : f61i N (f61c 15) .n (f61s4 v3) (joinK (some f61lE) K) =
  spec_FormatInts.Z10 N v3 (fun v2 => K .ret (f61s5 v2)) := by kernel_rfl
noncomputable def f61p4 : Plan := .mk (some f61l4) none f61p5 .n
theorem f61t4 N v0 v3 (K : KT ρ) : f61i N (f61c 7) f61p4 (f61s2 v0 v3) (joinK (some f61lE) K) =
  spec_FormatInts.Z4 N v0 v3 (fun v2 => K .ret (f61s5 v2)) :=
 viaSeqS (fun k => spec_FormatInts.Z5 N v0 v3 k) (by kernel_rfl) (f61t5 N (K := seqK (fun σ => f61i N (f61c 15) .n σ (joinK (some f61lE) K)) (joinK (some f61lE) K)) ..) (funext fun v3 => f61t10 N v3 K) (by kernel_rfl)
noncomputable def f61p2 : Plan := .mk (some f61l2) none .n f61p4
theorem f61t2 N v0 (K : KT ρ) : f61i N (f61c 3) f61p2 (f61s1 v0) (joinK (some f61lE) K) =
  spec_FormatInts.Z2 N v0 (fun v2 => K .ret (f61s5 v2)) :=
 viaSeqS (fun k => spec_FormatInts.Z3 N v0 k) (by kernel_rfl) (f61t3 N (K := seqK (fun σ => f61i N (f61c 7) f61p4 σ (joinK (some f61lE) K)) (joinK (some f61lE) K)) ..) (fx2 fun v0 v3 => f61t4 N v0 v3 K) (by kernel_rfl)
noncomputable def f61p0 : Plan := .mk (some f61l1) none .n f61p2
theorem f61t0 N v0 (K : KT ρ) : f61i N (f61c 1) f61p0 (f61s0 v0) (joinK (some f61lE) K) =
  spec_FormatInts.Z0 N v0 (fun v2 => K .ret (f61s5 v2)) :=
 viaSeqS (fun k => spec_FormatInts.Z1 N v0 k) (by kernel_rfl) (f61t1 N (K := seqK (fun σ => f61i N (f61c 3) f61p2 σ (joinK (some f61lE) K)) (joinK (some f61lE) K)) ..) (funext fun v0 => f61t2 N v0 K) (by kernel_rfl)
theorem f61m (N : Nat) (v0 : LI) : f61i N (f61c 1) f61p0 (f61s0 v0) (joinK (some f61lE) (finK tab f61sig Tryd.f61.results.toList)) = spec_FormatInts.Z0 N v0 (fun v2 => some ((), (v2, ()))) :=
  (f61t0 N v0 (finK tab f61sig Tryd.f61.results.toList)).trans (by kernel_rfl)
theorem f61ok (h : spec_FormatInts.Spec) : EntryOk Tryd.prog 61 e61 :=
  entry_of_code (sig := f61sig) (c := (f61c 1)) (pl := f61p0) (je := (some f61lE)) (B := f61B) Tryd.func61 (by kernel_rfl) (by kernel_rfl) (by kernel_rfl) tabOk f61GOk (by kernel_rfl) (by kernel_rfl) (by kernel_rfl) (by kernel_rfl) fun X hb hp => by
    obtain ⟨v0, _⟩ := X
    obtain ⟨N, h⟩ := h v0 hb.1 hp
    exact ⟨N, (f61m N v0).trans (h N (Nat.le_refl N))⟩
theorem e61ok : EntryOk Tryd.prog 61 e61 := f61ok spec_FormatInts.ok
end Go.Fw
namespace Go.Fw
variable {ρ : Type}
open Go.Proofs
noncomputable def f35sig : Sig := ⟨[⟨.pair (.int .i64) (.pair (.int .i64) (.sl 3 (.int .i64))), true, false⟩], [⟨.str, false, false⟩]⟩
noncomputable def e35 : Entry := ⟨f35sig, none, fun X => ((), ((spec_FormatMatrix.g X.1), ()))⟩
noncomputable def f35G : Gm := addG (addG emptyG 60 e60) 61 e61
theorem f35GOk : GOk Tryd.prog f35G := ((GOk.nil).add e60ok (by kernel_rfl)).add e61ok (by kernel_rfl)
noncomputable def f35lE : Clean := ⟨[], [], [], [], []⟩
noncomputable def f35s0 (v0 : MT) : St := initSt f35sig.ps (v0, ())
noncomputable def f35s1 (v1_0 v1_1 : Int) (v1_2 : LI) : St := stOf [(1, xb 1)] [(1, (29, [yi v1_0, yi v1_1, .sn 3 tI v1_2 none]))] []
noncomputable def f35l1 : Clean := ⟨[1], [1], [], [], []⟩
noncomputable def f35s2 (v3 : ByteArray) (v1_0 v1_1 : Int) (v1_2 : LI) : St := stOf [(1, xb 1), (3, .c (.str v3))] [(1, (29, [yi v1_0, yi v1_1, .sn 3 tI v1_2 none]))] []
noncomputable def f35l2 : Clean := ⟨[1, 3], [1], [], [], []⟩
noncomputable def f35s3 (v3 : ByteArray) (v4 v1_0 v1_1 : Int) (v1_2 : LI) : St := stOf [(1, xb 1), (3, .c (.str v3)), (4, xi v4)] [(1, (29, [yi v1_0, yi v1_1, .sn 3 tI v1_2 none]))] []
noncomputable def f35l3 : Clean := ⟨[1, 3, 4], [1], [], [], []⟩
noncomputable def f35s4 (v3 : ByteArray) : St := stOf [(3, .c (.str v3))] [] []
noncomputable def f35l4 : Clean := ⟨[3], [], [], [], []⟩
noncomputable def f35s5 (v2 : ByteArray) : St := stOf [(2, .c (.str v2))] [] []
noncomputable def f35l5 : Clean := ⟨[2], [], [], [], []⟩
noncomputable def f35B : Nat → Option Clean := lookL [(0, f35l4), (1000000, f35l5)]
noncomputable abbrev f35i {ρ : Type} (N : Nat) (c : Code) (p : Plan) (σ : St) (K : KT ρ) : Option ρ := iCode f35G tab f35B N c p σ K
noncomputable def f35c (n : Nat) : Code := codeN 99 (bodyOf Tryd.f35) n
theorem f35t1 N v0 (K : KT ρ) : f35i N (f35c 2) .n (f35s0 v0) (joinK (some f35l1) K) =
  spec_FormatMatrix.Z1 N v0 (fun v1_0 v1_1 v1_2 => K .nrm (f35s1 v1_0 v1_1 v1_2)) := by kernel_rfl
theorem f35t3 N v1_0 v1_1 v1_2 (K : KT ρ) : f35i N (f35c 5) .n (f35s1 v1_0 v1_1 v1_2) (joinK (some f35l1) K) =
  spec_FormatMatrix.Z3 N v1_0 v1_1 v1_2 (fun v1_0 v1_1 v1_2 => K .nrm (f35s1 v1_0 v1_1 v1_2)) (fun v2 => K .ret (f35s5 v2)) := by kernel_rfl
theorem f35t5 N v1_0 v1_1 v1_2 (K : KT ρ) : f35i N (f35c 11) .n (f35s1 v1_0 v1_1 v1_2) (joinK (some f35l2) K) =
  spec_FormatMatrix.Z5 N v1_0 v1_1 v1_2 (fun v3 v1_0 v1_1 v1_2 => K .nrm (f35s2 v3 v1_0 v1_1 v1_2)) := by kernel_rfl
theorem f35t8 N v3 v1_0 v1_1 v1_2 (K : KT ρ) : f35i N (f35c 39) .n (f35s2 v3 v1_0 v1_1 v1_2) (joinK (some f35l3) K) =
  spec_FormatMatrix.Z8 N v3 v1_0 v1_1 v1_2 (fun v3 v4 v1_0 v1_1 v1_2 => K .nrm (f35s3 v3 v4 v1_0 v1_1 v1_2)) := by kernel_rfl
theorem f35t11 N v3 v4 v1_0 v1_1 v1_2 (K : KT ρ) : f35i N (f35c 151) .n (f35s3 v3 v4 v1_0 v1_1 v1_2) (joinK (some f35l3) K) =
  spec_FormatMatrix.Z11 N v3 v4 v1_0 v1_1 v1_2 (fun v3 v4 v1_0 v1_1 v1_2 => K .nrm (f35s3 v3 v4 v1_0 v1_1 v1_2)) (fun v3 => K (.exit 0) (f35s4 v3)) := by kernel_rfl
noncomputable def f35p10 : Plan := .mk none (some f35l3) .n .n
noncomputable abbrev f35w10 {ρ : Type} (N M : Nat) (σ : St) (K : KT ρ) : Option ρ := loopC (fun σ K => f35i N (f35c 151) .n σ K) f35l3 M σ K
theorem f35t10L {ρ : Type} (N : Nat) (K : KT ρ) : ∀ (M : Nat) (v3 : ByteArray) (v4 v1_0 v1_1 : Int) (v1_2 : LI), f35w10 N M (f35s3 v3 v4 v1_0 v1_1 v1_2) K =
  spec_FormatMatrix.Z10L N (fun v3 => K (.exit 0) (f35s4 v3)) M v3 v4 v1_0 v1_1 v1_2
  | 0, _, _, _, _, _ => rfl
  | M + 1, v3, v4, v1_0, v1_1, v1_2 => viaRoundS (fun k => spec_FormatMatrix.Z11 N v3 v4 v1_0 v1_1 v1_2 k (fun v3 => K (.exit 0) (f35s4 v3))) (f35t11 N (K := seqK (fun σ => f35w10 N M σ K) K) ..) (fx5 fun v3 v4 v1_0 v1_1 v1_2 => f35t10L N K M v3 v4 v1_0 v1_1 v1_2) (by kernel_rfl)
theorem f35t10 N v3 v4 v1_0 v1_1 v1_2 (K : KT ρ) : f35i N (f35c 87) f35p10 (f35s3 v3 v4 v1_0 v1_1 v1_2) (joinK (some f35l4) K) =
  spec_FormatMatrix.Z10 N v3 v4 v1_0 v1_1 v1_2 (fun v3 => K (.exit 0) (f35s4 v3)) :=
 viaLoopS (by kernel_rfl) (f35t10L N (joinK (some f35l4) K) N v3 v4 v1_0 v1_1 v1_2) (by kernel_rfl)
noncomputable def f35p9 : Plan := .mk (some f35l4) none f35p10 .n
theorem f35t9 N v3 v4 v1_0 v1_1 v1_2 (K : KT ρ) : f35i N (f35c 55) f35p9 (f35s3 v3 v4 v1_0 v1_1 v1_2) (joinK (some f35l4) K) =
  spec_FormatMatrix.Z9 N v3 v4 v1_0 v1_1 v1_2 (fun v3 => K .nrm (f35s4 v3)) :=
 viaBlockS (by kernel_rfl) (f35t10 N (K := blockK 0 (joinK (some f35l4) K)) ..) (by kernel_rfl)
noncomputable def f35p7 : Plan := .mk (some f35l3) none .n f35p9
theorem f35t7 N v3 v1_0 v1_1 v1_2 (K : KT ρ) : f35i N (f35c 23) f35p7 (f35s2 v3 v1_0 v1_1 v1_2) (joinK (some f35l4) K) =
  spec_FormatMatrix.Z7 N v3 v1_0 v1_1 v1_2 (fun v3 => K .nrm (f35s4 v3)) :=
 viaSeqS (fun k => spec_FormatMatrix.Z8 N v3 v1_0 v1_1 v1_2 k) (by kernel_rfl) (f35t8 N (K := seqK (fun σ => f35i N (f35c 55) f35p9 σ (joinK (some f35l4) K)) (joinK (some f35l4) K)) ..) (fx5 fun v3 v4 v1_0 v1_1 v1_2 => f35t9 N v3 v4 v1_0 v1_1 v1_2 K) (by kernel_rfl)
theorem f35t12 N v3 (K : KT ρ) : f35i N (f35c 31) .n (f35s4 v3) (joinK (some f35lE) K) =
  spec_FormatMatrix.Z12 N v3 (fun v2 => K .ret (f35s5 v2)) := by kernel_rfl
noncomputable def f35p6 : Plan := .mk (some f35l4) none f35p7 .n
theorem f35t6 N v3 v1_0 v1_1 v1_2 (K : KT ρ) : f35i N (f35c 15) f35p6 (f35s2 v3 v1_0 v1_1 v1_2) (joinK (some f35lE) K) =
  spec_FormatMatrix.Z6 N v3 v1_0 v1_1 v1_2 (fun v2 => K .ret (f35s5 v2)) :=
 viaSeqS (fun k => spec_FormatMatrix.Z7 N v3 v1_0 v1_1 v1_2 k) (by kernel_rfl) (f35t7 N (K := seqK (fun σ => f35i N (f35c 31) .n σ (joinK (some f35lE) K)) (joinK (some f35lE) K)) ..) (funext fun v3 => f35t12 N v3 K) (by kernel_rfl)
noncomputable def f35p4 : Plan := .mk (some f35l2) none .n f35p6
theorem f35t4 N v1_0 v1_1 v1_2 (K : KT ρ) : f35i N (f35c 7) f35p4 (f35s1 v1_0 v1_1 v1_2) (joinK (some f35lE) K) =
  spec_FormatMatrix.Z4 N v1_0 v1_1 v1_2 (fun v2 => K .ret (f35s5 v2)) :=
 viaSeqS (fun k => spec_FormatMatrix.Z5 N v1_0 v1_1 v1_2 k) (by kernel_rfl) (f35t5 N (K := seqK (fun σ => f35i N (f35c 15) f35p6 σ (joinK (some f35lE) K)) (joinK (some f35lE) K)) ..) (fx4 fun v3 v1_0 v1_1 v1_2 => f35t6 N v3 v1_0 v1_1 v1_2 K) (by kernel_rfl)
noncomputable def f35p2 : Plan := .mk (some f35l1) none .n f35p4
theorem f35t2 N v1_0 v1_1 v1_2 (K : KT ρ) : f35i N (f35c 3) f35p2 (f35s1 v1_0 v1_1 v1_2) (joinK (some f35lE) K) =
  spec_FormatMatrix.Z2 N v1_0 v1_1 v1_2 (fun v2 => K .ret (f35s5 v2)) :=
 viaSeqS (fun k => spec_FormatMatrix.Z3 N v1_0 v1_1 v1_2 k (fun v2 => K .ret (f35s5 v2))) (by kernel_rfl) (f35t3 N (K := seqK (fun σ => f35i N (f35c 7) f35p4 σ (joinK (some f35lE) K)) (joinK (some f35lE) K)) ..) (fx3 fun v1_0 v1_1 v1_2 => f35t4 N v1_0 v1_1 v1_2 K) (by kernel_rfl)
noncomputable def f35p0 : Plan := .mk (some f35l1) none .n f35p2
theorem f35t0 N v0 (K : KT ρ) : f35i N (f35c 1) f35p0 (f35s0 v0) (joinK (some f35lE) K) =
  spec_FormatMatrix.Z0 N v0 (fun v2 => K .ret (f35s5 v2)) :=
 viaSeqS (fun k => spec_FormatMatrix.Z1 N v0 k) (by kernel_rfl) (f35t1 N (K := seqK (fun σ => f35i N (f35c 3) f35p2 σ (joinK (some f35lE) K)) (joinK (some f35lE) K)) ..) (fx3 fun v1_0 v1_1 v1_2 => f35t2 N v1_0 v1_1 v1_2 K) (by kernel_rfl)
theorem f35m (N : Nat) (v0 : MT) : f35i N (f35c 1) f35p0 (f35s0 v0) (joinK (some f35lE) (finK tab f35sig Tryd.f35.results.toList)) = spec_FormatMatrix.Z0 N v0 (fun v2 => some ((), (v2, ()))) :=
  (f35t0 N v0 (finK tab f35sig Tryd.f35.results.toList)).trans (by kernel_rfl)
theorem f35ok (h : spec_FormatMatrix.Spec) : EntryOk Tryd.prog 35 e35 :=
  entry_of_code (sig := f35sig) (c := (f35c 1)) (pl := f35p0) (je := (some f35lE)) (B := f35B) Tryd.func35 (by kernel_rfl) (by kernel_rfl) (by kernel_rfl) tabOk f35GOk (by kernel_rfl) (by kernel_rfl) (by kernel_rfl) (by kernel_rfl) fun X hb hp => by
    obtain ⟨v0, _⟩ := X
    obtain ⟨N, h⟩ := h v0 hb.1
    exact ⟨N, (f35m N v0).trans (h N (Nat.le_refl N))⟩
theorem e35ok : EntryOk Tryd.prog 35 e35 := f35ok spec_FormatMatrix.ok
end Go.Fw
namespace Go.Fw
variable {ρ : Type}
open Go.Proofs
noncomputable def f12sig : Sig := ⟨[⟨.str, false, false⟩], [⟨.pair (.int .i64) (.pair (.int .i64) (.sl 3 (.int .i64))), true, false⟩, ⟨.bool, false, false⟩]⟩
noncomputable def e12 : Entry := ⟨f12sig, (some fun X => spec_ParseMatrix.P X.1), fun X => ((), ((spec_ParseMatrix.g X.1).1, ((spec_ParseMatrix.g X.1).2, ())))⟩
noncomputable def f12G : Gm := addG (addG (addG emptyG 7 e7) 29 e29) 35 e35
theorem f12GOk : GOk Tryd.prog f12G := (((GOk.nil).add e7ok (by kernel_rfl)).add e29ok (by kernel_rfl)).add e35ok (by kernel_rfl)
noncomputable def f12lE : Clean := ⟨[], [], [], [], []⟩
noncomputable def f12s0 (v0 : ByteArray) : St := initSt f12sig.ps (v0, ())
noncomputable def f12s1 (v0 : ByteArray) (v2_0 v2_1 : Int) : St := stOf [(0, .c (.str v0)), (2, xb 2)] [(2, (29, [yi v2_0, yi v2_1, .nil]))] []
noncomputable def f12l1 : Clean := ⟨[0, 2], [2], [], [], []⟩
noncomputable def f12s2 (v4 : List ByteArray) (v0 : ByteArray) (v2_0 v2_1 : Int) : St := stOf [(0, .c (.str v0)), (2, xb 2), (4, xo 1000256)] [(2, (29, [yi v2_0, yi v2_1, .nil]))] [(1000256, (⟨9, .str, v4, true, false⟩ : Row))]
noncomputable def f12l2 : Clean := ⟨[0, 2, 4], [2], [], [], [(⟨false, 4, 0⟩, 1000256)]⟩
noncomputable def f12s3 (v4 : List ByteArray) (v5_2 : LI) (v0 : ByteArray) (v2_0 v2_1 v5_0 v5_1 : Int) : St := stOf [(0, .c (.str v0)), (2, xb 2), (4, xo 1000256), (5, xb 5)] [(2, (29, [yi v2_0, yi v2_1, .nil])), (5, (29, [yi v5_0, yi v5_1, .own 20000322]))] [(1000256, (⟨9, .str, v4, true, false⟩ : Row)), (20000322, (⟨3, .int .i64, v5_2, true, false⟩ : Row))]
noncomputable def f12l3 : Clean := ⟨[0, 2, 4, 5], [2, 5], [], [], [(⟨false, 4, 0⟩, 1000256), (⟨true, 5, 2⟩, 20000322)]⟩
noncomputable def f12s4 (v4 : List ByteArray) (v5_2 : LI) (v0 : ByteArray) (v6 v2_0 v2_1 v5_0 v5_1 : Int) : St := stOf [(0, .c (.str v0)), (2, xb 2), (4, xo 1000256), (5, xb 5), (6, xi v6)] [(2, (29, [yi v2_0, yi v2_1, .nil])), (5, (29, [yi v5_0, yi v5_1, .own 20000322]))] [(1000256, (⟨9, .str, v4, true, false⟩ : Row)), (20000322, (⟨3, .int .i64, v5_2, true, false⟩ : Row))]
noncomputable def f12l4 : Clean := ⟨[0, 2, 4, 5, 6], [2, 5], [], [], [(⟨false, 4, 0⟩, 1000256), (⟨true, 5, 2⟩, 20000322)]⟩
noncomputable def f12s5 (v5_2 : LI) (v0 : ByteArray) (v2_0 v2_1 v5_0 v5_1 : Int) : St := stOf [(0, .c (.str v0)), (2, xb 2), (5, xb 5)] [(2, (29, [yi v2_0, yi v2_1, .nil])), (5, (29, [yi v5_0, yi v5_1, .own 20000322]))] [(20000322, (⟨3, .int .i64, v5_2, true, false⟩ : Row))]
noncomputable def f12l5 : Clean := ⟨[0, 2, 5], [2, 5], [], [], [(⟨true, 5, 2⟩, 20000322)]⟩
noncomputable def f12s6 (v2_2 : LI) (v3 : Bool) (v2_0 v2_1 : Int) : St := stOf [(2, xb 2), (3, xB v3)] [(2, (29, [yi v2_0, yi v2_1, .own 20000130]))] [(20000130, (⟨3, .int .i64, v2_2, true, false⟩ : Row))]
noncomputable def f12l6 : Clean := ⟨[2, 3], [2], [⟨⟨true, 2, 2⟩, 30000000, 3, .int .i64, true⟩], [], [(⟨true, 2, 2⟩, 20000130)]⟩
noncomputable def f12B : Nat → Option Clean := lookL [(0, f12l5), (1000000, f12l6)]
noncomputable abbrev f12i {ρ : Type} (N : Nat) (c : Code) (p : Plan) (σ : St) (K : KT ρ) : Option ρ := iCode f12G tab f12B N c p σ K
noncomputable def f12c (n : Nat) : Code := codeN 99 (bodyOf Tryd.f12) n
theorem f12t1 N v0 (K : KT ρ) : f12i N (f12c 2) .n (f12s0 v0) (joinK (some f12l1) K) =
  spec_ParseMatrix.Z1 N v0 (fun v0 v2_0 v2_1 => K .nrm (f12s1 v0 v2_0 v2_1)) := by kernel_rfl
theorem f12t3 N v0 v2_0 v2_1 (K : KT ρ) : f12i N (f12c 5) .n (f12s1 v0 v2_0 v2_1) (joinK (some f12l2) K) =
  spec_ParseMatrix.Z3 N v0 v2_0 v2_1 (fun v4 v0 v2_0 v2_1 => K .nrm (f12s2 v4 v0 v2_0 v2_1)) := by kernel_rfl
theorem f12t5 N v4 v0 v2_0 v2_1 (K : KT ρ) : f12i N (f12c 11) .n (f12s2 v4 v0 v2_0 v2_1) (joinK (some f12l3) K) =
  spec_ParseMatrix.Z5 N v4 v0 v2_0 v2_1 (fun v4 v5_2 v0 v2_0 v2_1 v5_0 v5_1 => K .nrm (f12s3 v4 v5_2 v0 v2_0 v2_1 v5_0 v5_1)) := by kernel_rfl
theorem f12t8 N v4 v5_2 v0 v2_0 v2_1 v5_0 v5_1 (K : KT ρ) : f12i N (f12c 39) .n (f12s3 v4 v5_2 v0 v2_0 v2_1 v5_0 v5_1) (joinK (some f12l4) K) =
  spec_ParseMatrix.Z8 N v4 v5_2 v0 v2_0 v2_1 v5_0 v5_1 (fun v4 v5_2 v0 v6 v2_0 v2_1 v5_0 v5_1 => K .nrm (f12s4 v4 v5_2 v0 v6 v2_0 v2_1 v5_0 v5_1)) := by kernel_rfl
theorem f12t11 N v4 v5_2 v0 v6 v2_0 v2_1 v5_0 v5_1 (K : KT ρ) : f12i N (f12c 151) .n (f12s4 v4 v5_2 v0 v6 v2_0 v2_1 v5_0 v5_1) (joinK (some f12l4) K) =
  spec_ParseMatrix.Z11 N v4 v5_2 v0 v6 v2_0 v2_1 v5_0 v5_1 (fun v4 v5_2 v0 v6 v2_0 v2_1 v5_0 v5_1 => K .nrm (f12s4 v4 v5_2 v0 v6 v2_0 v2_1 v5_0 v5_1)) (fun v5_2 v0 v2_0 v2_1 v5_0 v5_1 => K (.exit 0) (f12s5 v5_2 v0 v2_0 v2_1 v5_0 v5_1)) (fun v2_2 v3 v2_0 v2_1 => K .ret (f12s6 v2_2 v3 v2_0 v2_1)) := by kernel_rfl
noncomputable def f12p10 : Plan := .mk none (some f12l4) .n .n
noncomputable abbrev f12w10 {ρ : Type} (N M : Nat) (σ : St) (K : KT ρ) : Option ρ := loopC (fun σ K => f12i N (f12c 151) .n σ K) f12l4 M σ K
theorem f12t10L {ρ : Type} (N : Nat) (K : KT ρ) : ∀ (M : Nat) (v4 : List ByteArray) (v5_2 : LI) (v0 : ByteArray) (v6 v2_0 v2_1 v5_0 v5_1 : Int), f12w10 N M (f12s4 v4 v5_2 v0 v6 v2_0 v2_1 v5_0 v5_1) K =
  spec_ParseMatrix.Z10L N (fun v5_2 v0 v2_0 v2_1 v5_0 v5_1 => K (.exit 0) (f12s5 v5_2 v0 v2_0 v2_1 v5_0 v5_1)) (fun v2_2 v3 v2_0 v2_1 => K .ret (f12s6 v2_2 v3 v2_0 v2_1)) M v4 v5_2 v0 v6 v2_0 v2_1 v5_0 v5_1
  | 0, _, _, _, _, _, _, _, _ => rfl
  | M + 1, v4, v5_2, v0, v6, v2_0, v2_1, v5_0, v5_1 => viaRoundS (fun k => spec_ParseMatrix.Z11 N v4 v5_2 v0 v6 v2_0 v2_1 v5_0 v5_1 k (fun v5_2 v0 v2_0 v2_1 v5_0 v5_1 => K (.exit 0) (f12s5 v5_2 v0 v2_0 v2_1 v5_0 v5_1)) (fun v2_2 v3 v2_0 v2_1 => K .ret (f12s6 v2_2 v3 v2_0 v2_1))) (f12t11 N (K := seqK (fun σ => f12w10 N M σ K) K) ..) (fx8 fun v4 v5_2 v0 v6 v2_0 v2_1 v5_0 v5_1 => f12t10L N K M v4 v5_2 v0 v6 v2_0 v2_1 v5_0 v5_1) (by kernel_rfl)
theorem f12t10 N v4 v5_2 v0 v6 v2_0 v2_1 v5_0 v5_1 (K : KT ρ) : f12i N (f12c 87) f12p10 (f12s4 v4 v5_2 v0 v6 v2_0 v2_1 v5_0 v5_1) (joinK (some f12l5) K) =
  spec_ParseMatrix.Z10 N v4 v5_2 v0 v6 v2_0 v2_1 v5_0 v5_1 (fun v5_2 v0 v2_0 v2_1 v5_0 v5_1 => K (.exit 0) (f12s5 v5_2 v0 v2_0 v2_1 v5_0 v5_1)) (fun v2_2 v3 v2_0 v2_1 => K .ret (f12s6 v2_2 v3 v2_0 v2_1)) :=
 viaLoopS (by kernel_rfl) (f12t10L N (joinK (some f12l5) K) N v4 v5_2 v0 v6 v2_0 v2_1 v5_0 v5_1) (by kernel_rfl)
noncomputable def f12p9 : Plan := .mk (some f12l5) none f12p10 .n
theorem f12t9 N v4 v5_2 v0 v6 v2_0 v2_1 v5_0 v5_1 (K : KT ρ) : f12i N (f12c 55) f12p9 (f12s4 v4 v5_2 v0 v6 v2_0 v2_1 v5_0 v5_1) (joinK (some f12l5) K) =
  spec_ParseMatrix.Z9 N v4 v5_2 v0 v6 v2_0 v2_1 v5_0 v5_1 (fun v5_2 v0 v2_0 v2_1 v5_0 v5_1 => K .nrm (f12s5 v5_2 v0 v2_0 v2_1 v5_0 v5_1)) (fun v2_2 v3 v2_0 v2_1 => K .ret (f12s6 v2_2 v3 v2_0 v2_1)) :=
 viaBlockS (by kernel_rfl) (f12t10 N (K := blockK 0 (joinK (some f12l5) K)) ..) (by kernel_rfl)
noncomputable def f12p7 : Plan := .mk (some f12l4) none .n f12p9
theorem f12t7 N v4 v5_2 v0 v2_0 v2_1 v5_0 v5_1 (K : KT ρ) : f12i N (f12c 23) f12p7 (f12s3 v4 v5_2 v0 v2_0 v2_1 v5_0 v5_1) (joinK (some f12l5) K) =
  spec_ParseMatrix.Z7 N v4 v5_2 v0 v2_0 v2_1 v5_0 v5_1 (fun v5_2 v0 v2_0 v2_1 v5_0 v5_1 => K .nrm (f12s5 v5_2 v0 v2_0 v2_1 v5_0 v5_1)) (fun v2_2 v3 v2_0 v2_1 => K .ret (f12s6 v2_2 v3 v2_0 v2_1)) :=
 viaSeqS (fun k => spec_ParseMatrix.Z8 N v4 v5_2 v0 v2_0 v2_1 v5_0 v5_1 k) (by kernel_rfl) (f12t8 N (K := seqK (fun σ => f12i N (f12c 55) f12p9 σ (joinK (some f12l5) K)) (joinK (some f12l5) K)) ..) (fx8 fun v4 v5_2 v0 v6 v2_0 v2_1 v5_0 v5_1 => f12t9 N v4 v5_2 v0 v6 v2_0 v2_1 v5_0 v5_1 K) (by kernel_rfl)
theorem f12t12 N v5_2 v0 v2_0 v2_1 v5_0 v5_1 (K : KT ρ) : f12i N (f12c 31) .n (f12s5 v5_2 v0 v2_0 v2_1 v5_0 v5_1) (joinK (some f12lE) K) =
  spec_ParseMatrix.Z12 N v5_2 v0 v2_0 v2_1 v5_0 v5_1 (fun v2_2 v3 v2_0 v2_1 => K .ret (f12s6 v2_2 v3 v2_0 v2_1)) := by kernel_rfl
noncomputable def f12p6 : Plan := .mk (some f12l5) none f12p7 .n
theorem f12t6 N v4 v5_2 v0 v2_0 v2_1 v5_0 v5_1 (K : KT ρ) : f12i N (f12c 15) f12p6 (f12s3 v4 v5_2 v0 v2_0 v2_1 v5_0 v5_1) (joinK (some f12lE) K) =
  spec_ParseMatrix.Z6 N v4 v5_2 v0 v2_0 v2_1 v5_0 v5_1 (fun v2_2 v3 v2_0 v2_1 => K .ret (f12s6 v2_2 v3 v2_0 v2_1)) :=
 viaSeqS (fun k => spec_ParseMatrix.Z7 N v4 v5_2 v0 v2_0 v2_1 v5_0 v5_1 k (fun v2_2 v3 v2_0 v2_1 => K .ret (f12s6 v2_2 v3 v2_0 v2_1))) (by kernel_rfl) (f12t7 N (K := seqK (fun σ => f12i N (f12c 31) .n σ (joinK (some f12lE) K)) (joinK (some f12lE) K)) ..) (fx6 fun v5_2 v0 v2_0 v2_1 v5_0 v5_1 => f12t12 N v5_2 v0 v2_0 v2_1 v5_0 v5_1 K) (by kernel_rfl)
noncomputable def f12p4 : Plan := .mk (some f12l3) none .n f12p6
theorem f12t4 N v4 v0 v2_0 v2_1 (K : KT ρ) : f12i N (f12c 7) f12p4 (f12s2 v4 v0 v2_0 v2_1) (joinK (some f12lE) K) =
  spec_ParseMatrix.Z4 N v4 v0 v2_0 v2_1 (fun v2_2 v3 v2_0 v2_1 => K .ret (f12s6 v2_2 v3 v2_0 v2_1)) :=
 viaSeqS (fun k => spec_ParseMatrix.Z5 N v4 v0 v2_0 v2_1 k) (by kernel_rfl) (f12t5 N (K := seqK (fun σ => f12i N (f12c 15) f12p6 σ (joinK (some f12lE) K)) (joinK (some f12lE) K)) ..) (fx7 fun v4 v5_2 v0 v2_0 v2_1 v5_0 v5_1 => f12t6 N v4 v5_2 v0 v2_0 v2_1 v5_0 v5_1 K) (by kernel_rfl)
noncomputable def f12p2 : Plan := .mk (some f12l2) none .n f12p4
theorem f12t2 N v0 v2_0 v2_1 (K : KT ρ) : f12i N (f12c 3) f12p2 (f12s1 v0 v2_0 v2_1) (joinK (some f12lE) K) =
  spec_ParseMatrix.Z2 N v0 v2_0 v2_1 (fun v2_2 v3 v2_0 v2_1 => K .ret (f12s6 v2_2 v3 v2_0 v2_1)) :=
 viaSeqS (fun k => spec_ParseMatrix.Z3 N v0 v2_0 v2_1 k) (by kernel_rfl) (f12t3 N (K := seqK (fun σ => f12i N (f12c 7) f12p4 σ (joinK (some f12lE) K)) (joinK (some f12lE) K)) ..) (fx4 fun v4 v0 v2_0 v2_1 => f12t4 N v4 v0 v2_0 v2_1 K) (by kernel_rfl)
noncomputable def f12p0 : Plan := .mk (some f12l1) none .n f12p2
theorem f12t0 N v0 (K : KT ρ) : f12i N (f12c 1) f12p0 (f12s0 v0) (joinK (some f12lE) K) =
  spec_ParseMatrix.Z0 N v0 (fun v2_2 v3 v2_0 v2_1 => K .ret (f12s6 v2_2 v3 v2_0 v2_1)) :=
 viaSeqS (fun k => spec_ParseMatrix.Z1 N v0 k) (by kernel_rfl) (f12t1 N (K := seqK (fun σ => f12i N (f12c 3) f12p2 σ (joinK (some f12lE) K)) (joinK (some f12lE) K)) ..) (fx3 fun v0 v2_0 v2_1 => f12t2 N v0 v2_0 v2_1 K) (by kernel_rfl)
theorem f12m (N : Nat) (v0 : ByteArray) : f12i N (f12c 1) f12p0 (f12s0 v0) (joinK (some f12lE) (finK tab f12sig Tryd.f12.results.toList)) = spec_ParseMatrix.Z0 N v0 (fun v2_2 v3 v2_0 v2_1 => some ((), ((v2_0, (v2_1, v2_2)), (v3, ())))) :=
  (f12t0 N v0 (finK tab f12sig Tryd.f12.results.toList)).trans (by kernel_rfl)
theorem f12ok (h : spec_ParseMatrix.Spec) : EntryOk Tryd.prog 12 e12 :=
  entry_of_code (sig := f12sig) (c := (f12c 1)) (pl := f12p0) (je := (some f12lE)) (B := f12B) Tryd.func12 (by kernel_rfl) (by kernel_rfl) (by kernel_rfl) tabOk f12GOk (by kernel_rfl) (by kernel_rfl) (by kernel_rfl) (by kernel_rfl) fun X hb hp => by
    obtain ⟨v0, _⟩ := X
    obtain ⟨N, h⟩ := h v0 hp
    exact ⟨N, (f12m N v0).trans (h N (Nat.le_refl N))⟩
theorem e12ok : EntryOk Tryd.prog 12 e12 := f12ok spec_ParseMatrix.ok
end Go.Fw
namespace Go.Fw
variable {ρ : Type}
open Go.Proofs
noncomputable def f31sig : Sig := ⟨[⟨.str, false, false⟩, ⟨.str, false, false⟩], [⟨.sl 9 (.str), false, false⟩]⟩
noncomputable def e31 : Entry := ⟨f31sig, (some fun X => strings_Split.P X.1 X.2.1), fun X => ((), ((strings_Split.g X.1 X.2.1), ()))⟩
noncomputable def f31layren : Go.Shelf.Ren := ⟨fun | 146 => 31 | 221 => 57 | 268 => 82 | 138 => 83 | 143 => 84 | 195 => 102 | 197 => 103 | 218 => 104 | 219 => 95 | 260 => 119 | 217 => 112 | 225 => 113 | 224 => 114 | 267 => 115 | 266 => 123 | 314 => 124 | n => n, fun | 9 => 9 | 31 => 47 | 3 => 3 | 4 => 4 | 0 => 0 | 105 => 115 | 21 => 21 | 5 => 5 | 46 => 110 | 119 => 145 | 139 => 148 | 138 => 147 | 146 => 138 | 51 => 137 | n => n, fun | 1 => 2 | 3 => 3 | 4 => 4 | n => n⟩
theorem f31lay : LaysM.n146 Tryd.prog f31layren := { mixed := (by kernel_rfl), f138 := Tryd.func83.trans (congrArg some (by kernel_rfl)), f143 := Tryd.func84.trans (congrArg some (by kernel_rfl)), f146 := Tryd.func31.trans (congrArg some (by kernel_rfl)), f195 := Tryd.func102.trans (congrArg some (by kernel_rfl)), f197 := Tryd.func103.trans (congrArg some (by kernel_rfl)), f217 := Tryd.func112.trans (congrArg some (by kernel_rfl)), f218 := Tryd.func104.trans (congrArg some (by kernel_rfl)), f219 := Tryd.func95.trans (congrArg some (by kernel_rfl)), f221 := Tryd.func57.trans (congrArg some (by kernel_rfl)), f224 := Tryd.func114.trans (congrArg some (by kernel_rfl)), f225 := Tryd.func113.trans (congrArg some (by kernel_rfl)), f260 := Tryd.func119.trans (congrArg some (by kernel_rfl)), f266 := Tryd.func123.trans (congrArg some (by kernel_rfl)), f267 := Tryd.func115.trans (congrArg some (by kernel_rfl)), f268 := Tryd.func82.trans (congrArg some (by kernel_rfl)), f314 := Tryd.func124.trans (congrArg some (by kernel_rfl)), t0 := Tryd.underlying0, a0 := Tryd.isAgg0, z0 := Tryd.sizeOf0, v0 := Tryd.zeroValue0, t3 := Tryd.underlying3, a3 := Tryd.isAgg3, z3 := Tryd.sizeOf3, v3 := Tryd.zeroValue3, t4 := Tryd.underlying4, a4 := Tryd.isAgg4, z4 := Tryd.sizeOf4, v4 := Tryd.zeroValue4, t5 := Tryd.underlying5, a5 := Tryd.isAgg5, z5 := Tryd.sizeOf5, v5 := Tryd.zeroValue5, t9 := Tryd.underlying9, a9 := Tryd.isAgg9, z9 := Tryd.sizeOf9, v9 := Tryd.zeroValue9, t21 := Tryd.underlying21, a21 := Tryd.isAgg21, z21 := Tryd.sizeOf21, v21 := Tryd.zeroValue21, t31 := Tryd.underlying47, a31 := Tryd.isAgg47, z31 := Tryd.sizeOf47, v31 := Tryd.zeroValue47, t46 := Tryd.underlying110, a46 := Tryd.isAgg110, z46 := Tryd.sizeOf110, v46 := Tryd.zeroValue110, t51 := Tryd.underlying137, a51 := Tryd.isAgg137, z51 := Tryd.sizeOf137, v51 := Tryd.zeroValue137, t105 := Tryd.underlying115, a105 := Tryd.isAgg115, z105 := Tryd.sizeOf115, v105 := Tryd.zeroValue115, t119 := Tryd.underlying145, a119 := Tryd.isAgg145, z119 := Tryd.sizeOf145, t138 := Tryd.underlying147, a138 := Tryd.isAgg147, z138 := Tryd.sizeOf147, v138 := Tryd.zeroValue147, t139 := Tryd.underlying148, a139 := Tryd.isAgg148, z139 := Tryd.sizeOf148, v139 := Tryd.zeroValue148, t146 := Tryd.underlying138, a146 := Tryd.isAgg138, z146 := Tryd.sizeOf138, v146 := Tryd.zeroValue138, g1 := (by kernel_rfl), g3 := (by kernel_rfl), g4 := (by kernel_rfl), i0 := (by kernel_rfl), i3 := (by kernel_rfl), i4 := (by kernel_rfl), i5 := (by kernel_rfl), i9 := (by kernel_rfl), i21 := (by kernel_rfl), i31 := (by kernel_rfl), i46 := (by kernel_rfl), i51 := (by kernel_rfl), i105 := (by kernel_rfl), i138 := (by kernel_rfl), i139 := (by kernel_rfl), i146 := (by kernel_rfl), m1 := (by kernel_rfl), s1_3 := fun w h => Go.Proofs.cell_of_shapedOpen_int (zero := #[.int .i64 0]) (t := 3) h (of_decide_eq_true (by kernel_rfl)) (by kernel_rfl) rfl (by kernel_rfl) (by kernel_rfl) Tryd.underlying3, m3 := (by kernel_rfl), m4 := (by kernel_rfl) }
theorem f31ok (_ : True) : EntryOk Tryd.prog 31 e31 := split_ok (fun w h => (by
  obtain ⟨g, h1, h2⟩ := int0 w h
  have e : Tryd.prog.globalNamed "internal/bytealg.MaxLen" = some (f31layren.g 1) := by kernel_rfl
  rw [e] at h1
  injection h1 with h1
  subst h1
  exact h2)) f31lay
theorem e31ok : EntryOk Tryd.prog 31 e31 := f31ok strings_Split.ok
end Go.Fw
namespace Go.Fw
variable {ρ : Type}
open Go.Proofs
noncomputable def f32sig : Sig := ⟨[⟨.str, false, false⟩], [⟨.int .i64, false, false⟩, ⟨.err, false, false⟩]⟩
noncomputable def e32 : Entry := ⟨f32sig, (some fun X => strconv_Atoi.P X.1), fun X => ((), ((strconv_Atoi.g X.1).1, ((strconv_Atoi.g X.1).2, ())))⟩
noncomputable def f32layren : Go.Shelf.Ren := ⟨fun | 172 => 32 | 244 => 58 | 245 => 59 | 247 => 85 | 279 => 86 | 280 => 87 | 281 => 88 | 282 => 89 | 287 => 105 | 316 => 106 | 171 => 73 | 205 => 107 | 321 => 120 | 322 => 121 | 243 => 97 | 246 => 116 | 283 => 125 | 284 => 126 | 285 => 127 | 286 => 128 | 129 => 130 | 317 => 129 | 318 => 131 | 319 => 132 | 320 => 133 | 337 => 134 | 338 => 135 | n => n, fun | 9 => 9 | 3 => 3 | 75 => 53 | 76 => 54 | 4 => 4 | 5 => 5 | 167 => 103 | 37 => 41 | 0 => 0 | 85 => 104 | 2 => 2 | 168 => 106 | 53 => 118 | 175 => 119 | 46 => 110 | 210 => 123 | 127 => 112 | 145 => 136 | 143 => 134 | 21 => 21 | 171 => 140 | 173 => 143 | 212 => 150 | 51 => 137 | 20 => 20 | 213 => 151 | 232 => 154 | 233 => 155 | 80 => 98 | n => n, fun | 15 => 0 | 16 => 1 | 17 => 5 | 18 => 6 | 19 => 7 | n => n⟩
theorem f32lay : LaysC.n172 Tryd.prog f32layren := { mixed := (by kernel_rfl), f129 := Tryd.func130.trans (congrArg some (by kernel_rfl)), f171 := Tryd.func73.trans (congrArg some (by kernel_rfl)), f172 := Tryd.func32.trans (congrArg some (by kernel_rfl)), f205 := Tryd.func107.trans (congrArg some (by kernel_rfl)), f243 := Tryd.func97.trans (congrArg some (by kernel_rfl)), f244 := Tryd.func58.trans (congrArg some (by kernel_rfl)), f245 := Tryd.func59.trans (congrArg some (by kernel_rfl)), f246 := Tryd.func116.trans (congrArg some (by kernel_rfl)), f247 := Tryd.func85.trans (congrArg some (by kernel_rfl)), f279 := Tryd.func86.trans (congrArg some (by kernel_rfl)), f280 := Tryd.func87.trans (congrArg some (by kernel_rfl)), f281 := Tryd.func88.trans (congrArg some (by kernel_rfl)), f282 := Tryd.func89.trans (congrArg some (by kernel_rfl)), f283 := Tryd.func125.trans (congrArg some (by kernel_rfl)), f284 := Tryd.func126.trans (congrArg some (by kernel_rfl)), f285 := Tryd.func127.trans (congrArg some (by kernel_rfl)), f286 := Tryd.func128.trans (congrArg some (by kernel_rfl)), f287 := Tryd.func105.trans (congrArg some (by kernel_rfl)), f316 := Tryd.func106.trans (congrArg some (by kernel_rfl)), f317 := Tryd.func129.trans (congrArg some (by kernel_rfl)), f318 := Tryd.func131.trans (congrArg some (by kernel_rfl)), f319 := Tryd.func132.trans (congrArg some (by kernel_rfl)), f320 := Tryd.func133.trans (congrArg some (by kernel_rfl)), f321 := Tryd.func120.trans (congrArg some (by kernel_rfl)), f322 := Tryd.func121.trans (congrArg some (by kernel_rfl)), f337 := Tryd.func134.trans (congrArg some (by kernel_rfl)), f338 := Tryd.func135.trans (congrArg some (by kernel_rfl)), t0 := Tryd.underlying0, a0 := Tryd.isAgg0, z0 := Tryd.sizeOf0, v0 := Tryd.zeroValue0, t2 := Tryd.underlying2, a2 := Tryd.isAgg2, z2 := Tryd.sizeOf2, v2 := Tryd.zeroValue2, t3 := Tryd.underlying3, a3 := Tryd.isAgg3, z3 := Tryd.sizeOf3, v3 := Tryd.zeroValue3, t4 := Tryd.underlying4, a4 := Tryd.isAgg4, z4 := Tryd.sizeOf4, v4 := Tryd.zeroValue4, t5 := Tryd.underlying5, a5 := Tryd.isAgg5, z5 := Tryd.sizeOf5, v5 := Tryd.zeroValue5, t9 := Tryd.underlying9, a9 := Tryd.isAgg9, z9 := Tryd.sizeOf9, v9 := Tryd.zeroValue9, t20 := Tryd.underlying20, a20 := Tryd.isAgg20, z20 := Tryd.sizeOf20, v20 := Tryd.zeroValue20, t21 := Tryd.underlying21, a21 := Tryd.isAgg21, z21 := Tryd.sizeOf21, v21 := Tryd.zeroValue21, t37 := Tryd.underlying41, a37 := Tryd.isAgg41, z37 := Tryd.sizeOf41, v37 := Tryd.zeroValue41, t46 := Tryd.underlying110, a46 := Tryd.isAgg110, z46 := Tryd.sizeOf110, v46 := Tryd.zeroValue110, t51 := Tryd.underlying137, a51 := Tryd.isAgg137, z51 := Tryd.sizeOf137, v51 := Tryd.zeroValue137, t53 := Tryd.underlying118, a53 := Tryd.isAgg118, z53 := Tryd.sizeOf118, v53 := Tryd.zeroValue118, t75 := Tryd.underlying53, a75 := Tryd.isAgg53, z75 := Tryd.sizeOf53, v75 := Tryd.zeroValue53, t76 := Tryd.underlying54, a76 := Tryd.isAgg54, z76 := Tryd.sizeOf54, v76 := Tryd.zeroValue54, t85 := Tryd.underlying104, a85 := Tryd.isAgg104, z85 := Tryd.sizeOf104, v85 := Tryd.zeroValue104, t127 := Tryd.underlying112, a127 := Tryd.isAgg112, z127 := Tryd.sizeOf112, v127 := Tryd.zeroValue112, t143 := Tryd.underlying134, a143 := Tryd.isAgg134, z143 := Tryd.sizeOf134, v143 := Tryd.zeroValue134, t145 := Tryd.underlying136, a145 := Tryd.isAgg136, z145 := Tryd.sizeOf136, v145 := Tryd.zeroValue136, t167 := Tryd.underlying103, a167 := Tryd.isAgg103, z167 := Tryd.sizeOf103, v167 := Tryd.zeroValue103, t168 := Tryd.underlying106, a168 := Tryd.isAgg106, z168 := Tryd.sizeOf106, v168 := Tryd.zeroValue106, t171 := Tryd.underlying140, a171 := Tryd.isAgg140, z171 := Tryd.sizeOf140, v171 := Tryd.zeroValue140, t173 := Tryd.underlying143, a173 := Tryd.isAgg143, z173 := Tryd.sizeOf143, v173 := Tryd.zeroValue143, t175 := Tryd.underlying119, a175 := Tryd.isAgg119, z175 := Tryd.sizeOf119, v175 := Tryd.zeroValue119, t210 := Tryd.underlying123, a210 := Tryd.isAgg123, z210 := Tryd.sizeOf123, v210 := Tryd.zeroValue123, t212 := Tryd.underlying150, a212 := Tryd.isAgg150, z212 := Tryd.sizeOf150, v212 := Tryd.zeroValue150, t213 := Tryd.underlying151, a213 := Tryd.isAgg151, z213 := Tryd.sizeOf151, t232 := Tryd.underlying154, a232 := Tryd.isAgg154, z232 := Tryd.sizeOf154, v232 := Tryd.zeroValue154, t233 := Tryd.underlying155, a233 := Tryd.isAgg155, z233 := Tryd.sizeOf155, v233 := Tryd.zeroValue155, g15 := (by kernel_rfl), g16 := (by kernel_rfl), g17 := (by kernel_rfl), g18 := (by kernel_rfl), g19 := (by kernel_rfl), t80 := Tryd.underlying98, a80 := Tryd.isAgg98, z80 := Tryd.sizeOf98, v80 := Tryd.zeroValue98, i0 := (by kernel_rfl), i2 := (by kernel_rfl), i3 := (by kernel_rfl), i4 := (by kernel_rfl), i5 := (by kernel_rfl), i9 := (by kernel_rfl), i20 := (by kernel_rfl), i21 := (by kernel_rfl), i37 := (by kernel_rfl), i46 := (by kernel_rfl), i51 := (by kernel_rfl), i53 := (by kernel_rfl), i75 := (by kernel_rfl), i76 := (by kernel_rfl), i80 := (by kernel_rfl), i85 := (by kernel_rfl), i127 := (by kernel_rfl), i143 := (by kernel_rfl), i145 := (by kernel_rfl), i167 := (by kernel_rfl), i168 := (by kernel_rfl), i171 := (by kernel_rfl), i173 := (by kernel_rfl), i175 := (by kernel_rfl), i210 := (by kernel_rfl), i212 := (by kernel_rfl), i232 := (by kernel_rfl), i233 := (by kernel_rfl), m15 := (by kernel_rfl), m16 := (by kernel_rfl), m17 := (by kernel_rfl), m18 := (by kernel_rfl), m19 := (by kernel_rfl), c0 := (by kernel_rfl), c2 := (by kernel_rfl), c3 := (by kernel_rfl), c4 := (by kernel_rfl), c5 := (by kernel_rfl), c9 := (by kernel_rfl), c20 := (by kernel_rfl), c21 := (by kernel_rfl), c37 := (by kernel_rfl), c46 := (by kernel_rfl), c51 := (by kernel_rfl), c53 := (by kernel_rfl), c75 := (by kernel_rfl), c76 := (by kernel_rfl), c80 := (by kernel_rfl), c85 := (by kernel_rfl), c127 := (by kernel_rfl), c143 := (by kernel_rfl), c145 := (by kernel_rfl), c167 := (by kernel_rfl), c168 := (by kernel_rfl), c171 := (by kernel_rfl), c173 := (by kernel_rfl), c175 := (by kernel_rfl), c210 := (by kernel_rfl), c212 := (by kernel_rfl), c213 := (by kernel_rfl), c232 := (by kernel_rfl), c233 := (by kernel_rfl) }
theorem f32ok (_ : True) : EntryOk Tryd.prog 32 e32 := atoi_ok (fun w h => (by
  obtain ⟨g, h1, h2⟩ := err0 w h
  have e : Tryd.prog.globalNamed "strconv.ErrSyntax" = some (f32layren.g 15) := by kernel_rfl
  rw [e] at h1
  injection h1 with h1
  subst h1
  exact h2)) (fun w h => (by
  obtain ⟨g, h1, h2⟩ := err1 w h
  have e : Tryd.prog.globalNamed "strconv.ErrRange" = some (f32layren.g 16) := by kernel_rfl
  rw [e] at h1
  injection h1 with h1
  subst h1
  exact h2)) f32lay
theorem e32ok : EntryOk Tryd.prog 32 e32 := f32ok strconv_Atoi.ok
end Go.Fw
namespace Go.Fw
variable {ρ : Type}
open Go.Proofs
noncomputable def f33sig : Sig := ⟨[⟨.int .i64, false, false⟩, ⟨.int .i64, false, false⟩, ⟨.int .i64, false, false⟩], [⟨.bool, false, false⟩]⟩
noncomputable def e33 : Entry := ⟨f33sig, none, fun X => ((), ((impl_within.g X.1 X.2.1 X.2.2.1), ()))⟩
noncomputable def f33G : Gm := emptyG
theorem f33GOk : GOk Tryd.prog f33G := GOk.nil
noncomputable def f33lE : Clean := ⟨[], [], [], [], []⟩
noncomputable def f33s0 (v0 v1 v2 : Int) : St := initSt f33sig.ps (v0, (v1, (v2, ())))
noncomputable def f33s1 (v6 : Bool) : St := stOf [(6, xB v6)] [] []
noncomputable def f33l1 : Clean := ⟨[6], [], [], [], []⟩
noncomputable def f33B : Nat → Option Clean := lookL [(1000000, f33l1)]
noncomputable abbrev f33i {ρ : Type} (N : Nat) (c : Code) (p : Plan) (σ : St) (K : KT ρ) : Option ρ := iCode f33G tab f33B N c p σ K
noncomputable def f33c (n : Nat) : Code := codeN 99 (bodyOf Tryd.f33) n
theorem f33t0 N v0 v1 v2 (K : KT ρ) : f33i N (f33c 1) .n (f33s0 v0 v1 v2) (joinK (some f33lE) K) =
  impl_within.Z0 N v0 v1 v2 (fun v6 => K .ret (f33s1 v6)) := by kernel_rfl
theorem f33m (N : Nat) (v0 v1 v2 : Int) : f33i N (f33c 1) .n (f33s0 v0 v1 v2) (joinK (some f33lE) (finK tab f33sig Tryd.f33.results.toList)) = impl_within.Z0 N v0 v1 v2 (fun v6 => some ((), (v6, ()))) :=
  (f33t0 N v0 v1 v2 (finK tab f33sig Tryd.f33.results.toList)).trans (by kernel_rfl)
theorem f33ok (h : impl_within.Spec) : EntryOk Tryd.prog 33 e33 :=
  entry_of_code (sig := f33sig) (c := (f33c 1)) (pl := .n) (je := (some f33lE)) (B := f33B) Tryd.func33 (by kernel_rfl) (by kernel_rfl) (by kernel_rfl) tabOk f33GOk (by kernel_rfl) (by kernel_rfl) (by kernel_rfl) (by kernel_rfl) fun X hb hp => by
    obtain ⟨v0, v1, v2, _⟩ := X
    obtain ⟨N, h⟩ := h v0 v1 v2
    exact ⟨N, (f33m N v0 v1 v2).trans (h N (Nat.le_refl N))⟩
theorem e33ok : EntryOk Tryd.prog 33 e33 := f33ok impl_within.ok
end Go.Fw
namespace Go.Fw
variable {ρ : Type}
open Go.Proofs
noncomputable def f73sig : Sig := ⟨[⟨.int .i64, false, false⟩], [⟨.str, false, false⟩]⟩
noncomputable def e73 : Entry := ⟨f73sig, (some fun X => strconv_Itoa.P X.1), fun X => ((), ((strconv_Itoa.g X.1), ()))⟩
noncomputable def f73layren : Go.Shelf.Ren := ⟨fun | 171 => 73 | 243 => 97 | 246 => 116 | 283 => 125 | 284 => 126 | 285 => 127 | 286 => 128 | 129 => 130 | 317 => 129 | 318 => 131 | 319 => 132 | 320 => 133 | 337 => 134 | 338 => 135 | n => n, fun | 3 => 3 | 9 => 9 | 2 => 2 | 4 => 4 | 171 => 140 | 0 => 0 | 53 => 118 | 37 => 41 | 5 => 5 | 173 => 143 | 212 => 150 | 51 => 137 | 20 => 20 | 213 => 151 | 46 => 110 | 232 => 154 | 233 => 155 | n => n, fun | 17 => 5 | 18 => 6 | 19 => 7 | n => n⟩
theorem f73lay : LaysM.n171 Tryd.prog f73layren := { mixed := (by kernel_rfl), f129 := Tryd.func130.trans (congrArg some (by kernel_rfl)), f171 := Tryd.func73.trans (congrArg some (by kernel_rfl)), f243 := Tryd.func97.trans (congrArg some (by kernel_rfl)), f246 := Tryd.func116.trans (congrArg some (by kernel_rfl)), f283 := Tryd.func125.trans (congrArg some (by kernel_rfl)), f284 := Tryd.func126.trans (congrArg some (by kernel_rfl)), f285 := Tryd.func127.trans (congrArg some (by kernel_rfl)), f286 := Tryd.func128.trans (congrArg some (by kernel_rfl)), f317 := Tryd.func129.trans (congrArg some (by kernel_rfl)), f318 := Tryd.func131.trans (congrArg some (by kernel_rfl)), f319 := Tryd.func132.trans (congrArg some (by kernel_rfl)), f320 := Tryd.func133.trans (congrArg some (by kernel_rfl)), f337 := Tryd.func134.trans (congrArg some (by kernel_rfl)), f338 := Tryd.func135.trans (congrArg some (by kernel_rfl)), t0 := Tryd.underlying0, a0 := Tryd.isAgg0, z0 := Tryd.sizeOf0, v0 := Tryd.zeroValue0, t2 := Tryd.underlying2, a2 := Tryd.isAgg2, z2 := Tryd.sizeOf2, v2 := Tryd.zeroValue2, t3 := Tryd.underlying3, a3 := Tryd.isAgg3, z3 := Tryd.sizeOf3, v3 := Tryd.zeroValue3, t4 := Tryd.underlying4, a4 := Tryd.isAgg4, z4 := Tryd.sizeOf4, v4 := Tryd.zeroValue4, t5 := Tryd.underlying5, a5 := Tryd.isAgg5, z5 := Tryd.sizeOf5, v5 := Tryd.zeroValue5, t9 := Tryd.underlying9, a9 := Tryd.isAgg9, z9 := Tryd.sizeOf9, v9 := Tryd.zeroValue9, t20 := Tryd.underlying20, a20 := Tryd.isAgg20, z20 := Tryd.sizeOf20, v20 := Tryd.zeroValue20, t37 := Tryd.underlying41, a37 := Tryd.isAgg41, z37 := Tryd.sizeOf41, v37 := Tryd.zeroValue41, t46 := Tryd.underlying110, a46 := Tryd.isAgg110, z46 := Tryd.sizeOf110, v46 := Tryd.zeroValue110, t51 := Tryd.underlying137, a51 := Tryd.isAgg137, z51 := Tryd.sizeOf137, v51 := Tryd.zeroValue137, t53 := Tryd.underlying118, a53 := Tryd.isAgg118, z53 := Tryd.sizeOf118, v53 := Tryd.zeroValue118, t171 := Tryd.underlying140, a171 := Tryd.isAgg140, z171 := Tryd.sizeOf140, v171 := Tryd.zeroValue140, t173 := Tryd.underlying143, a173 := Tryd.isAgg143, z173 := Tryd.sizeOf143, v173 := Tryd.zeroValue143, t212 := Tryd.underlying150, a212 := Tryd.isAgg150, z212 := Tryd.sizeOf150, v212 := Tryd.zeroValue150, t213 := Tryd.underlying151, a213 := Tryd.isAgg151, z213 := Tryd.sizeOf151, t232 := Tryd.underlying154, a232 := Tryd.isAgg154, z232 := Tryd.sizeOf154, v232 := Tryd.zeroValue154, t233 := Tryd.underlying155, a233 := Tryd.isAgg155, z233 := Tryd.sizeOf155, v233 := Tryd.zeroValue155, g17 := (by kernel_rfl), g18 := (by kernel_rfl), g19 := (by kernel_rfl), i0 := (by kernel_rfl), i2 := (by kernel_rfl), i3 := (by kernel_rfl), i4 := (by kernel_rfl), i5 := (by kernel_rfl), i9 := (by kernel_rfl), i20 := (by kernel_rfl), i37 := (by kernel_rfl), i46 := (by kernel_rfl), i51 := (by kernel_rfl), i53 := (by kernel_rfl), i171 := (by kernel_rfl), i173 := (by kernel_rfl), i212 := (by kernel_rfl), i232 := (by kernel_rfl), i233 := (by kernel_rfl), m17 := (by kernel_rfl), m18 := (by kernel_rfl), m19 := (by kernel_rfl) }
theorem f73ok (_ : True) : EntryOk Tryd.prog 73 e73 := itoa_ok tab0 f73lay
theorem e73ok : EntryOk Tryd.prog 73 e73 := f73ok strconv_Itoa.ok
end Go.Fw
namespace Go.Fw
variable {ρ : Type}
open Go.Proofs
noncomputable def f49sig : Sig := ⟨[⟨.int .i64, false, false⟩], [⟨.str, false, false⟩]⟩
noncomputable def e49 : Entry := ⟨f49sig, (some fun X => impl_FormatInt.P X.1), fun X => ((), ((impl_FormatInt.g X.1), ()))⟩
noncomputable def f49G : Gm := addG emptyG 73 e73
theorem f49GOk : GOk Tryd.prog f49G := (GOk.nil).add e73ok (by kernel_rfl)
noncomputable def f49lE : Clean := ⟨[], [], [], [], []⟩
noncomputable def f49s0 (v0 : Int) : St := initSt f49sig.ps (v0, ())
noncomputable def f49s1 (v2 : ByteArray) : St := stOf [(2, .c (.str v2))] [] []
noncomputable def f49l1 : Clean := ⟨[2], [], [], [], []⟩
noncomputable def f49B : Nat → Option Clean := lookL [(1000000, f49l1)]
noncomputable abbrev f49i {ρ : Type} (N : Nat) (c : Code) (p : Plan) (σ : St) (K : KT ρ) : Option ρ := iCode f49G tab f49B N c p σ K
noncomputable def f49c (n : Nat) : Code := codeN 99 (bodyOf Tryd.f49) n
theorem f49t0 N v0 (K : KT ρ) : f49i N (f49c 1) .n (f49s0 v0) (joinK (some f49lE) K) =
  impl_FormatInt.Z0 N v0 (fun v2 => K .ret (f49s1 v2)) := by kernel_rfl
theorem f49m (N : Nat) (v0 : Int) : f49i N (f49c 1) .n (f49s0 v0) (joinK (some f49lE) (finK tab f49sig Tryd.f49.results.toList)) = impl_FormatInt.Z0 N v0 (fun v2 => some ((), (v2, ()))) :=
  (f49t0 N v0 (finK tab f49sig Tryd.f49.results.toList)).trans (by kernel_rfl)
theorem f49ok (h : impl_FormatInt.Spec) : EntryOk Tryd.prog 49 e49 :=
  entry_of_code (sig := f49sig) (c := (f49c 1)) (pl := .n) (je := (some f49lE)) (B := f49B) Tryd.func49 (by kernel_rfl) (by kernel_rfl) (by kernel_rfl) tabOk f49GOk (by kernel_rfl) (by kernel_rfl) (by kernel_rfl) (by kernel_rfl) fun X hb hp => by
    obtain ⟨v0, _⟩ := X
    obtain ⟨N, h⟩ := h v0 hp
    exact ⟨N, (f49m N v0).trans (h N (Nat.le_refl N))⟩
theorem e49ok : EntryOk Tryd.prog 49 e49 := f49ok impl_FormatInt.ok
end Go.Fw
namespace Go.Fw
variable {ρ : Type}
open Go.Proofs
noncomputable def f50sig : Sig := ⟨[⟨.sl 9 (.str), false, false⟩, ⟨.str, false, false⟩], [⟨.str, false, false⟩]⟩
noncomputable def e50 : Entry := ⟨f50sig, (some fun X => strings_Join.P X.1 X.2.1), fun X => ((), ((strings_Join.g X.1 X.2.1), ()))⟩
noncomputable def f50layren : Go.Shelf.Ren := ⟨fun | 156 => 50 | 165 => 74 | 166 => 75 | 169 => 76 | 240 => 98 | 241 => 99 | 276 => 117 | 277 => 118 | n => n, fun | 31 => 47 | 9 => 9 | 3 => 3 | 4 => 4 | 0 => 0 | 20 => 20 | 72 => 96 | 76 => 54 | 70 => 94 | 37 => 41 | 75 => 53 | 127 => 112 | 164 => 130 | 5 => 5 | 80 => 98 | n => n, fun n => n⟩
theorem f50lay : Lays.n156 Tryd.prog f50layren := { mixed := (by kernel_rfl), f156 := Tryd.func50.trans (congrArg some (by kernel_rfl)), f165 := Tryd.func74.trans (congrArg some (by kernel_rfl)), f166 := Tryd.func75.trans (congrArg some (by kernel_rfl)), f169 := Tryd.func76.trans (congrArg some (by kernel_rfl)), f240 := Tryd.func98.trans (congrArg some (by kernel_rfl)), f241 := Tryd.func99.trans (congrArg some (by kernel_rfl)), f276 := Tryd.func117.trans (congrArg some (by kernel_rfl)), f277 := Tryd.func118.trans (congrArg some (by kernel_rfl)), t0 := Tryd.underlying0, a0 := Tryd.isAgg0, z0 := Tryd.sizeOf0, v0 := Tryd.zeroValue0, t3 := Tryd.underlying3, a3 := Tryd.isAgg3, z3 := Tryd.sizeOf3, v3 := Tryd.zeroValue3, t4 := Tryd.underlying4, a4 := Tryd.isAgg4, z4 := Tryd.sizeOf4, v4 := Tryd.zeroValue4, t9 := Tryd.underlying9, a9 := Tryd.isAgg9, z9 := Tryd.sizeOf9, v9 := Tryd.zeroValue9, t20 := Tryd.underlying20, a20 := Tryd.isAgg20, z20 := Tryd.sizeOf20, v20 := Tryd.zeroValue20, t31 := Tryd.underlying47, a31 := Tryd.isAgg47, z31 := Tryd.sizeOf47, v31 := Tryd.zeroValue47, t37 := Tryd.underlying41, a37 := Tryd.isAgg41, z37 := Tryd.sizeOf41, v37 := Tryd.zeroValue41, t70 := Tryd.underlying94, a70 := Tryd.isAgg94, z70 := Tryd.sizeOf94, v70 := Tryd.zeroValue94, t72 := Tryd.underlying96, a72 := Tryd.isAgg96, z72 := Tryd.sizeOf96, v72 := Tryd.zeroValue96, t75 := Tryd.underlying53, a75 := Tryd.isAgg53, z75 := Tryd.sizeOf53, v75 := Tryd.zeroValue53, t76 := Tryd.underlying54, a76 := Tryd.isAgg54, z76 := Tryd.sizeOf54, v76 := Tryd.zeroValue54, t127 := Tryd.underlying112, a127 := Tryd.isAgg112, z127 := Tryd.sizeOf112, v127 := Tryd.zeroValue112, t164 := Tryd.underlying130, a164 := Tryd.isAgg130, z164 := Tryd.sizeOf130, v164 := Tryd.zeroValue130 }
theorem f50layX : Builder.Extra Tryd.prog f50layren := { sizeBuilder := (by kernel_rfl), liesBuilder := (by kernel_rfl), t5 := Tryd.underlying5, a5 := Tryd.isAgg5, z5 := Tryd.sizeOf5, v5 := Tryd.zeroValue5, infoByte := (by kernel_rfl), cellsByte := (by kernel_rfl), sizeByte := (by kernel_rfl), neB5 := (by decide) }
theorem f50ok (_ : True) : EntryOk Tryd.prog 50 e50 := join_ok f50lay f50layX
theorem e50ok : EntryOk Tryd.prog 50 e50 := f50ok strings_Join.ok
end Go.Fw
namespace Go.Fw
variable {ρ : Type}
open Go.Proofs
noncomputable def f34sig : Sig := ⟨[⟨.sl 3 (.int .i64), false, false⟩], [⟨.str, false, false⟩]⟩
noncomputable def e34 : Entry := ⟨f34sig, (some fun X => impl_FormatInts.P X.1), fun X => ((), ((impl_FormatInts.g X.1), ()))⟩
noncomputable def f34G : Gm := addG (addG emptyG 49 e49) 50 e50
theorem f34GOk : GOk Tryd.prog f34G := ((GOk.nil).add e49ok (by kernel_rfl)).add e50ok (by kernel_rfl)
noncomputable def f34lE : Clean := ⟨[], [], [], [], []⟩
noncomputable def f34s0 (v0 : LI) : St := initSt f34sig.ps (v0, ())
noncomputable def f34s1 (v0 : LI) : St := stOf [(0, .c (.sn 3 tI v0 none))] [] []
noncomputable def f34l1 : Clean := ⟨[0], [], [], [], []⟩
noncomputable def f34s2 (v0 : LI) : St := stOf [(0, .c (.sn 3 tI v0 none)), (3, .c (.nil))] [] []
noncomputable def f34l2 : Clean := ⟨[0, 3], [], [], [], []⟩
noncomputable def f34s3 (v6 : LI) (v7 v8 : Int) : St := stOf [(3, .c (.nil)), (6, .c (.sn 3 tI v6 none)), (7, xi v7), (8, xi v8)] [] []
noncomputable def f34l3 : Clean := ⟨[3, 6, 7, 8], [], [], [], []⟩
noncomputable def f34s4 (v3 : List ByteArray) (v6 : LI) (v7 v8 : Int) : St := stOf [(3, xo 1000192), (6, .c (.sn 3 tI v6 none)), (7, xi v7), (8, xi v8)] [] [(1000192, (⟨9, .str, v3, true, false⟩ : Row))]
noncomputable def f34l4 : Clean := ⟨[3, 6, 7, 8], [], [⟨⟨false, 3, 0⟩, 30000000, 9, .str, true⟩], [], [(⟨false, 3, 0⟩, 1000192)]⟩
noncomputable def f34s5 (v3 : List ByteArray) : St := stOf [(3, xo 1000192)] [] [(1000192, (⟨9, .str, v3, true, false⟩ : Row))]
noncomputable def f34l5 : Clean := ⟨[3], [], [], [], [(⟨false, 3, 0⟩, 1000192)]⟩
noncomputable def f34s6 (v2 : ByteArray) : St := stOf [(2, .c (.str v2))] [] []
noncomputable def f34l6 : Clean := ⟨[2], [], [], [], []⟩
noncomputable def f34B : Nat → Option Clean := lookL [(0, f34l5), (1000000, f34l6)]
noncomputable abbrev f34i {ρ : Type} (N : Nat) (c : Code) (p : Plan) (σ : St) (K : KT ρ) : Option ρ := iCode f34G tab f34B N c p σ K
noncomputable def f34c (n : Nat) : Code := codeN 99 (bodyOf Tryd.f34) n
theorem f34t1 N v0 (K : KT ρ) : f34i N (f34c 2) .n (f34s0 v0) (joinK (some f34l1) K) =
  impl_FormatInts.Z1 N v0 (fun v0 => K .nrm (f34s1 v0)) := by kernel_rfl
theorem f34t3 N v0 (K : KT ρ) : f34i N (f34c 5) .n (f34s1 v0) (joinK (some f34l2) K) =
  impl_FormatInts.Z3 N v0 (fun v0 => K .nrm (f34s2 v0)) := by kernel_rfl
theorem f34t6 N v0 (K : KT ρ) : f34i N (f34c 19) .n (f34s2 v0) (joinK (some f34l3) K) =
  impl_FormatInts.Z6 N v0 (fun v6 v7 v8 => K .nrm (f34s3 v6 v7 v8)) := by kernel_rfl
theorem f34t9 N v3 v6 v7 v8 (K : KT ρ) : f34i N (f34c 75) .n (f34s4 v3 v6 v7 v8) (joinK (some f34l4) K) =
  impl_FormatInts.Z9 N v3 v6 v7 v8 (fun v3 v6 v7 v8 => K .nrm (f34s4 v3 v6 v7 v8)) (fun v3 => K (.exit 0) (f34s5 v3)) := by kernel_rfl
noncomputable def f34p8 : Plan := .mk none (some f34l4) .n .n
noncomputable abbrev f34w8 {ρ : Type} (N M : Nat) (σ : St) (K : KT ρ) : Option ρ := loopC (fun σ K => f34i N (f34c 75) .n σ K) f34l4 M σ K
theorem f34t8L {ρ : Type} (N : Nat) (K : KT ρ) : ∀ (M : Nat) (v3 : List ByteArray) (v6 : LI) (v7 v8 : Int), f34w8 N M (f34s4 v3 v6 v7 v8) K =
  impl_FormatInts.Z8L N (fun v3 => K (.exit 0) (f34s5 v3)) M v3 v6 v7 v8
  | 0, _, _, _, _ => rfl
  | M + 1, v3, v6, v7, v8 => viaRoundS (fun k => impl_FormatInts.Z9 N v3 v6 v7 v8 k (fun v3 => K (.exit 0) (f34s5 v3))) (f34t9 N (K := seqK (fun σ => f34w8 N M σ K) K) ..) (fx4 fun v3 v6 v7 v8 => f34t8L N K M v3 v6 v7 v8) (by kernel_rfl)
theorem f34t8 N v6 v7 v8 (K : KT ρ) : f34i N (f34c 43) f34p8 (f34s3 v6 v7 v8) (joinK (some f34l5) K) =
  impl_FormatInts.Z8 N v6 v7 v8 (fun v3 => K (.exit 0) (f34s5 v3)) :=
 viaLoopS (by kernel_rfl) (f34t8L N (joinK (some f34l5) K) N ([] : List ByteArray) v6 v7 v8) (by kernel_rfl)
noncomputable def f34p7 : Plan := .mk (some f34l5) none f34p8 .n
theorem f34t7 N v6 v7 v8 (K : KT ρ) : f34i N (f34c 27) f34p7 (f34s3 v6 v7 v8) (joinK (some f34l5) K) =
  impl_FormatInts.Z7 N v6 v7 v8 (fun v3 => K .nrm (f34s5 v3)) :=
 viaBlockS (by kernel_rfl) (f34t8 N (K := blockK 0 (joinK (some f34l5) K)) ..) (by kernel_rfl)
noncomputable def f34p5 : Plan := .mk (some f34l3) none .n f34p7
theorem f34t5 N v0 (K : KT ρ) : f34i N (f34c 11) f34p5 (f34s2 v0) (joinK (some f34l5) K) =
  impl_FormatInts.Z5 N v0 (fun v3 => K .nrm (f34s5 v3)) :=
 viaSeqS (fun k => impl_FormatInts.Z6 N v0 k) (by kernel_rfl) (f34t6 N (K := seqK (fun σ => f34i N (f34c 27) f34p7 σ (joinK (some f34l5) K)) (joinK (some f34l5) K)) ..) (fx3 fun v6 v7 v8 => f34t7 N v6 v7 v8 K) (by kernel_rfl)
theorem f34t10 N v3 (K : KT ρ) : f34i N (f34c 15) .n (f34s5 v3) (joinK (some f34lE) K) =
  impl_FormatInts.Z10 N v3 (fun v2 => K .ret (f34s6 v2)) := by kernel_rfl
noncomputable def f34p4 : Plan := .mk (some f34l5) none f34p5 .n
theorem f34t4 N v0 (K : KT ρ) : f34i N (f34c 7) f34p4 (f34s2 v0) (joinK (some f34lE) K) =
  impl_FormatInts.Z4 N v0 (fun v2 => K .ret (f34s6 v2)) :=
 viaSeqS (fun k => impl_FormatInts.Z5 N v0 k) (by kernel_rfl) (f34t5 N (K := seqK (fun σ => f34i N (f34c 15) .n σ (joinK (some f34lE) K)) (joinK (some f34lE) K)) ..) (funext fun v3 => f34t10 N v3 K) (by kernel_rfl)
noncomputable def f34p2 : Plan := .mk (some f34l2) none .n f34p4
theorem f34t2 N v0 (K : KT ρ) : f34i N (f34c 3) f34p2 (f34s1 v0) (joinK (some f34lE) K) =
  impl_FormatInts.Z2 N v0 (fun v2 => K .ret (f34s6 v2)) :=
 viaSeqS (fun k => impl_FormatInts.Z3 N v0 k) (by kernel_rfl) (f34t3 N (K := seqK (fun σ => f34i N (f34c 7) f34p4 σ (joinK (some f34lE) K)) (joinK (some f34lE) K)) ..) (funext fun v0 => f34t4 N v0 K) (by kernel_rfl)
noncomputable def f34p0 : Plan := .mk (some f34l1) none .n f34p2
theorem f34t0 N v0 (K : KT ρ) : f34i N (f34c 1) f34p0 (f34s0 v0) (joinK (some f34lE) K) =
  impl_FormatInts.Z0 N v0 (fun v2 => K .ret (f34s6 v2)) :=
 viaSeqS (fun k => impl_FormatInts.Z1 N v0 k) (by kernel_rfl) (f34t1 N (K := seqK (fun σ => f34i N (f34c 3) f34p2 σ (joinK (some f34lE) K)) (joinK (some f34lE) K)) ..) (funext fun v0 => f34t2 N v0 K) (by kernel_rfl)
theorem f34m (N : Nat) (v0 : LI) : f34i N (f34c 1) f34p0 (f34s0 v0) (joinK (some f34lE) (finK tab f34sig Tryd.f34.results.toList)) = impl_FormatInts.Z0 N v0 (fun v2 => some ((), (v2, ()))) :=
  (f34t0 N v0 (finK tab f34sig Tryd.f34.results.toList)).trans (by kernel_rfl)
theorem f34ok (h : impl_FormatInts.Spec) : EntryOk Tryd.prog 34 e34 :=
  entry_of_code (sig := f34sig) (c := (f34c 1)) (pl := f34p0) (je := (some f34lE)) (B := f34B) Tryd.func34 (by kernel_rfl) (by kernel_rfl) (by kernel_rfl) tabOk f34GOk (by kernel_rfl) (by kernel_rfl) (by kernel_rfl) (by kernel_rfl) fun X hb hp => by
    obtain ⟨v0, _⟩ := X
    obtain ⟨N, h⟩ := h v0 hb.1 hp
    exact ⟨N, (f34m N v0).trans (h N (Nat.le_refl N))⟩
theorem e34ok : EntryOk Tryd.prog 34 e34 := f34ok impl_FormatInts.ok
end Go.Fw
namespace Go.Fw
variable {ρ : Type}
open Go.Proofs
noncomputable def f8sig : Sig := ⟨[⟨.str, false, false⟩], [⟨.sl 3 (.int .i64), false, false⟩, ⟨.bool, false, false⟩]⟩
noncomputable def e8 : Entry := ⟨f8sig, (some fun X => impl_ParseInts.P X.1), fun X => ((), ((impl_ParseInts.g X.1).1, ((impl_ParseInts.g X.1).2, ())))⟩
noncomputable def f8G : Gm := addG (addG (addG (addG emptyG 31 e31) 32 e32) 33 e33) 34 e34
theorem f8GOk : GOk Tryd.prog f8G := ((((GOk.nil).add e31ok (by kernel_rfl)).add e32ok (by kernel_rfl)).add e33ok (by kernel_rfl)).add e34ok (by kernel_rfl)
noncomputable def f8lE : Clean := ⟨[], [], [], [], []⟩
noncomputable def f8s0 (v0 : ByteArray) : St := initSt f8sig.ps (v0, ())
noncomputable def f8s1 (v0 : ByteArray) : St := stOf [(0, .c (.str v0))] [] []
noncomputable def f8l1 : Clean := ⟨[0], [], [], [], []⟩
noncomputable def f8s2 (v0 : ByteArray) : St := stOf [(0, .c (.str v0)), (4, .c (.nil))] [] []
noncomputable def f8l2 : Clean := ⟨[0, 4], [], [], [], []⟩
noncomputable def f8s3 (v12 : List ByteArray) (v0 : ByteArray) (v13 v14 : Int) : St := stOf [(0, .c (.str v0)), (4, .c (.nil)), (12, xo 1000768), (13, xi v13), (14, xi v14)] [] [(1000768, (⟨9, .str, v12, true, false⟩ : Row))]
noncomputable def f8l3 : Clean := ⟨[0, 4, 12, 13, 14], [], [], [], [(⟨false, 12, 0⟩, 1000768)]⟩
noncomputable def f8s4 (v4 : LI) (v12 : List ByteArray) (v0 : ByteArray) (v13 v14 : Int) : St := stOf [(0, .c (.str v0)), (4, xo 1000256), (12, xo 1000768), (13, xi v13), (14, xi v14)] [] [(1000256, (⟨3, .int .i64, v4, true, false⟩ : Row)), (1000768, (⟨9, .str, v12, true, false⟩ : Row))]
noncomputable def f8l4 : Clean := ⟨[0, 4, 12, 13, 14], [], [⟨⟨false, 4, 0⟩, 30000000, 3, .int .i64, true⟩], [], [(⟨false, 4, 0⟩, 1000256), (⟨false, 12, 0⟩, 1000768)]⟩
noncomputable def f8s5 (v4 : LI) (v0 : ByteArray) : St := stOf [(0, .c (.str v0)), (4, xo 1000256)] [] [(1000256, (⟨3, .int .i64, v4, true, false⟩ : Row))]
noncomputable def f8l5 : Clean := ⟨[0, 4], [], [], [], [(⟨false, 4, 0⟩, 1000256)]⟩
noncomputable def f8s6 (v2 : LI) (v3 : Bool) : St := stOf [(2, xo 1000128), (3, xB v3)] [] [(1000128, (⟨3, .int .i64, v2, true, false⟩ : Row))]
noncomputable def f8l6 : Clean := ⟨[2, 3], [], [⟨⟨false, 2, 0⟩, 30000000, 3, .int .i64, true⟩], [], [(⟨false, 2, 0⟩, 1000128)]⟩
noncomputable def f8B : Nat → Option Clean := lookL [(0, f8l5), (1000000, f8l6)]
noncomputable abbrev f8i {ρ : Type} (N : Nat) (c : Code) (p : Plan) (σ : St) (K : KT ρ) : Option ρ := iCode f8G tab f8B N c p σ K
noncomputable def f8c (n : Nat) : Code := codeN 99 (bodyOf Tryd.f8) n
theorem f8t1 N v0 (K : KT ρ) : f8i N (f8c 2) .n (f8s0 v0) (joinK (some f8l1) K) =
  impl_ParseInts.Z1 N v0 (fun v0 => K .nrm (f8s1 v0)) := by kernel_rfl
theorem f8t3 N v0 (K : KT ρ) : f8i N (f8c 5) .n (f8s1 v0) (joinK (some f8l1) K) =
  impl_ParseInts.Z3 N v0 (fun v0 => K .nrm (f8s1 v0)) (fun v2 v3 => K .ret (f8s6 v2 v3)) := by kernel_rfl
theorem f8t5 N v0 (K : KT ρ) : f8i N (f8c 11) .n (f8s1 v0) (joinK (some f8l2) K) =
  impl_ParseInts.Z5 N v0 (fun v0 => K .nrm (f8s2 v0)) := by kernel_rfl
theorem f8t8 N v0 (K : KT ρ) : f8i N (f8c 39) .n (f8s2 v0) (joinK (some f8l3) K) =
  impl_ParseInts.Z8 N v0 (fun v12 v0 v13 v14 => K .nrm (f8s3 v12 v0 v13 v14)) := by kernel_rfl
theorem f8t11 N v4 v12 v0 v13 v14 (K : KT ρ) : f8i N (f8c 151) .n (f8s4 v4 v12 v0 v13 v14) (joinK (some f8l4) K) =
  impl_ParseInts.Z11 N v4 v12 v0 v13 v14 (fun v4 v12 v0 v13 v14 => K .nrm (f8s4 v4 v12 v0 v13 v14)) (fun v4 v0 => K (.exit 0) (f8s5 v4 v0)) (fun v2 v3 => K .ret (f8s6 v2 v3)) := by kernel_rfl
noncomputable def f8p10 : Plan := .mk none (some f8l4) .n .n
noncomputable abbrev f8w10 {ρ : Type} (N M : Nat) (σ : St) (K : KT ρ) : Option ρ := loopC (fun σ K => f8i N (f8c 151) .n σ K) f8l4 M σ K
theorem f8t10L {ρ : Type} (N : Nat) (K : KT ρ) : ∀ (M : Nat) (v4 : LI) (v12 : List ByteArray) (v0 : ByteArray) (v13 v14 : Int), f8w10 N M (f8s4 v4 v12 v0 v13 v14) K =
  impl_ParseInts.Z10L N (fun v4 v0 => K (.exit 0) (f8s5 v4 v0)) (fun v2 v3 => K .ret (f8s6 v2 v3)) M v4 v12 v0 v13 v14
  | 0, _, _, _, _, _ => rfl
  | M + 1, v4, v12, v0, v13, v14 => viaRoundS (fun k => impl_ParseInts.Z11 N v4 v12 v0 v13 v14 k (fun v4 v0 => K (.exit 0) (f8s5 v4 v0)) (fun v2 v3 => K .ret (f8s6 v2 v3))) (f8t11 N (K := seqK (fun σ => f8w10 N M σ K) K) ..) (fx5 fun v4 v12 v0 v13 v14 => f8t10L N K M v4 v12 v0 v13 v14) (by kernel_rfl)
theorem f8t10 N v12 v0 v13 v14 (K : KT ρ) : f8i N (f8c 87) f8p10 (f8s3 v12 v0 v13 v14) (joinK (some f8l5) K) =
  impl_ParseInts.Z10 N v12 v0 v13 v14 (fun v4 v0 => K (.exit 0) (f8s5 v4 v0)) (fun v2 v3 => K .ret (f8s6 v2 v3)) :=
 viaLoopS (by kernel_rfl) (f8t10L N (joinK (some f8l5) K) N ([] : List Int) v12 v0 v13 v14) (by kernel_rfl)
noncomputable def f8p9 : Plan := .mk (some f8l5) none f8p10 .n
theorem f8t9 N v12 v0 v13 v14 (K : KT ρ) : f8i N (f8c 55) f8p9 (f8s3 v12 v0 v13 v14) (joinK (some f8l5) K) =
  impl_ParseInts.Z9 N v12 v0 v13 v14 (fun v4 v0 => K .nrm (f8s5 v4 v0)) (fun v2 v3 => K .ret (f8s6 v2 v3)) :=
 viaBlockS (by kernel_rfl) (f8t10 N (K := blockK 0 (joinK (some f8l5) K)) ..) (by kernel_rfl)
noncomputable def f8p7 : Plan := .mk (some f8l3) none .n f8p9
theorem f8t7 N v0 (K : KT ρ) : f8i N (f8c 23) f8p7 (f8s2 v0) (joinK (some f8l5) K) =
  impl_ParseInts.Z7 N v0 (fun v4 v0 => K .nrm (f8s5 v4 v0)) (fun v2 v3 => K .ret (f8s6 v2 v3)) :=
 viaSeqS (fun k => impl_ParseInts.Z8 N v0 k) (by kernel_rfl) (f8t8 N (K := seqK (fun σ => f8i N (f8c 55) f8p9 σ (joinK (some f8l5) K)) (joinK (some f8l5) K)) ..) (fx4 fun v12 v0 v13 v14 => f8t9 N v12 v0 v13 v14 K) (by kernel_rfl)
theorem f8t12 N v4 v0 (K : KT ρ) : f8i N (f8c 31) .n (f8s5 v4 v0) (joinK (some f8lE) K) =
  impl_ParseInts.Z12 N v4 v0 (fun v2 v3 => K .ret (f8s6 v2 v3)) := by kernel_rfl
noncomputable def f8p6 : Plan := .mk (some f8l5) none f8p7 .n
theorem f8t6 N v0 (K : KT ρ) : f8i N (f8c 15) f8p6 (f8s2 v0) (joinK (some f8lE) K) =
  impl_ParseInts.Z6 N v0 (fun v2 v3 => K .ret (f8s6 v2 v3)) :=
 viaSeqS (fun k => impl_ParseInts.Z7 N v0 k (fun v2 v3 => K .ret (f8s6 v2 v3))) (by kernel_rfl) (f8t7 N (K := seqK (fun σ => f8i N (f8c 31) .n σ (joinK (some f8lE) K)) (joinK (some f8lE) K)) ..) (fx2 fun v4 v0 => f8t12 N v4 v0 K) (by kernel_rfl)
noncomputable def f8p4 : Plan := .mk (some f8l2) none .n f8p6
theorem f8t4 N v0 (K : KT ρ) : f8i N (f8c 7) f8p4 (f8s1 v0) (joinK (some f8lE) K) =
  impl_ParseInts.Z4 N v0 (fun v2 v3 => K .ret (f8s6 v2 v3)) :=
 viaSeqS (fun k => impl_ParseInts.Z5 N v0 k) (by kernel_rfl) (f8t5 N (K := seqK (fun σ => f8i N (f8c 15) f8p6 σ (joinK (some f8lE) K)) (joinK (some f8lE) K)) ..) (funext fun v0 => f8t6 N v0 K) (by kernel_rfl)
noncomputable def f8p2 : Plan := .mk (some f8l1) none .n f8p4
theorem f8t2 N v0 (K : KT ρ) : f8i N (f8c 3) f8p2 (f8s1 v0) (joinK (some f8lE) K) =
  impl_ParseInts.Z2 N v0 (fun v2 v3 => K .ret (f8s6 v2 v3)) :=
 viaSeqS (fun k => impl_ParseInts.Z3 N v0 k (fun v2 v3 => K .ret (f8s6 v2 v3))) (by kernel_rfl) (f8t3 N (K := seqK (fun σ => f8i N (f8c 7) f8p4 σ (joinK (some f8lE) K)) (joinK (some f8lE) K)) ..) (funext fun v0 => f8t4 N v0 K) (by kernel_rfl)
noncomputable def f8p0 : Plan := .mk (some f8l1) none .n f8p2
theorem f8t0 N v0 (K : KT ρ) : f8i N (f8c 1) f8p0 (f8s0 v0) (joinK (some f8lE) K) =
  impl_ParseInts.Z0 N v0 (fun v2 v3 => K .ret (f8s6 v2 v3)) :=
 viaSeqS (fun k => impl_ParseInts.Z1 N v0 k) (by kernel_rfl) (f8t1 N (K := seqK (fun σ => f8i N (f8c 3) f8p2 σ (joinK (some f8lE) K)) (joinK (some f8lE) K)) ..) (funext fun v0 => f8t2 N v0 K) (by kernel_rfl)
theorem f8m (N : Nat) (v0 : ByteArray) : f8i N (f8c 1) f8p0 (f8s0 v0) (joinK (some f8lE) (finK tab f8sig Tryd.f8.results.toList)) = impl_ParseInts.Z0 N v0 (fun v2 v3 => some ((), (v2, (v3, ())))) :=
  (f8t0 N v0 (finK tab f8sig Tryd.f8.results.toList)).trans (by kernel_rfl)
theorem f8ok (h : impl_ParseInts.Spec) : EntryOk Tryd.prog 8 e8 :=
  entry_of_code (sig := f8sig) (c := (f8c 1)) (pl := f8p0) (je := (some f8lE)) (B := f8B) Tryd.func8 (by kernel_rfl) (by kernel_rfl) (by kernel_rfl) tabOk f8GOk (by kernel_rfl) (by kernel_rfl) (by kernel_rfl) (by kernel_rfl) fun X hb hp => by
    obtain ⟨v0, _⟩ := X
    obtain ⟨N, h⟩ := h v0 hp
    exact ⟨N, (f8m N v0).trans (h N (Nat.le_refl N))⟩
theorem e8ok : EntryOk Tryd.prog 8 e8 := f8ok impl_ParseInts.ok
end Go.Fw
namespace Go.Fw
variable {ρ : Type}
open Go.Proofs
noncomputable def f92sig : Sig := ⟨[⟨.int .i64, false, false⟩], [⟨.bool, false, false⟩]⟩
noncomputable def e92 : Entry := ⟨f92sig, none, fun X => ((), ((impl_shaped_1.g X.1), ()))⟩
noncomputable def f92G : Gm := addG emptyG 33 e33
theorem f92GOk : GOk Tryd.prog f92G := (GOk.nil).add e33ok (by kernel_rfl)
noncomputable def f92lE : Clean := ⟨[], [], [], [], []⟩
noncomputable def f92s0 (v0 : Int) : St := initSt f92sig.ps (v0, ())
noncomputable def f92s1 (v2 : Bool) : St := stOf [(2, xB v2)] [] []
noncomputable def f92l1 : Clean := ⟨[2], [], [], [], []⟩
noncomputable def f92B : Nat → Option Clean := lookL [(1000000, f92l1)]
noncomputable abbrev f92i {ρ : Type} (N : Nat) (c : Code) (p : Plan) (σ : St) (K : KT ρ) : Option ρ := iCode f92G tab f92B N c p σ K
noncomputable def f92c (n : Nat) : Code := codeN 99 (bodyOf Tryd.f92) n
theorem f92t0 N v0 (K : KT ρ) : f92i N (f92c 1) .n (f92s0 v0) (joinK (some f92lE) K) =
  impl_shaped_1.Z0 N v0 (fun v2 => K .ret (f92s1 v2)) := by kernel_rfl
theorem f92m (N : Nat) (v0 : Int) : f92i N (f92c 1) .n (f92s0 v0) (joinK (some f92lE) (finK tab f92sig Tryd.f92.results.toList)) = impl_shaped_1.Z0 N v0 (fun v2 => some ((), (v2, ()))) :=
  (f92t0 N v0 (finK tab f92sig Tryd.f92.results.toList)).trans (by kernel_rfl)
theorem f92ok (h : impl_shaped_1.Spec) : EntryOk Tryd.prog 92 e92 :=
  entry_of_code (sig := f92sig) (c := (f92c 1)) (pl := .n) (je := (some f92lE)) (B := f92B) Tryd.func92 (by kernel_rfl) (by kernel_rfl) (by kernel_rfl) tabOk f92GOk (by kernel_rfl) (by kernel_rfl) (by kernel_rfl) (by kernel_rfl) fun X hb hp => by
    obtain ⟨v0, _⟩ := X
    obtain ⟨N, h⟩ := h v0
    exact ⟨N, (f92m N v0).trans (h N (Nat.le_refl N))⟩
theorem e92ok : EntryOk Tryd.prog 92 e92 := f92ok impl_shaped_1.ok
end Go.Fw
namespace Go.Fw
variable {ρ : Type}
open Go.Proofs
noncomputable def f100bsig : Sig := ⟨[⟨.sl 3 (.int .i64), false, false⟩, ⟨.fnc 92, false, false⟩], [⟨.int .i64, false, false⟩]⟩
noncomputable def e100b : Entry := ⟨f100bsig, none, fun X => ((), ((slices_IndexFunc_int_int_shaped.g X.1 X.2.1), ()))⟩
noncomputable def f100bG : Gm := addG emptyG 92 e92
theorem f100bGOk : GOk Tryd.prog f100bG := (GOk.nil).add e92ok (by kernel_rfl)
noncomputable def f100blE : Clean := ⟨[], [], [], [], []⟩
noncomputable def f100bs0 (v0 : LI) (v1 : Unit) : St := initSt f100bsig.ps (v0, (v1, ()))
noncomputable def f100bs1 (v0 : LI) : St := stOf [(0, .c (.sn 3 tI v0 none)), (1, .c (.fn 92 []))] [] []
noncomputable def f100bl1 : Clean := ⟨[0, 1], [], [], [], []⟩
noncomputable def f100bs2 (v0 : LI) (v7 v8 : Int) : St := stOf [(0, .c (.sn 3 tI v0 none)), (1, .c (.fn 92 [])), (7, xi v7), (8, xi v8)] [] []
noncomputable def f100bl2 : Clean := ⟨[0, 1, 7, 8], [], [], [], []⟩
noncomputable def f100bs3  : St := stOf [] [] []
noncomputable def f100bl3 : Clean := ⟨[], [], [], [], []⟩
noncomputable def f100bs4 (v4 : Int) : St := stOf [(4, xi v4)] [] []
noncomputable def f100bl4 : Clean := ⟨[4], [], [], [], []⟩
noncomputable def f100bB : Nat → Option Clean := lookL [(0, f100bl3), (1000000, f100bl4)]
noncomputable abbrev f100bi {ρ : Type} (N : Nat) (c : Code) (p : Plan) (σ : St) (K : KT ρ) : Option ρ := iCode f100bG tab f100bB N c p σ K
noncomputable def f100bc (n : Nat) : Code := codeN 99 (bodyOf Tryd.f100) n
theorem f100bt1 N v0 v1 (K : KT ρ) : f100bi N (f100bc 2) .n (f100bs0 v0 v1) (joinK (some f100bl1) K) =
  slices_IndexFunc_int_int_shaped.Z1 N v0 v1 (fun v0 => K .nrm (f100bs1 v0)) := by kernel_rfl
theorem f100bt4 N v0 (K : KT ρ) : f100bi N (f100bc 9) .n (f100bs1 v0) (joinK (some f100bl2) K) =
  slices_IndexFunc_int_int_shaped.Z4 N v0 (fun v0 v7 v8 => K .nrm (f100bs2 v0 v7 v8)) := by kernel_rfl
theorem f100bt7 N v0 v7 v8 (K : KT ρ) : f100bi N (f100bc 37) .n (f100bs2 v0 v7 v8) (joinK (some f100bl2) K) =
  slices_IndexFunc_int_int_shaped.Z7 N v0 v7 v8 (fun v0 v7 v8 => K .nrm (f100bs2 v0 v7 v8)) (K (.exit 0) f100bs3) (fun v4 => K .ret (f100bs4 v4)) := by kernel_rfl
noncomputable def f100bp6 : Plan := .mk none (some f100bl2) .n .n
noncomputable abbrev f100bw6 {ρ : Type} (N M : Nat) (σ : St) (K : KT ρ) : Option ρ := loopC (fun σ K => f100bi N (f100bc 37) .n σ K) f100bl2 M σ K
theorem f100bt6L {ρ : Type} (N : Nat) (K : KT ρ) : ∀ (M : Nat) (v0 : LI) (v7 v8 : Int), f100bw6 N M (f100bs2 v0 v7 v8) K =
  slices_IndexFunc_int_int_shaped.Z6L N (K (.exit 0) f100bs3) (fun v4 => K .ret (f100bs4 v4)) M v0 v7 v8
  | 0, _, _, _ => rfl
  | M + 1, v0, v7, v8 => viaRoundS (fun k => slices_IndexFunc_int_int_shaped.Z7 N v0 v7 v8 k (K (.exit 0) f100bs3) (fun v4 => K .ret (f100bs4 v4))) (f100bt7 N (K := seqK (fun σ => f100bw6 N M σ K) K) ..) (fx3 fun v0 v7 v8 => f100bt6L N K M v0 v7 v8) (by kernel_rfl)
theorem f100bt6 N v0 v7 v8 (K : KT ρ) : f100bi N (f100bc 21) f100bp6 (f100bs2 v0 v7 v8) (joinK (some f100bl3) K) =
  slices_IndexFunc_int_int_shaped.Z6 N v0 v7 v8 (K (.exit 0) f100bs3) (fun v4 => K .ret (f100bs4 v4)) :=
 viaLoopS (by kernel_rfl) (f100bt6L N (joinK (some f100bl3) K) N v0 v7 v8) (by kernel_rfl)
noncomputable def f100bp5 : Plan := .mk (some f100bl3) none f100bp6 .n
theorem f100bt5 N v0 v7 v8 (K : KT ρ) : f100bi N (f100bc 13) f100bp5 (f100bs2 v0 v7 v8) (joinK (some f100bl3) K) =
  slices_IndexFunc_int_int_shaped.Z5 N v0 v7 v8 (K .nrm f100bs3) (fun v4 => K .ret (f100bs4 v4)) :=
 viaBlockS (by kernel_rfl) (f100bt6 N (K := blockK 0 (joinK (some f100bl3) K)) ..) (by kernel_rfl)
noncomputable def f100bp3 : Plan := .mk (some f100bl2) none .n f100bp5
theorem f100bt3 N v0 (K : KT ρ) : f100bi N (f100bc 5) f100bp3 (f100bs1 v0) (joinK (some f100bl3) K) =
  slices_IndexFunc_int_int_shaped.Z3 N v0 (K .nrm f100bs3) (fun v4 => K .ret (f100bs4 v4)) :=
 viaSeqS (fun k => slices_IndexFunc_int_int_shaped.Z4 N v0 k) (by kernel_rfl) (f100bt4 N (K := seqK (fun σ => f100bi N (f100bc 13) f100bp5 σ (joinK (some f100bl3) K)) (joinK (some f100bl3) K)) ..) (fx3 fun v0 v7 v8 => f100bt5 N v0 v7 v8 K) (by kernel_rfl)
theorem f100bt8 N  (K : KT ρ) : f100bi N (f100bc 7) .n f100bs3 (joinK (some f100blE) K) =
  slices_IndexFunc_int_int_shaped.Z8 N (fun v4 => K .ret (f100bs4 v4)) := by kernel_rfl
noncomputable def f100bp2 : Plan := .mk (some f100bl3) none f100bp3 .n
theorem f100bt2 N v0 (K : KT ρ) : f100bi N (f100bc 3) f100bp2 (f100bs1 v0) (joinK (some f100blE) K) =
  slices_IndexFunc_int_int_shaped.Z2 N v0 (fun v4 => K .ret (f100bs4 v4)) :=
 viaSeqS (fun k => slices_IndexFunc_int_int_shaped.Z3 N v0 k (fun v4 => K .ret (f100bs4 v4))) (by kernel_rfl) (f100bt3 N (K := seqK (fun σ => f100bi N (f100bc 7) .n σ (joinK (some f100blE) K)) (joinK (some f100blE) K)) ..) (f100bt8 N K) (by kernel_rfl)
noncomputable def f100bp0 : Plan := .mk (some f100bl1) none .n f100bp2
theorem f100bt0 N v0 v1 (K : KT ρ) : f100bi N (f100bc 1) f100bp0 (f100bs0 v0 v1) (joinK (some f100blE) K) =
  slices_IndexFunc_int_int_shaped.Z0 N v0 v1 (fun v4 => K .ret (f100bs4 v4)) :=
 viaSeqS (fun k => slices_IndexFunc_int_int_shaped.Z1 N v0 v1 k) (by kernel_rfl) (f100bt1 N (K := seqK (fun σ => f100bi N (f100bc 3) f100bp2 σ (joinK (some f100blE) K)) (joinK (some f100blE) K)) ..) (funext fun v0 => f100bt2 N v0 K) (by kernel_rfl)
theorem f100bm (N : Nat) (v0 : LI) (v1 : Unit) : f100bi N (f100bc 1) f100bp0 (f100bs0 v0 v1) (joinK (some f100blE) (finK tab f100bsig Tryd.f100.results.toList)) = slices_IndexFunc_int_int_shaped.Z0 N v0 v1 (fun v4 => some ((), (v4, ()))) :=
  (f100bt0 N v0 v1 (finK tab f100bsig Tryd.f100.results.toList)).trans (by kernel_rfl)
theorem f100bok (h : slices_IndexFunc_int_int_shaped.Spec) : EntryOk Tryd.prog 100 e100b :=
  entry_of_code (sig := f100bsig) (c := (f100bc 1)) (pl := f100bp0) (je := (some f100blE)) (B := f100bB) Tryd.func100 (by kernel_rfl) (by kernel_rfl) (by kernel_rfl) tabOk f100bGOk (by kernel_rfl) (by kernel_rfl) (by kernel_rfl) (by kernel_rfl) fun X hb hp => by
    obtain ⟨v0, v1, _⟩ := X
    obtain ⟨N, h⟩ := h v0 v1 hb.1
    exact ⟨N, (f100bm N v0 v1).trans (h N (Nat.le_refl N))⟩
theorem e100bok : EntryOk Tryd.prog 100 e100b := f100bok slices_IndexFunc_int_int_shaped.ok
end Go.Fw
namespace Go.Fw
variable {ρ : Type}
open Go.Proofs
noncomputable def f79bsig : Sig := ⟨[⟨.sl 3 (.int .i64), false, false⟩, ⟨.fnc 92, false, false⟩], [⟨.bool, false, false⟩]⟩
noncomputable def e79b : Entry := ⟨f79bsig, none, fun X => ((), ((slices_ContainsFunc_int_int_shaped.g X.1 X.2.1), ()))⟩
noncomputable def f79bG : Gm := addG emptyG 100 e100b
theorem f79bGOk : GOk Tryd.prog f79bG := (GOk.nil).add e100bok (by kernel_rfl)
noncomputable def f79blE : Clean := ⟨[], [], [], [], []⟩
noncomputable def f79bs0 (v0 : LI) (v1 : Unit) : St := initSt f79bsig.ps (v0, (v1, ()))
noncomputable def f79bs1 (v4 : Bool) : St := stOf [(4, xB v4)] [] []
noncomputable def f79bl1 : Clean := ⟨[4], [], [], [], []⟩
noncomputable def f79bB : Nat → Option Clean := lookL [(1000000, f79bl1)]
noncomputable abbrev f79bi {ρ : Type} (N : Nat) (c : Code) (p : Plan) (σ : St) (K : KT ρ) : Option ρ := iCode f79bG tab f79bB N c p σ K
noncomputable def f79bc (n : Nat) : Code := codeN 99 (bodyOf Tryd.f79) n
theorem f79bt0 N v0 v1 (K : KT ρ) : f79bi N (f79bc 1) .n (f79bs0 v0 v1) (joinK (some f79blE) K) =
  slices_ContainsFunc_int_int_shaped.Z0 N v0 v1 (fun v4 => K .ret (f79bs1 v4)) := by kernel_rfl
theorem f79bm (N : Nat) (v0 : LI) (v1 : Unit) : f79bi N (f79bc 1) .n (f79bs0 v0 v1) (joinK (some f79blE) (finK tab f79bsig Tryd.f79.results.toList)) = slices_ContainsFunc_int_int_shaped.Z0 N v0 v1 (fun v4 => some ((), (v4, ()))) :=
  (f79bt0 N v0 v1 (finK tab f79bsig Tryd.f79.results.toList)).trans (by kernel_rfl)
theorem f79bok (h : slices_ContainsFunc_int_int_shaped.Spec) : EntryOk Tryd.prog 79 e79b :=
  entry_of_code (sig := f79bsig) (c := (f79bc 1)) (pl := .n) (je := (some f79blE)) (B := f79bB) Tryd.func79 (by kernel_rfl) (by kernel_rfl) (by kernel_rfl) tabOk f79bGOk (by kernel_rfl) (by kernel_rfl) (by kernel_rfl) (by kernel_rfl) fun X hb hp => by
    obtain ⟨v0, v1, _⟩ := X
    obtain ⟨N, h⟩ := h v0 v1 hb.1
    exact ⟨N, (f79bm N v0 v1).trans (h N (Nat.le_refl N))⟩
theorem e79bok : EntryOk Tryd.prog 79 e79b := f79bok slices_ContainsFunc_int_int_shaped.ok
end Go.Fw
namespace Go.Fw
variable {ρ : Type}
open Go.Proofs
noncomputable def f62sig : Sig := ⟨[⟨.pair (.int .i64) (.pair (.int .i64) (.sl 3 (.int .i64))), true, false⟩], [⟨.bool, false, false⟩]⟩
noncomputable def e62 : Entry := ⟨f62sig, none, fun X => ((), ((impl_shaped.g X.1), ()))⟩
noncomputable def f62G : Gm := addG (addG emptyG 33 e33) 79 e79b
theorem f62GOk : GOk Tryd.prog f62G := ((GOk.nil).add e33ok (by kernel_rfl)).add e79bok (by kernel_rfl)
noncomputable def f62lE : Clean := ⟨[], [], [], [], []⟩
noncomputable def f62s0 (v0 : MT) : St := initSt f62sig.ps (v0, ())
noncomputable def f62s1 (v2 : Bool) : St := stOf [(2, xB v2)] [] []
noncomputable def f62l1 : Clean := ⟨[2], [], [], [], []⟩
noncomputable def f62B : Nat → Option Clean := lookL [(1000000, f62l1)]
noncomputable abbrev f62i {ρ : Type} (N : Nat) (c : Code) (p : Plan) (σ : St) (K : KT ρ) : Option ρ := iCode f62G tab f62B N c p σ K
noncomputable def f62c (n : Nat) : Code := codeN 99 (bodyOf Tryd.f62) n
theorem f62t0 N v0 (K : KT ρ) : f62i N (f62c 1) .n (f62s0 v0) (joinK (some f62lE) K) =
  impl_shaped.Z0 N v0 (fun v2 => K .ret (f62s1 v2)) := by kernel_rfl
theorem f62m (N : Nat) (v0 : MT) : f62i N (f62c 1) .n (f62s0 v0) (joinK (some f62lE) (finK tab f62sig Tryd.f62.results.toList)) = impl_shaped.Z0 N v0 (fun v2 => some ((), (v2, ()))) :=
  (f62t0 N v0 (finK tab f62sig Tryd.f62.results.toList)).trans (by kernel_rfl)
theorem f62ok (h : impl_shaped.Spec) : EntryOk Tryd.prog 62 e62 :=
  entry_of_code (sig := f62sig) (c := (f62c 1)) (pl := .n) (je := (some f62lE)) (B := f62B) Tryd.func62 (by kernel_rfl) (by kernel_rfl) (by kernel_rfl) tabOk f62GOk (by kernel_rfl) (by kernel_rfl) (by kernel_rfl) (by kernel_rfl) fun X hb hp => by
    obtain ⟨v0, _⟩ := X
    obtain ⟨N, h⟩ := h v0 hb.1
    exact ⟨N, (f62m N v0).trans (h N (Nat.le_refl N))⟩
theorem e62ok : EntryOk Tryd.prog 62 e62 := f62ok impl_shaped.ok
end Go.Fw
namespace Go.Fw
variable {ρ : Type}
open Go.Proofs
noncomputable def f93sig : Sig := ⟨[⟨.pair (.int .i64) (.pair (.int .i64) (.sl 3 (.int .i64))), true, false⟩, ⟨.int .i64, false, false⟩, ⟨.int .i64, false, false⟩], [⟨.int .i64, false, false⟩]⟩
noncomputable def e93 : Entry := ⟨f93sig, (some fun X => impl_Matrix_at.P X.1 X.2.1 X.2.2.1), fun X => ((), ((impl_Matrix_at.g X.1 X.2.1 X.2.2.1), ()))⟩
noncomputable def f93G : Gm := emptyG
theorem f93GOk : GOk Tryd.prog f93G := GOk.nil
noncomputable def f93lE : Clean := ⟨[], [], [], [], []⟩
noncomputable def f93s0 (v0 : MT) (v1 v2 : Int) : St := initSt f93sig.ps (v0, (v1, (v2, ())))
noncomputable def f93s1 (v6 : Int) : St := stOf [(6, xi v6)] [] []
noncomputable def f93l1 : Clean := ⟨[6], [], [], [], []⟩
noncomputable def f93B : Nat → Option Clean := lookL [(1000000, f93l1)]
noncomputable abbrev f93i {ρ : Type} (N : Nat) (c : Code) (p : Plan) (σ : St) (K : KT ρ) : Option ρ := iCode f93G tab f93B N c p σ K
noncomputable def f93c (n : Nat) : Code := codeN 99 (bodyOf Tryd.f93) n
theorem f93t0 N v0 v1 v2 (K : KT ρ) : f93i N (f93c 1) .n (f93s0 v0 v1 v2) (joinK (some f93lE) K) =
  impl_Matrix_at.Z0 N v0 v1 v2 (fun v6 => K .ret (f93s1 v6)) := by kernel_rfl
theorem f93m (N : Nat) (v0 : MT) (v1 v2 : Int) : f93i N (f93c 1) .n (f93s0 v0 v1 v2) (joinK (some f93lE) (finK tab f93sig Tryd.f93.results.toList)) = impl_Matrix_at.Z0 N v0 v1 v2 (fun v6 => some ((), (v6, ()))) :=
  (f93t0 N v0 v1 v2 (finK tab f93sig Tryd.f93.results.toList)).trans (by kernel_rfl)
theorem f93ok (h : impl_Matrix_at.Spec) : EntryOk Tryd.prog 93 e93 :=
  entry_of_code (sig := f93sig) (c := (f93c 1)) (pl := .n) (je := (some f93lE)) (B := f93B) Tryd.func93 (by kernel_rfl) (by kernel_rfl) (by kernel_rfl) tabOk f93GOk (by kernel_rfl) (by kernel_rfl) (by kernel_rfl) (by kernel_rfl) fun X hb hp => by
    obtain ⟨v0, v1, v2, _⟩ := X
    obtain ⟨N, h⟩ := h v0 v1 v2 hb.1 hp
    exact ⟨N, (f93m N v0 v1 v2).trans (h N (Nat.le_refl N))⟩
theorem e93ok : EntryOk Tryd.prog 93 e93 := f93ok impl_Matrix_at.ok
end Go.Fw
namespace Go.Fw
variable {ρ : Type}
open Go.Proofs
noncomputable def f94sig : Sig := ⟨[⟨.int .i64, false, false⟩, ⟨.int .i64, false, false⟩], [⟨.int .i64, false, false⟩]⟩
noncomputable def e94 : Entry := ⟨f94sig, (some fun X => impl_gcd.P X.1 X.2.1), fun X => ((), ((impl_gcd.g X.1 X.2.1), ()))⟩
noncomputable def f94G : Gm := emptyG
theorem f94GOk : GOk Tryd.prog f94G := GOk.nil
noncomputable def f94lE : Clean := ⟨[], [], [], [], []⟩
noncomputable def f94s0 (v0 v1 : Int) : St := initSt f94sig.ps (v0, (v1, ()))
noncomputable def f94s1 (v0 v1 : Int) : St := stOf [(0, xi v0), (1, xi v1)] [] []
noncomputable def f94l1 : Clean := ⟨[0, 1], [], [], [], []⟩
noncomputable def f94s2 (v0 : Int) : St := stOf [(0, xi v0)] [] []
noncomputable def f94l2 : Clean := ⟨[0], [], [], [], []⟩
noncomputable def f94s3 (v4 : Int) : St := stOf [(4, xi v4)] [] []
noncomputable def f94l3 : Clean := ⟨[4], [], [], [], []⟩
noncomputable def f94B : Nat → Option Clean := lookL [(0, f94l2), (1000000, f94l3)]
noncomputable abbrev f94i {ρ : Type} (N : Nat) (c : Code) (p : Plan) (σ : St) (K : KT ρ) : Option ρ := iCode f94G tab f94B N c p σ K
noncomputable def f94c (n : Nat) : Code := codeN 99 (bodyOf Tryd.f94) n
theorem f94t1 N v0 v1 (K : KT ρ) : f94i N (f94c 2) .n (f94s0 v0 v1) (joinK (some f94l1) K) =
  impl_gcd.Z1 N v0 v1 (fun v0 v1 => K .nrm (f94s1 v0 v1)) := by kernel_rfl
theorem f94t5 N v0 v1 (K : KT ρ) : f94i N (f94c 17) .n (f94s1 v0 v1) (joinK (some f94l1) K) =
  impl_gcd.Z5 N v0 v1 (fun v0 v1 => K .nrm (f94s1 v0 v1)) (fun v0 => K (.exit 0) (f94s2 v0)) := by kernel_rfl
noncomputable def f94p4 : Plan := .mk none (some f94l1) .n .n
noncomputable abbrev f94w4 {ρ : Type} (N M : Nat) (σ : St) (K : KT ρ) : Option ρ := loopC (fun σ K => f94i N (f94c 17) .n σ K) f94l1 M σ K
theorem f94t4L {ρ : Type} (N : Nat) (K : KT ρ) : ∀ (M : Nat) (v0 v1 : Int), f94w4 N M (f94s1 v0 v1) K =
  impl_gcd.Z4L N (fun v0 => K (.exit 0) (f94s2 v0)) M v0 v1
  | 0, _, _ => rfl
  | M + 1, v0, v1 => viaRoundS (fun k => impl_gcd.Z5 N v0 v1 k (fun v0 => K (.exit 0) (f94s2 v0))) (f94t5 N (K := seqK (fun σ => f94w4 N M σ K) K) ..) (fx2 fun v0 v1 => f94t4L N K M v0 v1) (by kernel_rfl)
theorem f94t4 N v0 v1 (K : KT ρ) : f94i N (f94c 9) f94p4 (f94s1 v0 v1) (joinK (some f94l2) K) =
  impl_gcd.Z4 N v0 v1 (fun v0 => K (.exit 0) (f94s2 v0)) :=
 viaLoopS (by kernel_rfl) (f94t4L N (joinK (some f94l2) K) N v0 v1) (by kernel_rfl)
noncomputable def f94p3 : Plan := .mk (some f94l2) none f94p4 .n
theorem f94t3 N v0 v1 (K : KT ρ) : f94i N (f94c 5) f94p3 (f94s1 v0 v1) (joinK (some f94l2) K) =
  impl_gcd.Z3 N v0 v1 (fun v0 => K .nrm (f94s2 v0)) :=
 viaBlockS (by kernel_rfl) (f94t4 N (K := blockK 0 (joinK (some f94l2) K)) ..) (by kernel_rfl)
theorem f94t6 N v0 (K : KT ρ) : f94i N (f94c 7) .n (f94s2 v0) (joinK (some f94lE) K) =
  impl_gcd.Z6 N v0 (fun v4 => K .ret (f94s3 v4)) := by kernel_rfl
noncomputable def f94p2 : Plan := .mk (some f94l2) none f94p3 .n
theorem f94t2 N v0 v1 (K : KT ρ) : f94i N (f94c 3) f94p2 (f94s1 v0 v1) (joinK (some f94lE) K) =
  impl_gcd.Z2 N v0 v1 (fun v4 => K .ret (f94s3 v4)) :=
 viaSeqS (fun k => impl_gcd.Z3 N v0 v1 k) (by kernel_rfl) (f94t3 N (K := seqK (fun σ => f94i N (f94c 7) .n σ (joinK (some f94lE) K)) (joinK (some f94lE) K)) ..) (funext fun v0 => f94t6 N v0 K) (by kernel_rfl)
noncomputable def f94p0 : Plan := .mk (some f94l1) none .n f94p2
theorem f94t0 N v0 v1 (K : KT ρ) : f94i N (f94c 1) f94p0 (f94s0 v0 v1) (joinK (some f94lE) K) =
  impl_gcd.Z0 N v0 v1 (fun v4 => K .ret (f94s3 v4)) :=
 viaSeqS (fun k => impl_gcd.Z1 N v0 v1 k) (by kernel_rfl) (f94t1 N (K := seqK (fun σ => f94i N (f94c 3) f94p2 σ (joinK (some f94lE) K)) (joinK (some f94lE) K)) ..) (fx2 fun v0 v1 => f94t2 N v0 v1 K) (by kernel_rfl)
theorem f94m (N : Nat) (v0 v1 : Int) : f94i N (f94c 1) f94p0 (f94s0 v0 v1) (joinK (some f94lE) (finK tab f94sig Tryd.f94.results.toList)) = impl_gcd.Z0 N v0 v1 (fun v4 => some ((), (v4, ()))) :=
  (f94t0 N v0 v1 (finK tab f94sig Tryd.f94.results.toList)).trans (by kernel_rfl)
theorem f94ok (h : impl_gcd.Spec) : EntryOk Tryd.prog 94 e94 :=
  entry_of_code (sig := f94sig) (c := (f94c 1)) (pl := f94p0) (je := (some f94lE)) (B := f94B) Tryd.func94 (by kernel_rfl) (by kernel_rfl) (by kernel_rfl) tabOk f94GOk (by kernel_rfl) (by kernel_rfl) (by kernel_rfl) (by kernel_rfl) fun X hb hp => by
    obtain ⟨v0, v1, _⟩ := X
    obtain ⟨N, h⟩ := h v0 v1 hp
    exact ⟨N, (f94m N v0 v1).trans (h N (Nat.le_refl N))⟩
theorem e94ok : EntryOk Tryd.prog 94 e94 := f94ok impl_gcd.ok
end Go.Fw
