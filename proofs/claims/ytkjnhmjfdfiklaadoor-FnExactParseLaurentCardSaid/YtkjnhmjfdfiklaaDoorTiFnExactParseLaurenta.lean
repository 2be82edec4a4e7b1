/- The ties: the program's text comes to the plain functions. Nothing is assumed. -/
import Derived.Test.YtkjnhmjfdfiklaaDoorFza
import Derived.Test.YtkjnhmjfdfiklaaDoorProg
import Derived.Test.YtkjnhmjfdfiklaaDoorPuFnExactParseLaurenta
import Derived.Test.YtkjnhmjfdfiklaaDoorChecked
import Derived.Test.YtkjnhmjfdfiklaaDoorPuFnExactParseLaurentb
set_option linter.unusedVariables false
set_option linter.unusedSimpArgs false
set_option maxRecDepth 100000
namespace Go.Fw
open Go.Proofs
def tab : Tab := lookTab [
  (2, ⟨false, .int .i64, [.int .i64 0], [], none, 8⟩),
  (3, ⟨false, .int .i64, [.int .i64 0], [], none, 8⟩),
  (4, ⟨false, .bool, [.bool false], [], none, 1⟩),
  (5, ⟨false, .int .u8, [.int .u8 0], [], none, 1⟩),
  (6, ⟨false, .int .u8, [.int .u8 0], [], none, 1⟩),
  (7, ⟨true, .pair (.int .i64) (.pair (.int .i64) (.pair (.bool) (.int .u8))), [.int .i64 0, .int .i64 0, .bool false, .int .u8 0], [(0, 1, false), (1, 1, false), (2, 1, false), (3, 1, false)], none, 24⟩),
  (8, ⟨true, .pair (.int .i64) (.pair (.int .i64) (.pair (.bool) (.int .u8))), [.int .i64 0, .int .i64 0, .bool false, .int .u8 0], [(0, 1, false), (1, 1, false), (2, 1, false), (3, 1, false)], none, 24⟩),
  (9, ⟨false, .str, [.str ByteArray.empty], [], none, 16⟩),
  (10, ⟨false, .str, [.str ByteArray.empty], [], none, 16⟩),
  (11, ⟨false, .str, [.str ByteArray.empty], [], none, 16⟩),
  (12, ⟨false, .int .u64, [.int .u64 0], [], none, 8⟩),
  (13, ⟨true, .pair (.str) (.int .u64), [.str ByteArray.empty, .int .u64 0], [(0, 1, false), (1, 1, false)], none, 24⟩),
  (14, ⟨true, .pair (.str) (.int .u64), [.str ByteArray.empty, .int .u64 0], [(0, 1, false), (1, 1, false)], none, 24⟩),
  (20, ⟨false, .err, [.err false], [], none, 16⟩),
  (21, ⟨false, .int .i32, [.int .i32 0], [], none, 4⟩),
  (22, ⟨false, .sl 3 (.int .i64), [.nil], [], some 3, 24⟩),
  (28, ⟨true, .pair (.int .i64) (.pair (.int .i64) (.sl 3 (.int .i64))), [.int .i64 0, .int .i64 0, .nil], [(0, 1, false), (1, 1, false), (2, 1, false)], none, 40⟩),
  (29, ⟨true, .pair (.int .i64) (.pair (.int .i64) (.sl 3 (.int .i64))), [.int .i64 0, .int .i64 0, .nil], [(0, 1, false), (1, 1, false), (2, 1, false)], none, 40⟩),
  (34, ⟨false, .sl 61 (.pair (.sl 3 (.int .i64)) (.int .i64)), [.nil], [], some 61, 24⟩),
  (35, ⟨true, .pair (.int .i64) (.sl 61 (.pair (.sl 3 (.int .i64)) (.int .i64))), [.int .i64 0, .nil], [(0, 1, false), (1, 1, false)], none, 32⟩),
  (36, ⟨true, .pair (.int .i64) (.sl 61 (.pair (.sl 3 (.int .i64)) (.int .i64))), [.int .i64 0, .nil], [(0, 1, false), (1, 1, false)], none, 32⟩),
  (41, ⟨false, .sl 5 (.int .u8), [.nil], [], some 5, 24⟩),
  (47, ⟨false, .sl 9 (.str), [.nil], [], some 9, 24⟩),
  (52, ⟨false, .err, [.err false], [], none, 16⟩),
  (53, ⟨false, .err, [.err false], [], none, 16⟩),
  (60, ⟨true, .pair (.sl 3 (.int .i64)) (.int .i64), [.nil, .int .i64 0], [(0, 1, false), (1, 1, false)], none, 32⟩),
  (61, ⟨true, .pair (.sl 3 (.int .i64)) (.int .i64), [.nil, .int .i64 0], [(0, 1, false), (1, 1, false)], none, 32⟩),
  (80, ⟨false, .sl 22 (.sl 3 (.int .i64)), [.nil], [], some 22, 24⟩),
  (83, ⟨true, .pair (.sl 5 (.int .u8)) (.pair (.int .i64) (.int .i64)), [.nil, .int .i64 0, .int .i64 0], [(0, 1, false), (1, 1, false), (2, 1, false)], none, 40⟩),
  (84, ⟨true, .pair (.sl 5 (.int .u8)) (.pair (.int .i64) (.int .i64)), [.nil, .int .i64 0, .int .i64 0], [(0, 1, false), (1, 1, false), (2, 1, false)], none, 40⟩),
  (87, ⟨false, .sl 91 (.pair (.int .i64) (.int .i64)), [.nil], [], some 91, 24⟩),
  (90, ⟨true, .pair (.int .i64) (.int .i64), [.int .i64 0, .int .i64 0], [(0, 1, false), (1, 1, false)], none, 16⟩),
  (91, ⟨true, .pair (.int .i64) (.int .i64), [.int .i64 0, .int .i64 0], [(0, 1, false), (1, 1, false)], none, 16⟩),
  (103, ⟨false, .int .i64, [.int .i64 0], [], none, 8⟩),
  (110, ⟨false, .int .u64, [.int .u64 0], [], none, 8⟩),
  (118, ⟨false, .int .u64, [.int .u64 0], [], none, 8⟩),
  (122, ⟨true, .pair (.str) (.pair (.str) (.err)), [.str ByteArray.empty, .str ByteArray.empty, .err false], [(0, 1, false), (1, 1, false), (2, 1, false)], none, 48⟩),
  (123, ⟨true, .pair (.str) (.pair (.str) (.err)), [.str ByteArray.empty, .str ByteArray.empty, .err false], [(0, 1, false), (1, 1, false), (2, 1, false)], none, 48⟩),
  (135, ⟨true, .str, [.str ByteArray.empty], [(0, 1, false)], none, 16⟩),
  (136, ⟨true, .str, [.str ByteArray.empty], [(0, 1, false)], none, 16⟩),
  (137, ⟨false, .int .u32, [.int .u32 0], [], none, 4⟩),
  (146, ⟨true, .pair (.int .u8) (.int .u8), [.int .u8 0, .int .u8 0], [(0, 1, false), (1, 1, false)], none, 2⟩),
  (147, ⟨true, .pair (.int .u8) (.int .u8), [.int .u8 0, .int .u8 0], [(0, 1, false), (1, 1, false)], none, 2⟩),
  (162, ⟨false, .int .u8, [.int .u8 0], [], none, 1⟩),
  (163, ⟨false, .int .u8, [.int .u8 0], [], none, 1⟩),
  (165, ⟨false, .int .i32, [.int .i32 0], [], none, 4⟩),
  (166, ⟨false, .int .i32, [.int .i32 0], [], none, 4⟩)]
theorem tabOk : TOk Tryd.prog tab := TOk.of (by kernel_rfl)
noncomputable def tabl : List (String × IntKind × List Int) := [("internal/strconv.uint64pow10", .u64, Lib.pow10Tab)]
noncomputable def intl : List (String × IntKind) := [("internal/bytealg.MaxLen", .i64)]
noncomputable def errl : List String := ["strconv.ErrSyntax", "strconv.ErrRange"]
noncomputable instance : Inv Tryd.prog := Inv.tabs _ tabl intl errl
theorem tab0 (w : World) (h : Inv.I Tryd.prog w) : Lib.TabIs Tryd.prog w "internal/strconv.uint64pow10" .u64 Lib.pow10Tab := Inv.tab_mem (q := intl) (es := errl) ("internal/strconv.uint64pow10", .u64, Lib.pow10Tab) (List.mem_of_getElem? (i := 0) rfl) w h
theorem int0 (w : World) (h : Inv.I Tryd.prog w) : ∃ g, Tryd.prog.globalNamed "internal/bytealg.MaxLen" = some g ∧ ∃ m, w.cell? ⟨g, 0, none⟩ = some (.int .i64 m) := Inv.int_mem (l := tabl) (es := errl) ("internal/bytealg.MaxLen", .i64) (List.mem_of_getElem? (i := 0) rfl) w h
theorem err0 (w : World) (h : Inv.I Tryd.prog w) : ∃ g, Tryd.prog.globalNamed "strconv.ErrSyntax" = some g ∧ ∃ v b, w.cell? ⟨g, 0, none⟩ = some v ∧ ErrV v b := Inv.err_mem (l := tabl) (q := intl) "strconv.ErrSyntax" (List.mem_of_getElem? (i := 0) rfl) w h
theorem err1 (w : World) (h : Inv.I Tryd.prog w) : ∃ g, Tryd.prog.globalNamed "strconv.ErrRange" = some g ∧ ∃ v b, w.cell? ⟨g, 0, none⟩ = some v ∧ ErrV v b := Inv.err_mem (l := tabl) (q := intl) "strconv.ErrRange" (List.mem_of_getElem? (i := 1) rfl) w h
end Go.Fw
namespace Go.Fw
variable {ρ : Type}
open Go.Proofs
noncomputable def f29sig : Sig := ⟨[⟨.str, false, false⟩, ⟨.int .u8, false, false⟩], [⟨.sl 9 (.str), false, false⟩]⟩
noncomputable def e29 : Entry := ⟨f29sig, (some fun X => spec_l1Split.P X.1 X.2.1), fun X => ((), ((spec_l1Split.g X.1 X.2.1), ()))⟩
noncomputable def f29G : Gm := emptyG
theorem f29GOk : GOk Tryd.prog f29G := GOk.nil
noncomputable def f29lE : Clean := ⟨[], [], [], [], []⟩
noncomputable def f29s0 (v0 : ByteArray) (v1 : Int) : St := initSt f29sig.ps (v0, (v1, ()))
noncomputable def f29s1 (v0 : ByteArray) (v1 : Int) : St := stOf [(0, .c (.str v0)), (1, .c (.int .u8 v1))] [] []
noncomputable def f29l1 : Clean := ⟨[0, 1], [], [], [], []⟩
noncomputable def f29s2 (v5 : List ByteArray) (v0 : ByteArray) (v1 : Int) : St := stOf [(0, .c (.str v0)), (1, .c (.int .u8 v1)), (5, xo 1000320)] [] [(1000320, (⟨9, .str, v5, true, false⟩ : Row))]
noncomputable def f29l2 : Clean := ⟨[0, 1, 5], [], [], [], [(⟨false, 5, 0⟩, 1000320)]⟩
noncomputable def f29s3 (v5 : List ByteArray) (v0 : ByteArray) (v1 v6 : Int) : St := stOf [(0, .c (.str v0)), (1, .c (.int .u8 v1)), (5, xo 1000320), (6, xi v6)] [] [(1000320, (⟨9, .str, v5, true, false⟩ : Row))]
noncomputable def f29l3 : Clean := ⟨[0, 1, 5, 6], [], [], [], [(⟨false, 5, 0⟩, 1000320)]⟩
noncomputable def f29s4 (v5 : List ByteArray) (v0 : ByteArray) (v1 v6 v7 : Int) : St := stOf [(0, .c (.str v0)), (1, .c (.int .u8 v1)), (5, xo 1000320), (6, xi v6), (7, xi v7)] [] [(1000320, (⟨9, .str, v5, true, false⟩ : Row))]
noncomputable def f29l4 : Clean := ⟨[0, 1, 5, 6, 7], [], [], [], [(⟨false, 5, 0⟩, 1000320)]⟩
noncomputable def f29s5 (v5 : List ByteArray) : St := stOf [(5, xo 1000320)] [] [(1000320, (⟨9, .str, v5, true, false⟩ : Row))]
noncomputable def f29l5 : Clean := ⟨[5], [], [], [], [(⟨false, 5, 0⟩, 1000320)]⟩
noncomputable def f29s6 (v4 : List ByteArray) : St := stOf [(4, xo 1000256)] [] [(1000256, (⟨9, .str, v4, true, false⟩ : Row))]
noncomputable def f29l6 : Clean := ⟨[4], [], [], [], [(⟨false, 4, 0⟩, 1000256)]⟩
noncomputable def f29B : Nat → Option Clean := lookL [(0, f29l5), (1000000, f29l6)]
noncomputable abbrev f29i {ρ : Type} (N : Nat) (c : Code) (p : Plan) (σ : St) (K : KT ρ) : Option ρ := iCode f29G tab f29B N c p σ K
noncomputable def f29c (n : Nat) : Code := codeN 99 (bodyOf Tryd.f29) n
theorem f29t1 N v0 v1 (K : KT ρ) : f29i N (f29c 2) .n (f29s0 v0 v1) (joinK (some f29l1) K) =
  spec_l1Split.Z1 N v0 v1 (fun v0 v1 => K .nrm (f29s1 v0 v1)) := by kernel_rfl
theorem f29t3 N v0 v1 (K : KT ρ) : f29i N (f29c 5) .n (f29s1 v0 v1) (joinK (some f29l2) K) =
  spec_l1Split.Z3 N v0 v1 (fun v5 v0 v1 => K .nrm (f29s2 v5 v0 v1)) := by kernel_rfl
theorem f29t5 N v5 v0 v1 (K : KT ρ) : f29i N (f29c 11) .n (f29s2 v5 v0 v1) (joinK (some f29l3) K) =
  spec_l1Split.Z5 N v5 v0 v1 (fun v5 v0 v1 v6 => K .nrm (f29s3 v5 v0 v1 v6)) := by kernel_rfl
theorem f29t8 N v5 v0 v1 v6 (K : KT ρ) : f29i N (f29c 39) .n (f29s3 v5 v0 v1 v6) (joinK (some f29l4) K) =
  spec_l1Split.Z8 N v5 v0 v1 v6 (fun v5 v0 v1 v6 v7 => K .nrm (f29s4 v5 v0 v1 v6 v7)) := by kernel_rfl
theorem f29t11 N v5 v0 v1 v6 v7 (K : KT ρ) : f29i N (f29c 151) .n (f29s4 v5 v0 v1 v6 v7) (joinK (some f29l4) K) =
  spec_l1Split.Z11 N v5 v0 v1 v6 v7 (fun v5 v0 v1 v6 v7 => K .nrm (f29s4 v5 v0 v1 v6 v7)) (fun v5 => K (.exit 0) (f29s5 v5)) := by kernel_rfl
noncomputable def f29p10 : Plan := .mk none (some f29l4) .n .n
noncomputable abbrev f29w10 {ρ : Type} (N M : Nat) (σ : St) (K : KT ρ) : Option ρ := loopC (fun σ K => f29i N (f29c 151) .n σ K) f29l4 M σ K
theorem f29t10L {ρ : Type} (N : Nat) (K : KT ρ) : ∀ (M : Nat) (v5 : List ByteArray) (v0 : ByteArray) (v1 v6 v7 : Int), f29w10 N M (f29s4 v5 v0 v1 v6 v7) K =
  spec_l1Split.Z10L N (fun v5 => K (.exit 0) (f29s5 v5)) M v5 v0 v1 v6 v7
  | 0, _, _, _, _, _ => rfl
  | M + 1, v5, v0, v1, v6, v7 => viaRoundS (fun k => spec_l1Split.Z11 N v5 v0 v1 v6 v7 k (fun v5 => K (.exit 0) (f29s5 v5))) (f29t11 N (K := seqK (fun σ => f29w10 N M σ K) K) ..) (fx5 fun v5 v0 v1 v6 v7 => f29t10L N K M v5 v0 v1 v6 v7) (by kernel_rfl)
theorem f29t10 N v5 v0 v1 v6 v7 (K : KT ρ) : f29i N (f29c 87) f29p10 (f29s4 v5 v0 v1 v6 v7) (joinK (some f29l5) K) =
  spec_l1Split.Z10 N v5 v0 v1 v6 v7 (fun v5 => K (.exit 0) (f29s5 v5)) :=
 viaLoopS (by kernel_rfl) (f29t10L N (joinK (some f29l5) K) N v5 v0 v1 v6 v7) (by kernel_rfl)
noncomputable def f29p9 : Plan := .mk (some f29l5) none f29p10 .n
theorem f29t9 N v5 v0 v1 v6 v7 (K : KT ρ) : f29i N (f29c 55) f29p9 (f29s4 v5 v0 v1 v6 v7) (joinK (some f29l5) K) =
  spec_l1Split.Z9 N v5 v0 v1 v6 v7 (fun v5 => K .nrm (f29s5 v5)) :=
 viaBlockS (by kernel_rfl) (f29t10 N (K := blockK 0 (joinK (some f29l5) K)) ..) (by kernel_rfl)
noncomputable def f29p7 : Plan := .mk (some f29l4) none .n f29p9
theorem f29t7 N v5 v0 v1 v6 (K : KT ρ) : f29i N (f29c 23) f29p7 (f29s3 v5 v0 v1 v6) (joinK (some f29l5) K) =
  spec_l1Split.Z7 N v5 v0 v1 v6 (fun v5 => K .nrm (f29s5 v5)) :=
 viaSeqS (fun k => spec_l1Split.Z8 N v5 v0 v1 v6 k) (by kernel_rfl) (f29t8 N (K := seqK (fun σ => f29i N (f29c 55) f29p9 σ (joinK (some f29l5) K)) (joinK (some f29l5) K)) ..) (fx5 fun v5 v0 v1 v6 v7 => f29t9 N v5 v0 v1 v6 v7 K) (by kernel_rfl)
theorem f29t12 N v5 (K : KT ρ) : f29i N (f29c 31) .n (f29s5 v5) (joinK (some f29lE) K) =
  spec_l1Split.Z12 N v5 (fun v4 => K .ret (f29s6 v4)) := by kernel_rfl
noncomputable def f29p6 : Plan := .mk (some f29l5) none f29p7 .n
theorem f29t6 N v5 v0 v1 v6 (K : KT ρ) : f29i N (f29c 15) f29p6 (f29s3 v5 v0 v1 v6) (joinK (some f29lE) K) =
  spec_l1Split.Z6 N v5 v0 v1 v6 (fun v4 => K .ret (f29s6 v4)) :=
 viaSeqS (fun k => spec_l1Split.Z7 N v5 v0 v1 v6 k) (by kernel_rfl) (f29t7 N (K := seqK (fun σ => f29i N (f29c 31) .n σ (joinK (some f29lE) K)) (joinK (some f29lE) K)) ..) (funext fun v5 => f29t12 N v5 K) (by kernel_rfl)
noncomputable def f29p4 : Plan := .mk (some f29l3) none .n f29p6
theorem f29t4 N v5 v0 v1 (K : KT ρ) : f29i N (f29c 7) f29p4 (f29s2 v5 v0 v1) (joinK (some f29lE) K) =
  spec_l1Split.Z4 N v5 v0 v1 (fun v4 => K .ret (f29s6 v4)) :=
 viaSeqS (fun k => spec_l1Split.Z5 N v5 v0 v1 k) (by kernel_rfl) (f29t5 N (K := seqK (fun σ => f29i N (f29c 15) f29p6 σ (joinK (some f29lE) K)) (joinK (some f29lE) K)) ..) (fx4 fun v5 v0 v1 v6 => f29t6 N v5 v0 v1 v6 K) (by kernel_rfl)
noncomputable def f29p2 : Plan := .mk (some f29l2) none .n f29p4
theorem f29t2 N v0 v1 (K : KT ρ) : f29i N (f29c 3) f29p2 (f29s1 v0 v1) (joinK (some f29lE) K) =
  spec_l1Split.Z2 N v0 v1 (fun v4 => K .ret (f29s6 v4)) :=
 viaSeqS (fun k => spec_l1Split.Z3 N v0 v1 k) (by kernel_rfl) (f29t3 N (K := seqK (fun σ => f29i N (f29c 7) f29p4 σ (joinK (some f29lE) K)) (joinK (some f29lE) K)) ..) (fx3 fun v5 v0 v1 => f29t4 N v5 v0 v1 K) (by kernel_rfl)
noncomputable def f29p0 : Plan := .mk (some f29l1) none .n f29p2
theorem f29t0 N v0 v1 (K : KT ρ) : f29i N (f29c 1) f29p0 (f29s0 v0 v1) (joinK (some f29lE) K) =
  spec_l1Split.Z0 N v0 v1 (fun v4 => K .ret (f29s6 v4)) :=
 viaSeqS (fun k => spec_l1Split.Z1 N v0 v1 k) (by kernel_rfl) (f29t1 N (K := seqK (fun σ => f29i N (f29c 3) f29p2 σ (joinK (some f29lE) K)) (joinK (some f29lE) K)) ..) (fx2 fun v0 v1 => f29t2 N v0 v1 K) (by kernel_rfl)
theorem f29m (N : Nat) (v0 : ByteArray) (v1 : Int) : f29i N (f29c 1) f29p0 (f29s0 v0 v1) (joinK (some f29lE) (finK tab f29sig Tryd.f29.results.toList)) = spec_l1Split.Z0 N v0 v1 (fun v4 => some ((), (v4, ()))) :=
  (f29t0 N v0 v1 (finK tab f29sig Tryd.f29.results.toList)).trans (by kernel_rfl)
theorem f29ok (h : spec_l1Split.Spec) : EntryOk Tryd.prog 29 e29 :=
  entry_of_code (sig := f29sig) (c := (f29c 1)) (pl := f29p0) (je := (some f29lE)) (B := f29B) Tryd.func29 (by kernel_rfl) (by kernel_rfl) (by kernel_rfl) tabOk f29GOk (by kernel_rfl) (by kernel_rfl) (by kernel_rfl) (by kernel_rfl) fun X hb hp => by
    obtain ⟨v0, v1, _⟩ := X
    obtain ⟨N, h⟩ := h v0 v1 hp
    exact ⟨N, (f29m N v0 v1).trans (h N (Nat.le_refl N))⟩
theorem e29ok : EntryOk Tryd.prog 29 e29 := f29ok spec_l1Split.ok
end Go.Fw
namespace Go.Fw
variable {ρ : Type}
open Go.Proofs
noncomputable def f56sig : Sig := ⟨[⟨.int .i64, false, false⟩], [⟨.str, false, false⟩]⟩
noncomputable def e56 : Entry := ⟨f56sig, (some fun X => spec_FormatInt.P X.1), fun X => ((), ((spec_FormatInt.g X.1), ()))⟩
noncomputable def f56G : Gm := emptyG
theorem f56GOk : GOk Tryd.prog f56G := GOk.nil
noncomputable def f56lE : Clean := ⟨[], [], [], [], []⟩
noncomputable def f56s0 (v0 : Int) : St := initSt f56sig.ps (v0, ())
noncomputable def f56s1 (v0 : Int) : St := stOf [(0, xi v0)] [] []
noncomputable def f56l1 : Clean := ⟨[0], [], [], [], []⟩
noncomputable def f56s2 (v3 : List Int) (v0 : Int) : St := stOf [(0, xi v0), (3, xo 1000192)] [] [(1000192, (⟨5, .int .u8, v3, true, false⟩ : Row))]
noncomputable def f56l2 : Clean := ⟨[0, 3], [], [], [], [(⟨false, 3, 0⟩, 1000192)]⟩
noncomputable def f56s3 (v3 : List Int) (v0 v4 : Int) : St := stOf [(0, xi v0), (3, xo 1000192), (4, xi v4)] [] [(1000192, (⟨5, .int .u8, v3, true, false⟩ : Row))]
noncomputable def f56l3 : Clean := ⟨[0, 3, 4], [], [], [], [(⟨false, 3, 0⟩, 1000192)]⟩
noncomputable def f56s4 (v3 v6 : List Int) (v0 : Int) : St := stOf [(0, xi v0), (3, xo 1000192), (6, xo 1000384)] [] [(1000192, (⟨5, .int .u8, v3, true, false⟩ : Row)), (1000384, (⟨5, .int .u8, v6, true, false⟩ : Row))]
noncomputable def f56l4 : Clean := ⟨[0, 3, 6], [], [], [], [(⟨false, 3, 0⟩, 1000192), (⟨false, 6, 0⟩, 1000384)]⟩
noncomputable def f56s5 (v3 v6 : List Int) : St := stOf [(3, xo 1000192), (6, xo 1000384)] [] [(1000192, (⟨5, .int .u8, v3, true, false⟩ : Row)), (1000384, (⟨5, .int .u8, v6, true, false⟩ : Row))]
noncomputable def f56l5 : Clean := ⟨[3, 6], [], [], [], [(⟨false, 3, 0⟩, 1000192), (⟨false, 6, 0⟩, 1000384)]⟩
noncomputable def f56s6 (v3 v6 : List Int) (v7 : Int) : St := stOf [(3, xo 1000192), (6, xo 1000384), (7, xi v7)] [] [(1000192, (⟨5, .int .u8, v3, true, false⟩ : Row)), (1000384, (⟨5, .int .u8, v6, true, false⟩ : Row))]
noncomputable def f56l6 : Clean := ⟨[3, 6, 7], [], [], [], [(⟨false, 3, 0⟩, 1000192), (⟨false, 6, 0⟩, 1000384)]⟩
noncomputable def f56s7 (v6 : List Int) : St := stOf [(6, xo 1000384)] [] [(1000384, (⟨5, .int .u8, v6, true, false⟩ : Row))]
noncomputable def f56l7 : Clean := ⟨[6], [], [], [], [(⟨false, 6, 0⟩, 1000384)]⟩
noncomputable def f56s8 (v2 : ByteArray) : St := stOf [(2, .c (.str v2))] [] []
noncomputable def f56l8 : Clean := ⟨[2], [], [], [], []⟩
noncomputable def f56B : Nat → Option Clean := lookL [(0, f56l2), (2, f56l7), (1000000, f56l8)]
noncomputable abbrev f56i {ρ : Type} (N : Nat) (c : Code) (p : Plan) (σ : St) (K : KT ρ) : Option ρ := iCode f56G tab f56B N c p σ K
noncomputable def f56c (n : Nat) : Code := codeN 99 (bodyOf Tryd.f56) n
theorem f56t1 N v0 (K : KT ρ) : f56i N (f56c 2) .n (f56s0 v0) (joinK (some f56l1) K) =
  spec_FormatInt.Z1 N v0 (fun v0 => K .nrm (f56s1 v0)) := by kernel_rfl
theorem f56t3 N v0 (K : KT ρ) : f56i N (f56c 5) .n (f56s1 v0) (joinK (some f56l2) K) =
  spec_FormatInt.Z3 N v0 (fun v3 v0 => K .nrm (f56s2 v3 v0)) := by kernel_rfl
theorem f56t5 N v3 v0 (K : KT ρ) : f56i N (f56c 11) .n (f56s2 v3 v0) (joinK (some f56l3) K) =
  spec_FormatInt.Z5 N v3 v0 (fun v3 v0 v4 => K .nrm (f56s3 v3 v0 v4)) := by kernel_rfl
theorem f56t9 N v3 v0 v4 (K : KT ρ) : f56i N (f56c 71) .n (f56s3 v3 v0 v4) (joinK (some f56l3) K) =
  spec_FormatInt.Z9 N v3 v0 v4 (fun v3 v0 v4 => K .nrm (f56s3 v3 v0 v4)) (fun v3 v0 => K (.exit 0) (f56s2 v3 v0)) := by kernel_rfl
noncomputable def f56p8 : Plan := .mk none (some f56l3) .n .n
noncomputable abbrev f56w8 {ρ : Type} (N M : Nat) (σ : St) (K : KT ρ) : Option ρ := loopC (fun σ K => f56i N (f56c 71) .n σ K) f56l3 M σ K
theorem f56t8L {ρ : Type} (N : Nat) (K : KT ρ) : ∀ (M : Nat) (v3 : List Int) (v0 v4 : Int), f56w8 N M (f56s3 v3 v0 v4) K =
  spec_FormatInt.Z8L N (fun v3 v0 => K (.exit 0) (f56s2 v3 v0)) M v3 v0 v4
  | 0, _, _, _ => rfl
  | M + 1, v3, v0, v4 => viaRoundS (fun k => spec_FormatInt.Z9 N v3 v0 v4 k (fun v3 v0 => K (.exit 0) (f56s2 v3 v0))) (f56t9 N (K := seqK (fun σ => f56w8 N M σ K) K) ..) (fx3 fun v3 v0 v4 => f56t8L N K M v3 v0 v4) (by kernel_rfl)
theorem f56t8 N v3 v0 v4 (K : KT ρ) : f56i N (f56c 39) f56p8 (f56s3 v3 v0 v4) (joinK (some f56l2) K) =
  spec_FormatInt.Z8 N v3 v0 v4 (fun v3 v0 => K (.exit 0) (f56s2 v3 v0)) :=
 viaLoopS (by kernel_rfl) (f56t8L N (joinK (some f56l2) K) N v3 v0 v4) (by kernel_rfl)
noncomputable def f56p7 : Plan := .mk (some f56l2) none f56p8 .n
theorem f56t7 N v3 v0 v4 (K : KT ρ) : f56i N (f56c 23) f56p7 (f56s3 v3 v0 v4) (joinK (some f56l2) K) =
  spec_FormatInt.Z7 N v3 v0 v4 (fun v3 v0 => K .nrm (f56s2 v3 v0)) :=
 viaBlockS (by kernel_rfl) (f56t8 N (K := blockK 0 (joinK (some f56l2) K)) ..) (by kernel_rfl)
theorem f56t11 N v3 v0 (K : KT ρ) : f56i N (f56c 47) .n (f56s2 v3 v0) (joinK (some f56l4) K) =
  spec_FormatInt.Z11 N v3 v0 (fun v3 v6 v0 => K .nrm (f56s4 v3 v6 v0)) := by kernel_rfl
theorem f56t13 N v3 v6 v0 (K : KT ρ) : f56i N (f56c 95) .n (f56s4 v3 v6 v0) (joinK (some f56l5) K) =
  spec_FormatInt.Z13 N v3 v6 v0 (fun v3 v6 => K .nrm (f56s5 v3 v6)) := by kernel_rfl
theorem f56t16 N v3 v6 (K : KT ρ) : f56i N (f56c 319) .n (f56s5 v3 v6) (joinK (some f56l6) K) =
  spec_FormatInt.Z16 N v3 v6 (fun v3 v6 v7 => K .nrm (f56s6 v3 v6 v7)) := by kernel_rfl
theorem f56t19 N v3 v6 v7 (K : KT ρ) : f56i N (f56c 1215) .n (f56s6 v3 v6 v7) (joinK (some f56l6) K) =
  spec_FormatInt.Z19 N v3 v6 v7 (fun v3 v6 v7 => K .nrm (f56s6 v3 v6 v7)) (fun v6 => K (.exit 2) (f56s7 v6)) := by kernel_rfl
noncomputable def f56p18 : Plan := .mk none (some f56l6) .n .n
noncomputable abbrev f56w18 {ρ : Type} (N M : Nat) (σ : St) (K : KT ρ) : Option ρ := loopC (fun σ K => f56i N (f56c 1215) .n σ K) f56l6 M σ K
theorem f56t18L {ρ : Type} (N : Nat) (K : KT ρ) : ∀ (M : Nat) (v3 v6 : List Int) (v7 : Int), f56w18 N M (f56s6 v3 v6 v7) K =
  spec_FormatInt.Z18L N (fun v6 => K (.exit 2) (f56s7 v6)) M v3 v6 v7
  | 0, _, _, _ => rfl
  | M + 1, v3, v6, v7 => viaRoundS (fun k => spec_FormatInt.Z19 N v3 v6 v7 k (fun v6 => K (.exit 2) (f56s7 v6))) (f56t19 N (K := seqK (fun σ => f56w18 N M σ K) K) ..) (fx3 fun v3 v6 v7 => f56t18L N K M v3 v6 v7) (by kernel_rfl)
theorem f56t18 N v3 v6 v7 (K : KT ρ) : f56i N (f56c 703) f56p18 (f56s6 v3 v6 v7) (joinK (some f56l7) K) =
  spec_FormatInt.Z18 N v3 v6 v7 (fun v6 => K (.exit 2) (f56s7 v6)) :=
 viaLoopS (by kernel_rfl) (f56t18L N (joinK (some f56l7) K) N v3 v6 v7) (by kernel_rfl)
noncomputable def f56p17 : Plan := .mk (some f56l7) none f56p18 .n
theorem f56t17 N v3 v6 v7 (K : KT ρ) : f56i N (f56c 447) f56p17 (f56s6 v3 v6 v7) (joinK (some f56l7) K) =
  spec_FormatInt.Z17 N v3 v6 v7 (fun v6 => K .nrm (f56s7 v6)) :=
 viaBlockS (by kernel_rfl) (f56t18 N (K := blockK 2 (joinK (some f56l7) K)) ..) (by kernel_rfl)
noncomputable def f56p15 : Plan := .mk (some f56l6) none .n f56p17
theorem f56t15 N v3 v6 (K : KT ρ) : f56i N (f56c 191) f56p15 (f56s5 v3 v6) (joinK (some f56l7) K) =
  spec_FormatInt.Z15 N v3 v6 (fun v6 => K .nrm (f56s7 v6)) :=
 viaSeqS (fun k => spec_FormatInt.Z16 N v3 v6 k) (by kernel_rfl) (f56t16 N (K := seqK (fun σ => f56i N (f56c 447) f56p17 σ (joinK (some f56l7) K)) (joinK (some f56l7) K)) ..) (fx3 fun v3 v6 v7 => f56t17 N v3 v6 v7 K) (by kernel_rfl)
theorem f56t20 N v6 (K : KT ρ) : f56i N (f56c 255) .n (f56s7 v6) (joinK (some f56lE) K) =
  spec_FormatInt.Z20 N v6 (fun v2 => K .ret (f56s8 v2)) := by kernel_rfl
noncomputable def f56p14 : Plan := .mk (some f56l7) none f56p15 .n
theorem f56t14 N v3 v6 (K : KT ρ) : f56i N (f56c 127) f56p14 (f56s5 v3 v6) (joinK (some f56lE) K) =
  spec_FormatInt.Z14 N v3 v6 (fun v2 => K .ret (f56s8 v2)) :=
 viaSeqS (fun k => spec_FormatInt.Z15 N v3 v6 k) (by kernel_rfl) (f56t15 N (K := seqK (fun σ => f56i N (f56c 255) .n σ (joinK (some f56lE) K)) (joinK (some f56lE) K)) ..) (funext fun v6 => f56t20 N v6 K) (by kernel_rfl)
noncomputable def f56p12 : Plan := .mk (some f56l5) none .n f56p14
theorem f56t12 N v3 v6 v0 (K : KT ρ) : f56i N (f56c 63) f56p12 (f56s4 v3 v6 v0) (joinK (some f56lE) K) =
  spec_FormatInt.Z12 N v3 v6 v0 (fun v2 => K .ret (f56s8 v2)) :=
 viaSeqS (fun k => spec_FormatInt.Z13 N v3 v6 v0 k) (by kernel_rfl) (f56t13 N (K := seqK (fun σ => f56i N (f56c 127) f56p14 σ (joinK (some f56lE) K)) (joinK (some f56lE) K)) ..) (fx2 fun v3 v6 => f56t14 N v3 v6 K) (by kernel_rfl)
noncomputable def f56p10 : Plan := .mk (some f56l4) none .n f56p12
theorem f56t10 N v3 v0 (K : KT ρ) : f56i N (f56c 31) f56p10 (f56s2 v3 v0) (joinK (some f56lE) K) =
  spec_FormatInt.Z10 N v3 v0 (fun v2 => K .ret (f56s8 v2)) :=
 viaSeqS (fun k => spec_FormatInt.Z11 N v3 v0 k) (by kernel_rfl) (f56t11 N (K := seqK (fun σ => f56i N (f56c 63) f56p12 σ (joinK (some f56lE) K)) (joinK (some f56lE) K)) ..) (fx3 fun v3 v6 v0 => f56t12 N v3 v6 v0 K) (by kernel_rfl)
noncomputable def f56p6 : Plan := .mk (some f56l2) none f56p7 f56p10
theorem f56t6 N v3 v0 v4 (K : KT ρ) : f56i N (f56c 15) f56p6 (f56s3 v3 v0 v4) (joinK (some f56lE) K) =
  spec_FormatInt.Z6 N v3 v0 v4 (fun v2 => K .ret (f56s8 v2)) :=
 viaSeqS (fun k => spec_FormatInt.Z7 N v3 v0 v4 k) (by kernel_rfl) (f56t7 N (K := seqK (fun σ => f56i N (f56c 31) f56p10 σ (joinK (some f56lE) K)) (joinK (some f56lE) K)) ..) (fx2 fun v3 v0 => f56t10 N v3 v0 K) (by kernel_rfl)
noncomputable def f56p4 : Plan := .mk (some f56l3) none .n f56p6
theorem f56t4 N v3 v0 (K : KT ρ) : f56i N (f56c 7) f56p4 (f56s2 v3 v0) (joinK (some f56lE) K) =
  spec_FormatInt.Z4 N v3 v0 (fun v2 => K .ret (f56s8 v2)) :=
 viaSeqS (fun k => spec_FormatInt.Z5 N v3 v0 k) (by kernel_rfl) (f56t5 N (K := seqK (fun σ => f56i N (f56c 15) f56p6 σ (joinK (some f56lE) K)) (joinK (some f56lE) K)) ..) (fx3 fun v3 v0 v4 => f56t6 N v3 v0 v4 K) (by kernel_rfl)
noncomputable def f56p2 : Plan := .mk (some f56l2) none .n f56p4
theorem f56t2 N v0 (K : KT ρ) : f56i N (f56c 3) f56p2 (f56s1 v0) (joinK (some f56lE) K) =
  spec_FormatInt.Z2 N v0 (fun v2 => K .ret (f56s8 v2)) :=
 viaSeqS (fun k => spec_FormatInt.Z3 N v0 k) (by kernel_rfl) (f56t3 N (K := seqK (fun σ => f56i N (f56c 7) f56p4 σ (joinK (some f56lE) K)) (joinK (some f56lE) K)) ..) (fx2 fun v3 v0 => f56t4 N v3 v0 K) (by kernel_rfl)
noncomputable def f56p0 : Plan := .mk (some f56l1) none .n f56p2
theorem f56t0 N v0 (K : KT ρ) : f56i N (f56c 1) f56p0 (f56s0 v0) (joinK (some f56lE) K) =
  spec_FormatInt.Z0 N v0 (fun v2 => K .ret (f56s8 v2)) :=
 viaSeqS (fun k => spec_FormatInt.Z1 N v0 k) (by kernel_rfl) (f56t1 N (K := seqK (fun σ => f56i N (f56c 3) f56p2 σ (joinK (some f56lE) K)) (joinK (some f56lE) K)) ..) (funext fun v0 => f56t2 N v0 K) (by kernel_rfl)
theorem f56m (N : Nat) (v0 : Int) : f56i N (f56c 1) f56p0 (f56s0 v0) (joinK (some f56lE) (finK tab f56sig Tryd.f56.results.toList)) = spec_FormatInt.Z0 N v0 (fun v2 => some ((), (v2, ()))) :=
  (f56t0 N v0 (finK tab f56sig Tryd.f56.results.toList)).trans (by kernel_rfl)
theorem f56ok (h : spec_FormatInt.Spec) : EntryOk Tryd.prog 56 e56 :=
  entry_of_code (sig := f56sig) (c := (f56c 1)) (pl := f56p0) (je := (some f56lE)) (B := f56B) Tryd.func56 (by kernel_rfl) (by kernel_rfl) (by kernel_rfl) tabOk f56GOk (by kernel_rfl) (by kernel_rfl) (by kernel_rfl) (by kernel_rfl) fun X hb hp => by
    obtain ⟨v0, _⟩ := X
    obtain ⟨N, h⟩ := h v0 hp
    exact ⟨N, (f56m N v0).trans (h N (Nat.le_refl N))⟩
theorem e56ok : EntryOk Tryd.prog 56 e56 := f56ok spec_FormatInt.ok
end Go.Fw
namespace Go.Fw
variable {ρ : Type}
open Go.Proofs
noncomputable def f30sig : Sig := ⟨[⟨.str, false, false⟩], [⟨.int .i64, false, false⟩, ⟨.bool, false, false⟩]⟩
noncomputable def e30 : Entry := ⟨f30sig, none, fun X => ((), ((spec_l1Number.g X.1).1, ((spec_l1Number.g X.1).2, ())))⟩
noncomputable def f30G : Gm := addG emptyG 56 e56
theorem f30GOk : GOk Tryd.prog f30G := (GOk.nil).add e56ok (by kernel_rfl)
noncomputable def f30lE : Clean := ⟨[], [], [], [], []⟩
noncomputable def f30s0 (v0 : ByteArray) : St := initSt f30sig.ps (v0, ())
noncomputable def f30s1 (v0 : ByteArray) : St := stOf [(0, .c (.str v0))] [] []
noncomputable def f30l1 : Clean := ⟨[0], [], [], [], []⟩
noncomputable def f30s2 (v0 : ByteArray) (v4 : Int) : St := stOf [(0, .c (.str v0)), (4, xi v4)] [] []
noncomputable def f30l2 : Clean := ⟨[0, 4], [], [], [], []⟩
noncomputable def f30s3 (v0 : ByteArray) (v4 v5 : Int) : St := stOf [(0, .c (.str v0)), (4, xi v4), (5, xi v5)] [] []
noncomputable def f30l3 : Clean := ⟨[0, 4, 5], [], [], [], []⟩
noncomputable def f30s4 (v0 : ByteArray) (v4 v5 v6 : Int) : St := stOf [(0, .c (.str v0)), (4, xi v4), (5, xi v5), (6, xi v6)] [] []
noncomputable def f30l4 : Clean := ⟨[0, 4, 5, 6], [], [], [], []⟩
noncomputable def f30s5 (v2 : Int) (v3 : Bool) : St := stOf [(2, xi v2), (3, xB v3)] [] []
noncomputable def f30l5 : Clean := ⟨[2, 3], [], [], [], []⟩
noncomputable def f30B : Nat → Option Clean := lookL [(0, f30l3), (1000000, f30l5)]
noncomputable abbrev f30i {ρ : Type} (N : Nat) (c : Code) (p : Plan) (σ : St) (K : KT ρ) : Option ρ := iCode f30G tab f30B N c p σ K
noncomputable def f30c (n : Nat) : Code := codeN 99 (bodyOf Tryd.f30) n
theorem f30t1 N v0 (K : KT ρ) : f30i N (f30c 2) .n (f30s0 v0) (joinK (some f30l1) K) =
  spec_l1Number.Z1 N v0 (fun v0 => K .nrm (f30s1 v0)) := by kernel_rfl
theorem f30t3 N v0 (K : KT ρ) : f30i N (f30c 5) .n (f30s1 v0) (joinK (some f30l2) K) =
  spec_l1Number.Z3 N v0 (fun v0 v4 => K .nrm (f30s2 v0 v4)) := by kernel_rfl
theorem f30t5 N v0 v4 (K : KT ρ) : f30i N (f30c 11) .n (f30s2 v0 v4) (joinK (some f30l2) K) =
  spec_l1Number.Z5 N v0 v4 (fun v0 v4 => K .nrm (f30s2 v0 v4)) := by kernel_rfl
theorem f30t7 N v0 v4 (K : KT ρ) : f30i N (f30c 23) .n (f30s2 v0 v4) (joinK (some f30l2) K) =
  spec_l1Number.Z7 N v0 v4 (fun v0 v4 => K .nrm (f30s2 v0 v4)) (fun v2 v3 => K .ret (f30s5 v2 v3)) := by kernel_rfl
theorem f30t9 N v0 v4 (K : KT ρ) : f30i N (f30c 47) .n (f30s2 v0 v4) (joinK (some f30l3) K) =
  spec_l1Number.Z9 N v0 v4 (fun v0 v4 v5 => K .nrm (f30s3 v0 v4 v5)) := by kernel_rfl
theorem f30t12 N v0 v4 v5 (K : KT ρ) : f30i N (f30c 159) .n (f30s3 v0 v4 v5) (joinK (some f30l4) K) =
  spec_l1Number.Z12 N v0 v4 v5 (fun v0 v4 v5 v6 => K .nrm (f30s4 v0 v4 v5 v6)) := by kernel_rfl
theorem f30t15 N v0 v4 v5 v6 (K : KT ρ) : f30i N (f30c 607) .n (f30s4 v0 v4 v5 v6) (joinK (some f30l4) K) =
  spec_l1Number.Z15 N v0 v4 v5 v6 (fun v0 v4 v5 v6 => K .nrm (f30s4 v0 v4 v5 v6)) (fun v0 v4 v5 => K (.exit 0) (f30s3 v0 v4 v5)) (fun v2 v3 => K .ret (f30s5 v2 v3)) := by kernel_rfl
noncomputable def f30p14 : Plan := .mk none (some f30l4) .n .n
noncomputable abbrev f30w14 {ρ : Type} (N M : Nat) (σ : St) (K : KT ρ) : Option ρ := loopC (fun σ K => f30i N (f30c 607) .n σ K) f30l4 M σ K
theorem f30t14L {ρ : Type} (N : Nat) (K : KT ρ) : ∀ (M : Nat) (v0 : ByteArray) (v4 v5 v6 : Int), f30w14 N M (f30s4 v0 v4 v5 v6) K =
  spec_l1Number.Z14L N (fun v0 v4 v5 => K (.exit 0) (f30s3 v0 v4 v5)) (fun v2 v3 => K .ret (f30s5 v2 v3)) M v0 v4 v5 v6
  | 0, _, _, _, _ => rfl
  | M + 1, v0, v4, v5, v6 => viaRoundS (fun k => spec_l1Number.Z15 N v0 v4 v5 v6 k (fun v0 v4 v5 => K (.exit 0) (f30s3 v0 v4 v5)) (fun v2 v3 => K .ret (f30s5 v2 v3))) (f30t15 N (K := seqK (fun σ => f30w14 N M σ K) K) ..) (fx4 fun v0 v4 v5 v6 => f30t14L N K M v0 v4 v5 v6) (by kernel_rfl)
theorem f30t14 N v0 v4 v5 v6 (K : KT ρ) : f30i N (f30c 351) f30p14 (f30s4 v0 v4 v5 v6) (joinK (some f30l3) K) =
  spec_l1Number.Z14 N v0 v4 v5 v6 (fun v0 v4 v5 => K (.exit 0) (f30s3 v0 v4 v5)) (fun v2 v3 => K .ret (f30s5 v2 v3)) :=
 viaLoopS (by kernel_rfl) (f30t14L N (joinK (some f30l3) K) N v0 v4 v5 v6) (by kernel_rfl)
noncomputable def f30p13 : Plan := .mk (some f30l3) none f30p14 .n
theorem f30t13 N v0 v4 v5 v6 (K : KT ρ) : f30i N (f30c 223) f30p13 (f30s4 v0 v4 v5 v6) (joinK (some f30l3) K) =
  spec_l1Number.Z13 N v0 v4 v5 v6 (fun v0 v4 v5 => K .nrm (f30s3 v0 v4 v5)) (fun v2 v3 => K .ret (f30s5 v2 v3)) :=
 viaBlockS (by kernel_rfl) (f30t14 N (K := blockK 0 (joinK (some f30l3) K)) ..) (by kernel_rfl)
noncomputable def f30p11 : Plan := .mk (some f30l4) none .n f30p13
theorem f30t11 N v0 v4 v5 (K : KT ρ) : f30i N (f30c 95) f30p11 (f30s3 v0 v4 v5) (joinK (some f30l3) K) =
  spec_l1Number.Z11 N v0 v4 v5 (fun v0 v4 v5 => K .nrm (f30s3 v0 v4 v5)) (fun v2 v3 => K .ret (f30s5 v2 v3)) :=
 viaSeqS (fun k => spec_l1Number.Z12 N v0 v4 v5 k) (by kernel_rfl) (f30t12 N (K := seqK (fun σ => f30i N (f30c 223) f30p13 σ (joinK (some f30l3) K)) (joinK (some f30l3) K)) ..) (fx4 fun v0 v4 v5 v6 => f30t13 N v0 v4 v5 v6 K) (by kernel_rfl)
theorem f30t16 N v0 v4 v5 (K : KT ρ) : f30i N (f30c 127) .n (f30s3 v0 v4 v5) (joinK (some f30lE) K) =
  spec_l1Number.Z16 N v0 v4 v5 (fun v2 v3 => K .ret (f30s5 v2 v3)) := by kernel_rfl
noncomputable def f30p10 : Plan := .mk (some f30l3) none f30p11 .n
theorem f30t10 N v0 v4 v5 (K : KT ρ) : f30i N (f30c 63) f30p10 (f30s3 v0 v4 v5) (joinK (some f30lE) K) =
  spec_l1Number.Z10 N v0 v4 v5 (fun v2 v3 => K .ret (f30s5 v2 v3)) :=
 viaSeqS (fun k => spec_l1Number.Z11 N v0 v4 v5 k (fun v2 v3 => K .ret (f30s5 v2 v3))) (by kernel_rfl) (f30t11 N (K := seqK (fun σ => f30i N (f30c 127) .n σ (joinK (some f30lE) K)) (joinK (some f30lE) K)) ..) (fx3 fun v0 v4 v5 => f30t16 N v0 v4 v5 K) (by kernel_rfl)
noncomputable def f30p8 : Plan := .mk (some f30l3) none .n f30p10
theorem f30t8 N v0 v4 (K : KT ρ) : f30i N (f30c 31) f30p8 (f30s2 v0 v4) (joinK (some f30lE) K) =
  spec_l1Number.Z8 N v0 v4 (fun v2 v3 => K .ret (f30s5 v2 v3)) :=
 viaSeqS (fun k => spec_l1Number.Z9 N v0 v4 k) (by kernel_rfl) (f30t9 N (K := seqK (fun σ => f30i N (f30c 63) f30p10 σ (joinK (some f30lE) K)) (joinK (some f30lE) K)) ..) (fx3 fun v0 v4 v5 => f30t10 N v0 v4 v5 K) (by kernel_rfl)
noncomputable def f30p6 : Plan := .mk (some f30l2) none .n f30p8
theorem f30t6 N v0 v4 (K : KT ρ) : f30i N (f30c 15) f30p6 (f30s2 v0 v4) (joinK (some f30lE) K) =
  spec_l1Number.Z6 N v0 v4 (fun v2 v3 => K .ret (f30s5 v2 v3)) :=
 viaSeqS (fun k => spec_l1Number.Z7 N v0 v4 k (fun v2 v3 => K .ret (f30s5 v2 v3))) (by kernel_rfl) (f30t7 N (K := seqK (fun σ => f30i N (f30c 31) f30p8 σ (joinK (some f30lE) K)) (joinK (some f30lE) K)) ..) (fx2 fun v0 v4 => f30t8 N v0 v4 K) (by kernel_rfl)
noncomputable def f30p4 : Plan := .mk (some f30l2) none .n f30p6
theorem f30t4 N v0 v4 (K : KT ρ) : f30i N (f30c 7) f30p4 (f30s2 v0 v4) (joinK (some f30lE) K) =
  spec_l1Number.Z4 N v0 v4 (fun v2 v3 => K .ret (f30s5 v2 v3)) :=
 viaSeqS (fun k => spec_l1Number.Z5 N v0 v4 k) (by kernel_rfl) (f30t5 N (K := seqK (fun σ => f30i N (f30c 15) f30p6 σ (joinK (some f30lE) K)) (joinK (some f30lE) K)) ..) (fx2 fun v0 v4 => f30t6 N v0 v4 K) (by kernel_rfl)
noncomputable def f30p2 : Plan := .mk (some f30l2) none .n f30p4
theorem f30t2 N v0 (K : KT ρ) : f30i N (f30c 3) f30p2 (f30s1 v0) (joinK (some f30lE) K) =
  spec_l1Number.Z2 N v0 (fun v2 v3 => K .ret (f30s5 v2 v3)) :=
 viaSeqS (fun k => spec_l1Number.Z3 N v0 k) (by kernel_rfl) (f30t3 N (K := seqK (fun σ => f30i N (f30c 7) f30p4 σ (joinK (some f30lE) K)) (joinK (some f30lE) K)) ..) (fx2 fun v0 v4 => f30t4 N v0 v4 K) (by kernel_rfl)
noncomputable def f30p0 : Plan := .mk (some f30l1) none .n f30p2
theorem f30t0 N v0 (K : KT ρ) : f30i N (f30c 1) f30p0 (f30s0 v0) (joinK (some f30lE) K) =
  spec_l1Number.Z0 N v0 (fun v2 v3 => K .ret (f30s5 v2 v3)) :=
 viaSeqS (fun k => spec_l1Number.Z1 N v0 k) (by kernel_rfl) (f30t1 N (K := seqK (fun σ => f30i N (f30c 3) f30p2 σ (joinK (some f30lE) K)) (joinK (some f30lE) K)) ..) (funext fun v0 => f30t2 N v0 K) (by kernel_rfl)
theorem f30m (N : Nat) (v0 : ByteArray) : f30i N (f30c 1) f30p0 (f30s0 v0) (joinK (some f30lE) (finK tab f30sig Tryd.f30.results.toList)) = spec_l1Number.Z0 N v0 (fun v2 v3 => some ((), (v2, (v3, ())))) :=
  (f30t0 N v0 (finK tab f30sig Tryd.f30.results.toList)).trans (by kernel_rfl)
theorem f30ok (h : spec_l1Number.Spec) : EntryOk Tryd.prog 30 e30 :=
  entry_of_code (sig := f30sig) (c := (f30c 1)) (pl := f30p0) (je := (some f30lE)) (B := f30B) Tryd.func30 (by kernel_rfl) (by kernel_rfl) (by kernel_rfl) tabOk f30GOk (by kernel_rfl) (by kernel_rfl) (by kernel_rfl) (by kernel_rfl) fun X hb hp => by
    obtain ⟨v0, _⟩ := X
    obtain ⟨N, h⟩ := h v0
    exact ⟨N, (f30m N v0).trans (h N (Nat.le_refl N))⟩
theorem e30ok : EntryOk Tryd.prog 30 e30 := f30ok spec_l1Number.ok
end Go.Fw
namespace Go.Fw
variable {ρ : Type}
open Go.Proofs
noncomputable def f7sig : Sig := ⟨[⟨.str, false, false⟩], [⟨.sl 3 (.int .i64), false, false⟩, ⟨.bool, false, false⟩]⟩
noncomputable def e7 : Entry := ⟨f7sig, (some fun X => spec_ParseInts.P X.1), fun X => ((), ((spec_ParseInts.g X.1).1, ((spec_ParseInts.g X.1).2, ())))⟩
noncomputable def f7G : Gm := addG (addG emptyG 29 e29) 30 e30
theorem f7GOk : GOk Tryd.prog f7G := ((GOk.nil).add e29ok (by kernel_rfl)).add e30ok (by kernel_rfl)
noncomputable def f7lE : Clean := ⟨[], [], [], [], []⟩
noncomputable def f7s0 (v0 : ByteArray) : St := initSt f7sig.ps (v0, ())
noncomputable def f7s1 (v0 : ByteArray) : St := stOf [(0, .c (.str v0))] [] []
noncomputable def f7l1 : Clean := ⟨[0], [], [], [], []⟩
noncomputable def f7s2 (v4 : LI) (v0 : ByteArray) : St := stOf [(0, .c (.str v0)), (4, xo 1000256)] [] [(1000256, (⟨3, .int .i64, v4, true, false⟩ : Row))]
noncomputable def f7l2 : Clean := ⟨[0, 4], [], [], [], [(⟨false, 4, 0⟩, 1000256)]⟩
noncomputable def f7s3 (v4 : LI) (v5 : List ByteArray) : St := stOf [(4, xo 1000256), (5, xo 1000320)] [] [(1000256, (⟨3, .int .i64, v4, true, false⟩ : Row)), (1000320, (⟨9, .str, v5, true, false⟩ : Row))]
noncomputable def f7l3 : Clean := ⟨[4, 5], [], [], [], [(⟨false, 4, 0⟩, 1000256), (⟨false, 5, 0⟩, 1000320)]⟩
noncomputable def f7s4 (v4 : LI) (v5 : List ByteArray) (v6 : Int) : St := stOf [(4, xo 1000256), (5, xo 1000320), (6, xi v6)] [] [(1000256, (⟨3, .int .i64, v4, true, false⟩ : Row)), (1000320, (⟨9, .str, v5, true, false⟩ : Row))]
noncomputable def f7l4 : Clean := ⟨[4, 5, 6], [], [], [], [(⟨false, 4, 0⟩, 1000256), (⟨false, 5, 0⟩, 1000320)]⟩
noncomputable def f7s5 (v4 : LI) : St := stOf [(4, xo 1000256)] [] [(1000256, (⟨3, .int .i64, v4, true, false⟩ : Row))]
noncomputable def f7l5 : Clean := ⟨[4], [], [], [], [(⟨false, 4, 0⟩, 1000256)]⟩
noncomputable def f7s6 (v2 : LI) (v3 : Bool) : St := stOf [(2, xo 1000128), (3, xB v3)] [] [(1000128, (⟨3, .int .i64, v2, true, false⟩ : Row))]
noncomputable def f7l6 : Clean := ⟨[2, 3], [], [⟨⟨false, 2, 0⟩, 30000000, 3, .int .i64, true⟩], [], [(⟨false, 2, 0⟩, 1000128)]⟩
noncomputable def f7B : Nat → Option Clean := lookL [(0, f7l5), (1000000, f7l6)]
noncomputable abbrev f7i {ρ : Type} (N : Nat) (c : Code) (p : Plan) (σ : St) (K : KT ρ) : Option ρ := iCode f7G tab f7B N c p σ K
noncomputable def f7c (n : Nat) : Code := codeN 99 (bodyOf Tryd.f7) n
theorem f7t1 N v0 (K : KT ρ) : f7i N (f7c 2) .n (f7s0 v0) (joinK (some f7l1) K) =
  spec_ParseInts.Z1 N v0 (fun v0 => K .nrm (f7s1 v0)) := by kernel_rfl
theorem f7t3 N v0 (K : KT ρ) : f7i N (f7c 5) .n (f7s1 v0) (joinK (some f7l2) K) =
  spec_ParseInts.Z3 N v0 (fun v4 v0 => K .nrm (f7s2 v4 v0)) := by kernel_rfl
theorem f7t5 N v4 v0 (K : KT ρ) : f7i N (f7c 11) .n (f7s2 v4 v0) (joinK (some f7l2) K) =
  spec_ParseInts.Z5 N v4 v0 (fun v4 v0 => K .nrm (f7s2 v4 v0)) (fun v2 v3 => K .ret (f7s6 v2 v3)) := by kernel_rfl
theorem f7t7 N v4 v0 (K : KT ρ) : f7i N (f7c 23) .n (f7s2 v4 v0) (joinK (some f7l3) K) =
  spec_ParseInts.Z7 N v4 v0 (fun v4 v5 => K .nrm (f7s3 v4 v5)) := by kernel_rfl
theorem f7t10 N v4 v5 (K : KT ρ) : f7i N (f7c 79) .n (f7s3 v4 v5) (joinK (some f7l4) K) =
  spec_ParseInts.Z10 N v4 v5 (fun v4 v5 v6 => K .nrm (f7s4 v4 v5 v6)) := by kernel_rfl
theorem f7t13 N v4 v5 v6 (K : KT ρ) : f7i N (f7c 303) .n (f7s4 v4 v5 v6) (joinK (some f7l4) K) =
  spec_ParseInts.Z13 N v4 v5 v6 (fun v4 v5 v6 => K .nrm (f7s4 v4 v5 v6)) (fun v4 => K (.exit 0) (f7s5 v4)) (fun v2 v3 => K .ret (f7s6 v2 v3)) := by kernel_rfl
noncomputable def f7p12 : Plan := .mk none (some f7l4) .n .n
noncomputable abbrev f7w12 {ρ : Type} (N M : Nat) (σ : St) (K : KT ρ) : Option ρ := loopC (fun σ K => f7i N (f7c 303) .n σ K) f7l4 M σ K
theorem f7t12L {ρ : Type} (N : Nat) (K : KT ρ) : ∀ (M : Nat) (v4 : LI) (v5 : List ByteArray) (v6 : Int), f7w12 N M (f7s4 v4 v5 v6) K =
  spec_ParseInts.Z12L N (fun v4 => K (.exit 0) (f7s5 v4)) (fun v2 v3 => K .ret (f7s6 v2 v3)) M v4 v5 v6
  | 0, _, _, _ => rfl
  | M + 1, v4, v5, v6 => viaRoundS (fun k => spec_ParseInts.Z13 N v4 v5 v6 k (fun v4 => K (.exit 0) (f7s5 v4)) (fun v2 v3 => K .ret (f7s6 v2 v3))) (f7t13 N (K := seqK (fun σ => f7w12 N M σ K) K) ..) (fx3 fun v4 v5 v6 => f7t12L N K M v4 v5 v6) (by kernel_rfl)
theorem f7t12 N v4 v5 v6 (K : KT ρ) : f7i N (f7c 175) f7p12 (f7s4 v4 v5 v6) (joinK (some f7l5) K) =
  spec_ParseInts.Z12 N v4 v5 v6 (fun v4 => K (.exit 0) (f7s5 v4)) (fun v2 v3 => K .ret (f7s6 v2 v3)) :=
 viaLoopS (by kernel_rfl) (f7t12L N (joinK (some f7l5) K) N v4 v5 v6) (by kernel_rfl)
noncomputable def f7p11 : Plan := .mk (some f7l5) none f7p12 .n
theorem f7t11 N v4 v5 v6 (K : KT ρ) : f7i N (f7c 111) f7p11 (f7s4 v4 v5 v6) (joinK (some f7l5) K) =
  spec_ParseInts.Z11 N v4 v5 v6 (fun v4 => K .nrm (f7s5 v4)) (fun v2 v3 => K .ret (f7s6 v2 v3)) :=
 viaBlockS (by kernel_rfl) (f7t12 N (K := blockK 0 (joinK (some f7l5) K)) ..) (by kernel_rfl)
noncomputable def f7p9 : Plan := .mk (some f7l4) none .n f7p11
theorem f7t9 N v4 v5 (K : KT ρ) : f7i N (f7c 47) f7p9 (f7s3 v4 v5) (joinK (some f7l5) K) =
  spec_ParseInts.Z9 N v4 v5 (fun v4 => K .nrm (f7s5 v4)) (fun v2 v3 => K .ret (f7s6 v2 v3)) :=
 viaSeqS (fun k => spec_ParseInts.Z10 N v4 v5 k) (by kernel_rfl) (f7t10 N (K := seqK (fun σ => f7i N (f7c 111) f7p11 σ (joinK (some f7l5) K)) (joinK (some f7l5) K)) ..) (fx3 fun v4 v5 v6 => f7t11 N v4 v5 v6 K) (by kernel_rfl)
theorem f7t14 N v4 (K : KT ρ) : f7i N (f7c 63) .n (f7s5 v4) (joinK (some f7lE) K) =
  spec_ParseInts.Z14 N v4 (fun v2 v3 => K .ret (f7s6 v2 v3)) := by kernel_rfl
noncomputable def f7p8 : Plan := .mk (some f7l5) none f7p9 .n
theorem f7t8 N v4 v5 (K : KT ρ) : f7i N (f7c 31) f7p8 (f7s3 v4 v5) (joinK (some f7lE) K) =
  spec_ParseInts.Z8 N v4 v5 (fun v2 v3 => K .ret (f7s6 v2 v3)) :=
 viaSeqS (fun k => spec_ParseInts.Z9 N v4 v5 k (fun v2 v3 => K .ret (f7s6 v2 v3))) (by kernel_rfl) (f7t9 N (K := seqK (fun σ => f7i N (f7c 63) .n σ (joinK (some f7lE) K)) (joinK (some f7lE) K)) ..) (funext fun v4 => f7t14 N v4 K) (by kernel_rfl)
noncomputable def f7p6 : Plan := .mk (some f7l3) none .n f7p8
theorem f7t6 N v4 v0 (K : KT ρ) : f7i N (f7c 15) f7p6 (f7s2 v4 v0) (joinK (some f7lE) K) =
  spec_ParseInts.Z6 N v4 v0 (fun v2 v3 => K .ret (f7s6 v2 v3)) :=
 viaSeqS (fun k => spec_ParseInts.Z7 N v4 v0 k) (by kernel_rfl) (f7t7 N (K := seqK (fun σ => f7i N (f7c 31) f7p8 σ (joinK (some f7lE) K)) (joinK (some f7lE) K)) ..) (fx2 fun v4 v5 => f7t8 N v4 v5 K) (by kernel_rfl)
noncomputable def f7p4 : Plan := .mk (some f7l2) none .n f7p6
theorem f7t4 N v4 v0 (K : KT ρ) : f7i N (f7c 7) f7p4 (f7s2 v4 v0) (joinK (some f7lE) K) =
  spec_ParseInts.Z4 N v4 v0 (fun v2 v3 => K .ret (f7s6 v2 v3)) :=
 viaSeqS (fun k => spec_ParseInts.Z5 N v4 v0 k (fun v2 v3 => K .ret (f7s6 v2 v3))) (by kernel_rfl) (f7t5 N (K := seqK (fun σ => f7i N (f7c 15) f7p6 σ (joinK (some f7lE) K)) (joinK (some f7lE) K)) ..) (fx2 fun v4 v0 => f7t6 N v4 v0 K) (by kernel_rfl)
noncomputable def f7p2 : Plan := .mk (some f7l2) none .n f7p4
theorem f7t2 N v0 (K : KT ρ) : f7i N (f7c 3) f7p2 (f7s1 v0) (joinK (some f7lE) K) =
  spec_ParseInts.Z2 N v0 (fun v2 v3 => K .ret (f7s6 v2 v3)) :=
 viaSeqS (fun k => spec_ParseInts.Z3 N v0 k) (by kernel_rfl) (f7t3 N (K := seqK (fun σ => f7i N (f7c 7) f7p4 σ (joinK (some f7lE) K)) (joinK (some f7lE) K)) ..) (fx2 fun v4 v0 => f7t4 N v4 v0 K) (by kernel_rfl)
noncomputable def f7p0 : Plan := .mk (some f7l1) none .n f7p2
theorem f7t0 N v0 (K : KT ρ) : f7i N (f7c 1) f7p0 (f7s0 v0) (joinK (some f7lE) K) =
  spec_ParseInts.Z0 N v0 (fun v2 v3 => K .ret (f7s6 v2 v3)) :=
 viaSeqS (fun k => spec_ParseInts.Z1 N v0 k) (by kernel_rfl) (f7t1 N (K := seqK (fun σ => f7i N (f7c 3) f7p2 σ (joinK (some f7lE) K)) (joinK (some f7lE) K)) ..) (funext fun v0 => f7t2 N v0 K) (by kernel_rfl)
theorem f7m (N : Nat) (v0 : ByteArray) : f7i N (f7c 1) f7p0 (f7s0 v0) (joinK (some f7lE) (finK tab f7sig Tryd.f7.results.toList)) = spec_ParseInts.Z0 N v0 (fun v2 v3 => some ((), (v2, (v3, ())))) :=
  (f7t0 N v0 (finK tab f7sig Tryd.f7.results.toList)).trans (by kernel_rfl)
theorem f7ok (h : spec_ParseInts.Spec) : EntryOk Tryd.prog 7 e7 :=
  entry_of_code (sig := f7sig) (c := (f7c 1)) (pl := f7p0) (je := (some f7lE)) (B := f7B) Tryd.func7 (by kernel_rfl) (by kernel_rfl) (by kernel_rfl) tabOk f7GOk (by kernel_rfl) (by kernel_rfl) (by kernel_rfl) (by kernel_rfl) fun X hb hp => by
    obtain ⟨v0, _⟩ := X
    obtain ⟨N, h⟩ := h v0 hp
    exact ⟨N, (f7m N v0).trans (h N (Nat.le_refl N))⟩
theorem e7ok : EntryOk Tryd.prog 7 e7 := f7ok spec_ParseInts.ok
end Go.Fw
namespace Go.Fw
variable {ρ : Type}
open Go.Proofs
noncomputable def f77sig : Sig := ⟨[⟨.int .i64, false, false⟩, ⟨.int .i64, false, false⟩, ⟨.int .i64, false, false⟩], [⟨.bool, false, false⟩]⟩
noncomputable def e77 : Entry := ⟨f77sig, none, fun X => ((), ((spec_l1In.g X.1 X.2.1 X.2.2.1), ()))⟩
noncomputable def f77G : Gm := emptyG
theorem f77GOk : GOk Tryd.prog f77G := GOk.nil
noncomputable def f77lE : Clean := ⟨[], [], [], [], []⟩
noncomputable def f77s0 (v0 v1 v2 : Int) : St := initSt f77sig.ps (v0, (v1, (v2, ())))
noncomputable def f77s1 (v6 : Bool) : St := stOf [(6, xB v6)] [] []
noncomputable def f77l1 : Clean := ⟨[6], [], [], [], []⟩
noncomputable def f77B : Nat → Option Clean := lookL [(1000000, f77l1)]
noncomputable abbrev f77i {ρ : Type} (N : Nat) (c : Code) (p : Plan) (σ : St) (K : KT ρ) : Option ρ := iCode f77G tab f77B N c p σ K
noncomputable def f77c (n : Nat) : Code := codeN 99 (bodyOf Tryd.f77) n
theorem f77t0 N v0 v1 v2 (K : KT ρ) : f77i N (f77c 1) .n (f77s0 v0 v1 v2) (joinK (some f77lE) K) =
  spec_l1In.Z0 N v0 v1 v2 (fun v6 => K .ret (f77s1 v6)) := by kernel_rfl
theorem f77m (N : Nat) (v0 v1 v2 : Int) : f77i N (f77c 1) .n (f77s0 v0 v1 v2) (joinK (some f77lE) (finK tab f77sig Tryd.f77.results.toList)) = spec_l1In.Z0 N v0 v1 v2 (fun v6 => some ((), (v6, ()))) :=
  (f77t0 N v0 v1 v2 (finK tab f77sig Tryd.f77.results.toList)).trans (by kernel_rfl)
theorem f77ok (h : spec_l1In.Spec) : EntryOk Tryd.prog 77 e77 :=
  entry_of_code (sig := f77sig) (c := (f77c 1)) (pl := .n) (je := (some f77lE)) (B := f77B) Tryd.func77 (by kernel_rfl) (by kernel_rfl) (by kernel_rfl) tabOk f77GOk (by kernel_rfl) (by kernel_rfl) (by kernel_rfl) (by kernel_rfl) fun X hb hp => by
    obtain ⟨v0, v1, v2, _⟩ := X
    obtain ⟨N, h⟩ := h v0 v1 v2
    exact ⟨N, (f77m N v0 v1 v2).trans (h N (Nat.le_refl N))⟩
theorem e77ok : EntryOk Tryd.prog 77 e77 := f77ok spec_l1In.ok
end Go.Fw
namespace Go.Fw
variable {ρ : Type}
open Go.Proofs
noncomputable def f78sig : Sig := ⟨[⟨.sl 3 (.int .i64), false, false⟩, ⟨.sl 3 (.int .i64), false, false⟩], [⟨.bool, false, false⟩]⟩
noncomputable def e78 : Entry := ⟨f78sig, none, fun X => ((), ((spec_l1Less.g X.1 X.2.1), ()))⟩
noncomputable def f78G : Gm := emptyG
theorem f78GOk : GOk Tryd.prog f78G := GOk.nil
noncomputable def f78lE : Clean := ⟨[], [], [], [], []⟩
noncomputable def f78s0 (v0 v1 : LI) : St := initSt f78sig.ps (v0, (v1, ()))
noncomputable def f78s1 (v0 v1 : LI) : St := stOf [(0, .c (.sn 3 tI v0 none)), (1, .c (.sn 3 tI v1 none))] [] []
noncomputable def f78l1 : Clean := ⟨[0, 1], [], [], [], []⟩
noncomputable def f78s2 (v0 v1 : LI) (v5 : Int) : St := stOf [(0, .c (.sn 3 tI v0 none)), (1, .c (.sn 3 tI v1 none)), (5, xi v5)] [] []
noncomputable def f78l2 : Clean := ⟨[0, 1, 5], [], [], [], []⟩
noncomputable def f78s3 (v4 : Bool) : St := stOf [(4, xB v4)] [] []
noncomputable def f78l3 : Clean := ⟨[4], [], [], [], []⟩
noncomputable def f78B : Nat → Option Clean := lookL [(0, f78l1), (1000000, f78l3)]
noncomputable abbrev f78i {ρ : Type} (N : Nat) (c : Code) (p : Plan) (σ : St) (K : KT ρ) : Option ρ := iCode f78G tab f78B N c p σ K
noncomputable def f78c (n : Nat) : Code := codeN 99 (bodyOf Tryd.f78) n
theorem f78t1 N v0 v1 (K : KT ρ) : f78i N (f78c 2) .n (f78s0 v0 v1) (joinK (some f78l1) K) =
  spec_l1Less.Z1 N v0 v1 (fun v0 v1 => K .nrm (f78s1 v0 v1)) := by kernel_rfl
theorem f78t4 N v0 v1 (K : KT ρ) : f78i N (f78c 9) .n (f78s1 v0 v1) (joinK (some f78l2) K) =
  spec_l1Less.Z4 N v0 v1 (fun v0 v1 v5 => K .nrm (f78s2 v0 v1 v5)) := by kernel_rfl
theorem f78t7 N v0 v1 v5 (K : KT ρ) : f78i N (f78c 37) .n (f78s2 v0 v1 v5) (joinK (some f78l2) K) =
  spec_l1Less.Z7 N v0 v1 v5 (fun v0 v1 v5 => K .nrm (f78s2 v0 v1 v5)) (fun v0 v1 => K (.exit 0) (f78s1 v0 v1)) (fun v4 => K .ret (f78s3 v4)) := by kernel_rfl
noncomputable def f78p6 : Plan := .mk none (some f78l2) .n .n
noncomputable abbrev f78w6 {ρ : Type} (N M : Nat) (σ : St) (K : KT ρ) : Option ρ := loopC (fun σ K => f78i N (f78c 37) .n σ K) f78l2 M σ K
theorem f78t6L {ρ : Type} (N : Nat) (K : KT ρ) : ∀ (M : Nat) (v0 v1 : LI) (v5 : Int), f78w6 N M (f78s2 v0 v1 v5) K =
  spec_l1Less.Z6L N (fun v0 v1 => K (.exit 0) (f78s1 v0 v1)) (fun v4 => K .ret (f78s3 v4)) M v0 v1 v5
  | 0, _, _, _ => rfl
  | M + 1, v0, v1, v5 => viaRoundS (fun k => spec_l1Less.Z7 N v0 v1 v5 k (fun v0 v1 => K (.exit 0) (f78s1 v0 v1)) (fun v4 => K .ret (f78s3 v4))) (f78t7 N (K := seqK (fun σ => f78w6 N M σ K) K) ..) (fx3 fun v0 v1 v5 => f78t6L N K M v0 v1 v5) (by kernel_rfl)
theorem f78t6 N v0 v1 v5 (K : KT ρ) : f78i N (f78c 21) f78p6 (f78s2 v0 v1 v5) (joinK (some f78l1) K) =
  spec_l1Less.Z6 N v0 v1 v5 (fun v0 v1 => K (.exit 0) (f78s1 v0 v1)) (fun v4 => K .ret (f78s3 v4)) :=
 viaLoopS (by kernel_rfl) (f78t6L N (joinK (some f78l1) K) N v0 v1 v5) (by kernel_rfl)
noncomputable def f78p5 : Plan := .mk (some f78l1) none f78p6 .n
theorem f78t5 N v0 v1 v5 (K : KT ρ) : f78i N (f78c 13) f78p5 (f78s2 v0 v1 v5) (joinK (some f78l1) K) =
  spec_l1Less.Z5 N v0 v1 v5 (fun v0 v1 => K .nrm (f78s1 v0 v1)) (fun v4 => K .ret (f78s3 v4)) :=
 viaBlockS (by kernel_rfl) (f78t6 N (K := blockK 0 (joinK (some f78l1) K)) ..) (by kernel_rfl)
noncomputable def f78p3 : Plan := .mk (some f78l2) none .n f78p5
theorem f78t3 N v0 v1 (K : KT ρ) : f78i N (f78c 5) f78p3 (f78s1 v0 v1) (joinK (some f78l1) K) =
  spec_l1Less.Z3 N v0 v1 (fun v0 v1 => K .nrm (f78s1 v0 v1)) (fun v4 => K .ret (f78s3 v4)) :=
 viaSeqS (fun k => spec_l1Less.Z4 N v0 v1 k) (by kernel_rfl) (f78t4 N (K := seqK (fun σ => f78i N (f78c 13) f78p5 σ (joinK (some f78l1) K)) (joinK (some f78l1) K)) ..) (fx3 fun v0 v1 v5 => f78t5 N v0 v1 v5 K) (by kernel_rfl)
theorem f78t8 N v0 v1 (K : KT ρ) : f78i N (f78c 7) .n (f78s1 v0 v1) (joinK (some f78lE) K) =
  spec_l1Less.Z8 N v0 v1 (fun v4 => K .ret (f78s3 v4)) := by kernel_rfl
noncomputable def f78p2 : Plan := .mk (some f78l1) none f78p3 .n
theorem f78t2 N v0 v1 (K : KT ρ) : f78i N (f78c 3) f78p2 (f78s1 v0 v1) (joinK (some f78lE) K) =
  spec_l1Less.Z2 N v0 v1 (fun v4 => K .ret (f78s3 v4)) :=
 viaSeqS (fun k => spec_l1Less.Z3 N v0 v1 k (fun v4 => K .ret (f78s3 v4))) (by kernel_rfl) (f78t3 N (K := seqK (fun σ => f78i N (f78c 7) .n σ (joinK (some f78lE) K)) (joinK (some f78lE) K)) ..) (fx2 fun v0 v1 => f78t8 N v0 v1 K) (by kernel_rfl)
noncomputable def f78p0 : Plan := .mk (some f78l1) none .n f78p2
theorem f78t0 N v0 v1 (K : KT ρ) : f78i N (f78c 1) f78p0 (f78s0 v0 v1) (joinK (some f78lE) K) =
  spec_l1Less.Z0 N v0 v1 (fun v4 => K .ret (f78s3 v4)) :=
 viaSeqS (fun k => spec_l1Less.Z1 N v0 v1 k) (by kernel_rfl) (f78t1 N (K := seqK (fun σ => f78i N (f78c 3) f78p2 σ (joinK (some f78lE) K)) (joinK (some f78lE) K)) ..) (fx2 fun v0 v1 => f78t2 N v0 v1 K) (by kernel_rfl)
theorem f78m (N : Nat) (v0 v1 : LI) : f78i N (f78c 1) f78p0 (f78s0 v0 v1) (joinK (some f78lE) (finK tab f78sig Tryd.f78.results.toList)) = spec_l1Less.Z0 N v0 v1 (fun v4 => some ((), (v4, ()))) :=
  (f78t0 N v0 v1 (finK tab f78sig Tryd.f78.results.toList)).trans (by kernel_rfl)
theorem f78ok (h : spec_l1Less.Spec) : EntryOk Tryd.prog 78 e78 :=
  entry_of_code (sig := f78sig) (c := (f78c 1)) (pl := f78p0) (je := (some f78lE)) (B := f78B) Tryd.func78 (by kernel_rfl) (by kernel_rfl) (by kernel_rfl) tabOk f78GOk (by kernel_rfl) (by kernel_rfl) (by kernel_rfl) (by kernel_rfl) fun X hb hp => by
    obtain ⟨v0, v1, _⟩ := X
    obtain ⟨N, h⟩ := h v0 v1 hb.1 hb.2.1
    exact ⟨N, (f78m N v0 v1).trans (h N (Nat.le_refl N))⟩
theorem e78ok : EntryOk Tryd.prog 78 e78 := f78ok spec_l1Less.ok
end Go.Fw
namespace Go.Fw
variable {ρ : Type}
open Go.Proofs
noncomputable def f51sig : Sig := ⟨[⟨.pair (.int .i64) (.sl 61 (.pair (.sl 3 (.int .i64)) (.int .i64))), true, false⟩], [⟨.bool, false, false⟩]⟩
noncomputable def e51 : Entry := ⟨f51sig, none, fun X => ((), ((spec_l2Right.g X.1), ()))⟩
noncomputable def f51G : Gm := addG (addG emptyG 77 e77) 78 e78
theorem f51GOk : GOk Tryd.prog f51G := ((GOk.nil).add e77ok (by kernel_rfl)).add e78ok (by kernel_rfl)
noncomputable def f51lE : Clean := ⟨[], [], [], [], []⟩
noncomputable def f51s0 (v0 : Int × List (LI × Int)) : St := initSt f51sig.ps (v0, ())
noncomputable def f51s1 (v1_0 : Int) (v1_1 : List (LI × Int)) : St := stOf [(1, xb 1)] [(1, (36, [yi v1_0, .sn 61 (.pair (.sl 3 tI) tI) v1_1 none]))] []
noncomputable def f51l1 : Clean := ⟨[1], [1], [], [], []⟩
noncomputable def f51s2 (v3 v1_0 : Int) (v1_1 : List (LI × Int)) : St := stOf [(1, xb 1), (3, xi v3)] [(1, (36, [yi v1_0, .sn 61 (.pair (.sl 3 tI) tI) v1_1 none]))] []
noncomputable def f51l2 : Clean := ⟨[1, 3], [1], [], [], []⟩
noncomputable def f51s3 (v3 v1_0 : Int) (v1_1 : List (LI × Int)) (v4_0 : LI) (v4_1 : Int) : St := stOf [(1, xb 1), (3, xi v3), (4, xb 4)] [(1, (36, [yi v1_0, .sn 61 (.pair (.sl 3 tI) tI) v1_1 none])), (4, (61, [.sn 3 tI v4_0 none, yi v4_1]))] []
noncomputable def f51l3 : Clean := ⟨[1, 3, 4], [1, 4], [], [], []⟩
noncomputable def f51s4 (v3 v5 v1_0 : Int) (v1_1 : List (LI × Int)) (v4_0 : LI) (v4_1 : Int) : St := stOf [(1, xb 1), (3, xi v3), (4, xb 4), (5, xi v5)] [(1, (36, [yi v1_0, .sn 61 (.pair (.sl 3 tI) tI) v1_1 none])), (4, (61, [.sn 3 tI v4_0 none, yi v4_1]))] []
noncomputable def f51l4 : Clean := ⟨[1, 3, 4, 5], [1, 4], [], [], []⟩
noncomputable def f51s5  : St := stOf [] [] []
noncomputable def f51l5 : Clean := ⟨[], [], [], [], []⟩
noncomputable def f51s6 (v2 : Bool) : St := stOf [(2, xB v2)] [] []
noncomputable def f51l6 : Clean := ⟨[2], [], [], [], []⟩
noncomputable def f51B : Nat → Option Clean := lookL [(2, f51l2), (1, f51l2), (0, f51l5), (1000000, f51l6)]
noncomputable abbrev f51i {ρ : Type} (N : Nat) (c : Code) (p : Plan) (σ : St) (K : KT ρ) : Option ρ := iCode f51G tab f51B N c p σ K
noncomputable def f51c (n : Nat) : Code := codeN 99 (bodyOf Tryd.f51) n
theorem f51t1 N v0 (K : KT ρ) : f51i N (f51c 2) .n (f51s0 v0) (joinK (some f51l1) K) =
  spec_l2Right.Z1 N v0 (fun v1_0 v1_1 => K .nrm (f51s1 v1_0 v1_1)) := by kernel_rfl
theorem f51t3 N v1_0 v1_1 (K : KT ρ) : f51i N (f51c 5) .n (f51s1 v1_0 v1_1) (joinK (some f51l1) K) =
  spec_l2Right.Z3 N v1_0 v1_1 (fun v1_0 v1_1 => K .nrm (f51s1 v1_0 v1_1)) (fun v2 => K .ret (f51s6 v2)) := by kernel_rfl
theorem f51t6 N v1_0 v1_1 (K : KT ρ) : f51i N (f51c 19) .n (f51s1 v1_0 v1_1) (joinK (some f51l2) K) =
  spec_l2Right.Z6 N v1_0 v1_1 (fun v3 v1_0 v1_1 => K .nrm (f51s2 v3 v1_0 v1_1)) := by kernel_rfl
theorem f51t10 N v3 v1_0 v1_1 (K : KT ρ) : f51i N (f51c 139) .n (f51s2 v3 v1_0 v1_1) (joinK (some f51l2) K) =
  spec_l2Right.Z10 N v3 v1_0 v1_1 (fun v3 v1_0 v1_1 => K .nrm (f51s2 v3 v1_0 v1_1)) (K (.exit 0) f51s5) := by kernel_rfl
theorem f51t14 N v3 v1_0 v1_1 (K : KT ρ) : f51i N (f51c 1099) .n (f51s2 v3 v1_0 v1_1) (joinK (some f51l3) K) =
  spec_l2Right.Z14 N v3 v1_0 v1_1 (fun v3 v1_0 v1_1 v4_0 v4_1 => K .nrm (f51s3 v3 v1_0 v1_1 v4_0 v4_1)) := by kernel_rfl
theorem f51t16 N v3 v1_0 v1_1 v4_0 v4_1 (K : KT ρ) : f51i N (f51c 2635) .n (f51s3 v3 v1_0 v1_1 v4_0 v4_1) (joinK (some f51l3) K) =
  spec_l2Right.Z16 N v3 v1_0 v1_1 v4_0 v4_1 (fun v3 v1_0 v1_1 v4_0 v4_1 => K .nrm (f51s3 v3 v1_0 v1_1 v4_0 v4_1)) (fun v2 => K .ret (f51s6 v2)) := by kernel_rfl
theorem f51t18 N v3 v1_0 v1_1 v4_0 v4_1 (K : KT ρ) : f51i N (f51c 5707) .n (f51s3 v3 v1_0 v1_1 v4_0 v4_1) (joinK (some f51l4) K) =
  spec_l2Right.Z18 N v3 v1_0 v1_1 v4_0 v4_1 (fun v3 v5 v1_0 v1_1 v4_0 v4_1 => K .nrm (f51s4 v3 v5 v1_0 v1_1 v4_0 v4_1)) := by kernel_rfl
theorem f51t21 N v3 v5 v1_0 v1_1 v4_0 v4_1 (K : KT ρ) : f51i N (f51c 20043) .n (f51s4 v3 v5 v1_0 v1_1 v4_0 v4_1) (joinK (some f51l4) K) =
  spec_l2Right.Z21 N v3 v5 v1_0 v1_1 v4_0 v4_1 (fun v3 v5 v1_0 v1_1 v4_0 v4_1 => K .nrm (f51s4 v3 v5 v1_0 v1_1 v4_0 v4_1)) (fun v3 v1_0 v1_1 => K (.exit 2) (f51s2 v3 v1_0 v1_1)) (fun v2 => K .ret (f51s6 v2)) := by kernel_rfl
noncomputable def f51p20 : Plan := .mk none (some f51l4) .n .n
noncomputable abbrev f51w20 {ρ : Type} (N M : Nat) (σ : St) (K : KT ρ) : Option ρ := loopC (fun σ K => f51i N (f51c 20043) .n σ K) f51l4 M σ K
theorem f51t20L {ρ : Type} (N : Nat) (K : KT ρ) : ∀ (M : Nat) (v3 v5 v1_0 : Int) (v1_1 : List (LI × Int)) (v4_0 : LI) (v4_1 : Int), f51w20 N M (f51s4 v3 v5 v1_0 v1_1 v4_0 v4_1) K =
  spec_l2Right.Z20L N (fun v3 v1_0 v1_1 => K (.exit 2) (f51s2 v3 v1_0 v1_1)) (fun v2 => K .ret (f51s6 v2)) M v3 v5 v1_0 v1_1 v4_0 v4_1
  | 0, _, _, _, _, _, _ => rfl
  | M + 1, v3, v5, v1_0, v1_1, v4_0, v4_1 => viaRoundS (fun k => spec_l2Right.Z21 N v3 v5 v1_0 v1_1 v4_0 v4_1 k (fun v3 v1_0 v1_1 => K (.exit 2) (f51s2 v3 v1_0 v1_1)) (fun v2 => K .ret (f51s6 v2))) (f51t21 N (K := seqK (fun σ => f51w20 N M σ K) K) ..) (fx6 fun v3 v5 v1_0 v1_1 v4_0 v4_1 => f51t20L N K M v3 v5 v1_0 v1_1 v4_0 v4_1) (by kernel_rfl)
theorem f51t20 N v3 v5 v1_0 v1_1 v4_0 v4_1 (K : KT ρ) : f51i N (f51c 11851) f51p20 (f51s4 v3 v5 v1_0 v1_1 v4_0 v4_1) (joinK (some f51l2) K) =
  spec_l2Right.Z20 N v3 v5 v1_0 v1_1 v4_0 v4_1 (fun v3 v1_0 v1_1 => K (.exit 2) (f51s2 v3 v1_0 v1_1)) (fun v2 => K .ret (f51s6 v2)) :=
 viaLoopS (by kernel_rfl) (f51t20L N (joinK (some f51l2) K) N v3 v5 v1_0 v1_1 v4_0 v4_1) (by kernel_rfl)
noncomputable def f51p19 : Plan := .mk (some f51l2) none f51p20 .n
theorem f51t19 N v3 v5 v1_0 v1_1 v4_0 v4_1 (K : KT ρ) : f51i N (f51c 7755) f51p19 (f51s4 v3 v5 v1_0 v1_1 v4_0 v4_1) (joinK (some f51l2) K) =
  spec_l2Right.Z19 N v3 v5 v1_0 v1_1 v4_0 v4_1 (fun v3 v1_0 v1_1 => K .nrm (f51s2 v3 v1_0 v1_1)) (fun v2 => K .ret (f51s6 v2)) :=
 viaBlockS (by kernel_rfl) (f51t20 N (K := blockK 2 (joinK (some f51l2) K)) ..) (by kernel_rfl)
noncomputable def f51p17 : Plan := .mk (some f51l4) none .n f51p19
theorem f51t17 N v3 v1_0 v1_1 v4_0 v4_1 (K : KT ρ) : f51i N (f51c 3659) f51p17 (f51s3 v3 v1_0 v1_1 v4_0 v4_1) (joinK (some f51l2) K) =
  spec_l2Right.Z17 N v3 v1_0 v1_1 v4_0 v4_1 (fun v3 v1_0 v1_1 => K .nrm (f51s2 v3 v1_0 v1_1)) (fun v2 => K .ret (f51s6 v2)) :=
 viaSeqS (fun k => spec_l2Right.Z18 N v3 v1_0 v1_1 v4_0 v4_1 k) (by kernel_rfl) (f51t18 N (K := seqK (fun σ => f51i N (f51c 7755) f51p19 σ (joinK (some f51l2) K)) (joinK (some f51l2) K)) ..) (fx6 fun v3 v5 v1_0 v1_1 v4_0 v4_1 => f51t19 N v3 v5 v1_0 v1_1 v4_0 v4_1 K) (by kernel_rfl)
noncomputable def f51p15 : Plan := .mk (some f51l3) none .n f51p17
theorem f51t15 N v3 v1_0 v1_1 v4_0 v4_1 (K : KT ρ) : f51i N (f51c 1611) f51p15 (f51s3 v3 v1_0 v1_1 v4_0 v4_1) (joinK (some f51l2) K) =
  spec_l2Right.Z15 N v3 v1_0 v1_1 v4_0 v4_1 (fun v3 v1_0 v1_1 => K .nrm (f51s2 v3 v1_0 v1_1)) (fun v2 => K .ret (f51s6 v2)) :=
 viaSeqS (fun k => spec_l2Right.Z16 N v3 v1_0 v1_1 v4_0 v4_1 k (fun v2 => K .ret (f51s6 v2))) (by kernel_rfl) (f51t16 N (K := seqK (fun σ => f51i N (f51c 3659) f51p17 σ (joinK (some f51l2) K)) (joinK (some f51l2) K)) ..) (fx5 fun v3 v1_0 v1_1 v4_0 v4_1 => f51t17 N v3 v1_0 v1_1 v4_0 v4_1 K) (by kernel_rfl)
noncomputable def f51p13 : Plan := .mk (some f51l3) none .n f51p15
theorem f51t13 N v3 v1_0 v1_1 (K : KT ρ) : f51i N (f51c 587) f51p13 (f51s2 v3 v1_0 v1_1) (joinK (some f51l2) K) =
  spec_l2Right.Z13 N v3 v1_0 v1_1 (fun v3 v1_0 v1_1 => K .nrm (f51s2 v3 v1_0 v1_1)) (fun v2 => K .ret (f51s6 v2)) :=
 viaSeqS (fun k => spec_l2Right.Z14 N v3 v1_0 v1_1 k) (by kernel_rfl) (f51t14 N (K := seqK (fun σ => f51i N (f51c 1611) f51p15 σ (joinK (some f51l2) K)) (joinK (some f51l2) K)) ..) (fx5 fun v3 v1_0 v1_1 v4_0 v4_1 => f51t15 N v3 v1_0 v1_1 v4_0 v4_1 K) (by kernel_rfl)
noncomputable def f51p12 : Plan := .mk (some f51l2) none f51p13 .n
theorem f51t12 N v3 v1_0 v1_1 (K : KT ρ) : f51i N (f51c 331) f51p12 (f51s2 v3 v1_0 v1_1) (joinK (some f51l2) K) =
  spec_l2Right.Z12 N v3 v1_0 v1_1 (fun v3 v1_0 v1_1 => K .nrm (f51s2 v3 v1_0 v1_1)) (fun v2 => K .ret (f51s6 v2)) :=
 viaBlockS (by kernel_rfl) (f51t13 N (K := blockK 1 (joinK (some f51l2) K)) ..) (by kernel_rfl)
theorem f51t22 N v3 v1_0 v1_1 (K : KT ρ) : f51i N (f51c 459) .n (f51s2 v3 v1_0 v1_1) (joinK (some f51l2) K) =
  spec_l2Right.Z22 N v3 v1_0 v1_1 (fun v3 v1_0 v1_1 => K .nrm (f51s2 v3 v1_0 v1_1)) := by kernel_rfl
noncomputable def f51p11 : Plan := .mk (some f51l2) none f51p12 .n
theorem f51t11 N v3 v1_0 v1_1 (K : KT ρ) : f51i N (f51c 203) f51p11 (f51s2 v3 v1_0 v1_1) (joinK (some f51l2) K) =
  spec_l2Right.Z11 N v3 v1_0 v1_1 (fun v3 v1_0 v1_1 => K .nrm (f51s2 v3 v1_0 v1_1)) (fun v2 => K .ret (f51s6 v2)) :=
 viaSeqS (fun k => spec_l2Right.Z12 N v3 v1_0 v1_1 k (fun v2 => K .ret (f51s6 v2))) (by kernel_rfl) (f51t12 N (K := seqK (fun σ => f51i N (f51c 459) .n σ (joinK (some f51l2) K)) (joinK (some f51l2) K)) ..) (fx3 fun v3 v1_0 v1_1 => f51t22 N v3 v1_0 v1_1 K) (by kernel_rfl)
noncomputable def f51p9 : Plan := .mk (some f51l2) none .n f51p11
theorem f51t9 N v3 v1_0 v1_1 (K : KT ρ) : f51i N (f51c 75) f51p9 (f51s2 v3 v1_0 v1_1) (joinK (some f51l2) K) =
  spec_l2Right.Z9 N v3 v1_0 v1_1 (fun v3 v1_0 v1_1 => K .nrm (f51s2 v3 v1_0 v1_1)) (K (.exit 0) f51s5) (fun v2 => K .ret (f51s6 v2)) :=
 viaSeqS (fun k => spec_l2Right.Z10 N v3 v1_0 v1_1 k (K (.exit 0) f51s5)) (by kernel_rfl) (f51t10 N (K := seqK (fun σ => f51i N (f51c 203) f51p11 σ (joinK (some f51l2) K)) (joinK (some f51l2) K)) ..) (fx3 fun v3 v1_0 v1_1 => f51t11 N v3 v1_0 v1_1 K) (by kernel_rfl)
noncomputable def f51p8 : Plan := .mk none (some f51l2) f51p9 .n
noncomputable abbrev f51w8 {ρ : Type} (N M : Nat) (σ : St) (K : KT ρ) : Option ρ := loopC (fun σ K => f51i N (f51c 75) f51p9 σ K) f51l2 M σ K
theorem f51t8L {ρ : Type} (N : Nat) (K : KT ρ) : ∀ (M : Nat) (v3 v1_0 : Int) (v1_1 : List (LI × Int)), f51w8 N M (f51s2 v3 v1_0 v1_1) K =
  spec_l2Right.Z8L N (K (.exit 0) f51s5) (fun v2 => K .ret (f51s6 v2)) M v3 v1_0 v1_1
  | 0, _, _, _ => rfl
  | M + 1, v3, v1_0, v1_1 => viaRoundS (fun k => spec_l2Right.Z9 N v3 v1_0 v1_1 k (K (.exit 0) f51s5) (fun v2 => K .ret (f51s6 v2))) (f51t9 N (K := seqK (fun σ => f51w8 N M σ K) K) ..) (fx3 fun v3 v1_0 v1_1 => f51t8L N K M v3 v1_0 v1_1) (by kernel_rfl)
theorem f51t8 N v3 v1_0 v1_1 (K : KT ρ) : f51i N (f51c 43) f51p8 (f51s2 v3 v1_0 v1_1) (joinK (some f51l5) K) =
  spec_l2Right.Z8 N v3 v1_0 v1_1 (K (.exit 0) f51s5) (fun v2 => K .ret (f51s6 v2)) :=
 viaLoopS (by kernel_rfl) (f51t8L N (joinK (some f51l5) K) N v3 v1_0 v1_1) (by kernel_rfl)
noncomputable def f51p7 : Plan := .mk (some f51l5) none f51p8 .n
theorem f51t7 N v3 v1_0 v1_1 (K : KT ρ) : f51i N (f51c 27) f51p7 (f51s2 v3 v1_0 v1_1) (joinK (some f51l5) K) =
  spec_l2Right.Z7 N v3 v1_0 v1_1 (K .nrm f51s5) (fun v2 => K .ret (f51s6 v2)) :=
 viaBlockS (by kernel_rfl) (f51t8 N (K := blockK 0 (joinK (some f51l5) K)) ..) (by kernel_rfl)
noncomputable def f51p5 : Plan := .mk (some f51l2) none .n f51p7
theorem f51t5 N v1_0 v1_1 (K : KT ρ) : f51i N (f51c 11) f51p5 (f51s1 v1_0 v1_1) (joinK (some f51l5) K) =
  spec_l2Right.Z5 N v1_0 v1_1 (K .nrm f51s5) (fun v2 => K .ret (f51s6 v2)) :=
 viaSeqS (fun k => spec_l2Right.Z6 N v1_0 v1_1 k) (by kernel_rfl) (f51t6 N (K := seqK (fun σ => f51i N (f51c 27) f51p7 σ (joinK (some f51l5) K)) (joinK (some f51l5) K)) ..) (fx3 fun v3 v1_0 v1_1 => f51t7 N v3 v1_0 v1_1 K) (by kernel_rfl)
theorem f51t23 N  (K : KT ρ) : f51i N (f51c 15) .n f51s5 (joinK (some f51lE) K) =
  spec_l2Right.Z23 N (fun v2 => K .ret (f51s6 v2)) := by kernel_rfl
noncomputable def f51p4 : Plan := .mk (some f51l5) none f51p5 .n
theorem f51t4 N v1_0 v1_1 (K : KT ρ) : f51i N (f51c 7) f51p4 (f51s1 v1_0 v1_1) (joinK (some f51lE) K) =
  spec_l2Right.Z4 N v1_0 v1_1 (fun v2 => K .ret (f51s6 v2)) :=
 viaSeqS (fun k => spec_l2Right.Z5 N v1_0 v1_1 k (fun v2 => K .ret (f51s6 v2))) (by kernel_rfl) (f51t5 N (K := seqK (fun σ => f51i N (f51c 15) .n σ (joinK (some f51lE) K)) (joinK (some f51lE) K)) ..) (f51t23 N K) (by kernel_rfl)
noncomputable def f51p2 : Plan := .mk (some f51l1) none .n f51p4
theorem f51t2 N v1_0 v1_1 (K : KT ρ) : f51i N (f51c 3) f51p2 (f51s1 v1_0 v1_1) (joinK (some f51lE) K) =
  spec_l2Right.Z2 N v1_0 v1_1 (fun v2 => K .ret (f51s6 v2)) :=
 viaSeqS (fun k => spec_l2Right.Z3 N v1_0 v1_1 k (fun v2 => K .ret (f51s6 v2))) (by kernel_rfl) (f51t3 N (K := seqK (fun σ => f51i N (f51c 7) f51p4 σ (joinK (some f51lE) K)) (joinK (some f51lE) K)) ..) (fx2 fun v1_0 v1_1 => f51t4 N v1_0 v1_1 K) (by kernel_rfl)
noncomputable def f51p0 : Plan := .mk (some f51l1) none .n f51p2
theorem f51t0 N v0 (K : KT ρ) : f51i N (f51c 1) f51p0 (f51s0 v0) (joinK (some f51lE) K) =
  spec_l2Right.Z0 N v0 (fun v2 => K .ret (f51s6 v2)) :=
 viaSeqS (fun k => spec_l2Right.Z1 N v0 k) (by kernel_rfl) (f51t1 N (K := seqK (fun σ => f51i N (f51c 3) f51p2 σ (joinK (some f51lE) K)) (joinK (some f51lE) K)) ..) (fx2 fun v1_0 v1_1 => f51t2 N v1_0 v1_1 K) (by kernel_rfl)
theorem f51m (N : Nat) (v0 : Int × List (LI × Int)) : f51i N (f51c 1) f51p0 (f51s0 v0) (joinK (some f51lE) (finK tab f51sig Tryd.f51.results.toList)) = spec_l2Right.Z0 N v0 (fun v2 => some ((), (v2, ()))) :=
  (f51t0 N v0 (finK tab f51sig Tryd.f51.results.toList)).trans (by kernel_rfl)
theorem f51ok (h : spec_l2Right.Spec) : EntryOk Tryd.prog 51 e51 :=
  entry_of_code (sig := f51sig) (c := (f51c 1)) (pl := f51p0) (je := (some f51lE)) (B := f51B) Tryd.func51 (by kernel_rfl) (by kernel_rfl) (by kernel_rfl) tabOk f51GOk (by kernel_rfl) (by kernel_rfl) (by kernel_rfl) (by kernel_rfl) fun X hb hp => by
    obtain ⟨v0, _⟩ := X
    obtain ⟨N, h⟩ := h v0 hb.1
    exact ⟨N, (f51m N v0).trans (h N (Nat.le_refl N))⟩
theorem e51ok : EntryOk Tryd.prog 51 e51 := f51ok spec_l2Right.ok
end Go.Fw
namespace Go.Fw
variable {ρ : Type}
open Go.Proofs
noncomputable def f61sig : Sig := ⟨[⟨.sl 3 (.int .i64), false, false⟩], [⟨.str, false, false⟩]⟩
noncomputable def e61 : Entry := ⟨f61sig, (some fun X => spec_FormatInts.P X.1), fun X => ((), ((spec_FormatInts.g X.1), ()))⟩
noncomputable def f61G : Gm := addG emptyG 56 e56
theorem f61GOk : GOk Tryd.prog f61G := (GOk.nil).add e56ok (by kernel_rfl)
noncomputable def f61lE : Clean := ⟨[], [], [], [], []⟩
noncomputable def f61s0 (v0 : LI) : St := initSt f61sig.ps (v0, ())
noncomputable def f61s1 (v0 : LI) : St := stOf [(0, .c (.sn 3 tI v0 none))] [] []
noncomputable def f61l1 : Clean := ⟨[0], [], [], [], []⟩
noncomputable def f61s2 (v0 : LI) (v3 : ByteArray) : St := stOf [(0, .c (.sn 3 tI v0 none)), (3, .c (.str v3))] [] []
noncomputable def f61l2 : Clean := ⟨[0, 3], [], [], [], []⟩
noncomputable def f61s3 (v0 : LI) (v3 : ByteArray) (v4 : Int) : St := stOf [(0, .c (.sn 3 tI v0 none)), (3, .c (.str v3)), (4, xi v4)] [] []
noncomputable def f61l3 : Clean := ⟨[0, 3, 4], [], [], [], []⟩
noncomputable def f61s4 (v3 : ByteArray) : St := stOf [(3, .c (.str v3))] [] []
noncomputable def f61l4 : Clean := ⟨[3], [], [], [], []⟩
noncomputable def f61s5 (v2 : ByteArray) : St := stOf [(2, .c (.str v2))] [] []
noncomputable def f61l5 : Clean := ⟨[2], [], [], [], []⟩
noncomputable def f61B : Nat → Option Clean := lookL [(0, f61l4), (1000000, f61l5)]
noncomputable abbrev f61i {ρ : Type} (N : Nat) (c : Code) (p : Plan) (σ : St) (K : KT ρ) : Option ρ := iCode f61G tab f61B N c p σ K
noncomputable def f61c (n : Nat) : Code := codeN 99 (bodyOf Tryd.f61) n
theorem f61t1 N v0 (K : KT ρ) : f61i N (f61c 2) .n (f61s0 v0) (joinK (some f61l1) K) =
  spec_FormatInts.Z1 N v0 (fun v0 => K .nrm (f61s1 v0)) := by kernel_rfl
theorem f61t3 N v0 (K : KT ρ) : f61i N (f61c 5) .n (f61s1 v0) (joinK (some f61l2) K) =
  spec_FormatInts.Z3 N v0 (fun v0 v3 => K .nrm (f61s2 v0 v3)) := by kernel_rfl
theorem f61t6 N v0 v3 (K : KT ρ) : f61i N (f61c 19) .n (f61s2 v0 v3) (joinK (some f61l3) K) =
  spec_FormatInts.Z6 N v0 v3 (fun v0 v3 v4 => K .nrm (f61s3 v0 v3 v4)) := by kernel_rfl
theorem f61t9 N v0 v3 v4 (K : KT ρ) : f61i N (f61c 75) .n (f61s3 v0 v3 v4) (joinK (some f61l3) K) =
  spec_FormatInts.Z9 N v0 v3 v4 (fun v0 v3 v4 => K .nrm (f61s3 v0 v3 v4)) (fun v3 => K (.exit 0) (f61s4 v3)) := by kernel_rfl
noncomputable def f61p8 : Plan := .mk none (some f61l3) .n .n
noncomputable abbrev f61w8 {ρ : Type} (N M : Nat) (σ : St) (K : KT ρ) : Option ρ := loopC (fun σ K => f61i N (f61c 75) .n σ K) f61l3 M σ K
theorem f61t8L {ρ : Type} (N : Nat) (K : KT ρ) : ∀ (M : Nat) (v0 : LI) (v3 : ByteArray) (v4 : Int), f61w8 N M (f61s3 v0 v3 v4) K =
  spec_FormatInts.Z8L N (fun v3 => K (.exit 0) (f61s4 v3)) M v0 v3 v4
  | 0, _, _, _ => rfl
  | M + 1, v0, v3, v4 => viaRoundS (fun k => spec_FormatInts.Z9 N v0 v3 v4 k (fun v3 => K (.exit 0) (f61s4 v3))) (f61t9 N (K := seqK (fun σ => f61w8 N M σ K) K) ..) (fx3 fun v0 v3 v4 => f61t8L N K M v0 v3 v4) (by kernel_rfl)
theorem f61t8 N v0 v3 v4 (K : KT ρ) : f61i N (f61c 43) f61p8 (f61s3 v0 v3 v4) (joinK (some f61l4) K) =
  spec_FormatInts.Z8 N v0 v3 v4 (fun v3 => K (.exit 0) (f61s4 v3)) :=
 viaLoopS (by kernel_rfl) (f61t8L N (joinK (some f61l4) K) N v0 v3 v4) (by kernel_rfl)
noncomputable def f61p7 : Plan := .mk (some f61l4) none f61p8 .n
theorem f61t7 N v0 v3 v4 (K : KT ρ) : f61i N (f61c 27) f61p7 (f61s3 v0 v3 v4) (joinK (some f61l4) K) =
  spec_FormatInts.Z7 N v0 v3 v4 (fun v3 => K .nrm (f61s4 v3)) :=
 viaBlockS (by kernel_rfl) (f61t8 N (K := blockK 0 (joinK (some f61l4) K)) ..) (by kernel_rfl)
noncomputable def f61p5 : Plan := .mk (some f61l3) none .n f61p7
theorem f61t5 N v0 v3 (K : KT ρ) : f61i N (f61c 11) f61p5 (f61s2 v0 v3) (joinK (some f61l4) K) =
  spec_FormatInts.Z5 N v0 v3 (fun v3 => K .nrm (f61s4 v3)) :=
 viaSeqS (fun k => spec_FormatInts.Z6 N v0 v3 k) (by kernel_rfl) (f61t6 N (K := seqK (fun σ => f61i N (f61c 27) f61p7 σ (joinK (some f61l4) K)) (joinK (some f61l4) K)) ..) (fx3 fun v0 v3 v4 => f61t7 N v0 v3 v4 K) (by kernel_rfl)
theorem f61t10 N v3 (K : KT ρ) : f61i N (f61c 15) .n (f61s4 v3) (joinK (some f61lE) K) =
  spec_FormatInts.Z10 N v3 (fun v2 => K .ret (f61s5 v2)) := by kernel_rfl
noncomputable def f61p4 : Plan := .mk (some f61l4) none f61p5 .n
theorem f61t4 N v0 v3 (K : KT ρ) : f61i N (f61c 7) f61p4 (f61s2 v0 v3) (joinK (some f61lE) K) =
  spec_FormatInts.Z4 N v0 v3 (fun v2 => K .ret (f61s5 v2)) :=
 viaSeqS (fun k => spec_FormatInts.Z5 N v0 v3 k) (by kernel_rfl) (f61t5 N (K := seqK (fun σ => f61i N (f61c 15) .n σ (joinK (some f61lE) K)) (joinK (some f61lE) K)) ..) (funext fun v3 => f61t10 N v3 K) (by kernel_rfl)
noncomputable def f61p2 : Plan := .mk (some f61l2) none .n f61p4
theorem f61t2 N v0 (K : KT ρ) : f61i N (f61c 3) f61p2 (f61s1 v0) (joinK (some f61lE) K) =
  spec_FormatInts.Z2 N v0 (fun v2 => K .ret (f61s5 v2)) :=
 viaSeqS (fun k => spec_FormatInts.Z3 N v0 k) (by kernel_rfl) (f61t3 N (K := seqK (fun σ => f61i N (f61c 7) f61p4 σ (joinK (some f61lE) K)) (joinK (some f61lE) K)) ..) (fx2 fun v0 v3 => f61t4 N v0 v3 K) (by kernel_rfl)
noncomputable def f61p0 : Plan := .mk (some f61l1) none .n f61p2
theorem f61t0 N v0 (K : KT ρ) : f61i N (f61c 1) f61p0 (f61s0 v0) (joinK (some f61lE) K) =
  spec_FormatInts.Z0 N v0 (fun v2 => K .ret (f61s5 v2)) :=
 viaSeqS (fun k => spec_FormatInts.Z1 N v0 k) (by kernel_rfl) (f61t1 N (K := seqK (fun σ => f61i N (f61c 3) f61p2 σ (joinK (some f61lE) K)) (joinK (some f61lE) K)) ..) (funext fun v0 => f61t2 N v0 K) (by kernel_rfl)
theorem f61m (N : Nat) (v0 : LI) : f61i N (f61c 1) f61p0 (f61s0 v0) (joinK (some f61lE) (finK tab f61sig Tryd.f61.results.toList)) = spec_FormatInts.Z0 N v0 (fun v2 => some ((), (v2, ()))) :=
  (f61t0 N v0 (finK tab f61sig Tryd.f61.results.toList)).trans (by kernel_rfl)
theorem f61ok (h : spec_FormatInts.Spec) : EntryOk Tryd.prog 61 e61 :=
  entry_of_code (sig := f61sig) (c := (f61c 1)) (pl := f61p0) (je := (some f61lE)) (B := f61B) Tryd.func61 (by kernel_rfl) (by kernel_rfl) (by kernel_rfl) tabOk f61GOk (by kernel_rfl) (by kernel_rfl) (by kernel_rfl) (by kernel_rfl) fun X hb hp => by
    obtain ⟨v0, _⟩ := X
    obtain ⟨N, h⟩ := h v0 hb.1 hp
    exact ⟨N, (f61m N v0).trans (h N (Nat.le_refl N))⟩
theorem e61ok : EntryOk Tryd.prog 61 e61 := f61ok spec_FormatInts.ok
end Go.Fw
namespace Go.Fw
variable {ρ : Type}
open Go.Proofs
noncomputable def f38sig : Sig := ⟨[⟨.pair (.int .i64) (.sl 61 (.pair (.sl 3 (.int .i64)) (.int .i64))), true, false⟩], [⟨.str, false, false⟩]⟩
noncomputable def e38 : Entry := ⟨f38sig, none, fun X => ((), ((spec_FormatLaurent.g X.1), ()))⟩
noncomputable def f38G : Gm := addG (addG (addG emptyG 51 e51) 56 e56) 61 e61
theorem f38GOk : GOk Tryd.prog f38G := (((GOk.nil).add e51ok (by kernel_rfl)).add e56ok (by kernel_rfl)).add e61ok (by kernel_rfl)
noncomputable def f38lE : Clean := ⟨[], [], [], [], []⟩
noncomputable def f38s0 (v0 : Int × List (LI × Int)) : St := initSt f38sig.ps (v0, ())
noncomputable def f38s1 (v1_0 : Int) (v1_1 : List (LI × Int)) : St := stOf [(1, xb 1)] [(1, (36, [yi v1_0, .sn 61 (.pair (.sl 3 tI) tI) v1_1 none]))] []
noncomputable def f38l1 : Clean := ⟨[1], [1], [], [], []⟩
noncomputable def f38s2 (v3 : ByteArray) (v1_0 : Int) (v1_1 : List (LI × Int)) : St := stOf [(1, xb 1), (3, .c (.str v3))] [(1, (36, [yi v1_0, .sn 61 (.pair (.sl 3 tI) tI) v1_1 none]))] []
noncomputable def f38l2 : Clean := ⟨[1, 3], [1], [], [], []⟩
noncomputable def f38s3 (v3 : ByteArray) (v4 v1_0 : Int) (v1_1 : List (LI × Int)) : St := stOf [(1, xb 1), (3, .c (.str v3)), (4, xi v4)] [(1, (36, [yi v1_0, .sn 61 (.pair (.sl 3 tI) tI) v1_1 none]))] []
noncomputable def f38l3 : Clean := ⟨[1, 3, 4], [1], [], [], []⟩
noncomputable def f38s4 (v3 : ByteArray) : St := stOf [(3, .c (.str v3))] [] []
noncomputable def f38l4 : Clean := ⟨[3], [], [], [], []⟩
noncomputable def f38s5 (v2 : ByteArray) : St := stOf [(2, .c (.str v2))] [] []
noncomputable def f38l5 : Clean := ⟨[2], [], [], [], []⟩
noncomputable def f38B : Nat → Option Clean := lookL [(0, f38l4), (1000000, f38l5)]
noncomputable abbrev f38i {ρ : Type} (N : Nat) (c : Code) (p : Plan) (σ : St) (K : KT ρ) : Option ρ := iCode f38G tab f38B N c p σ K
noncomputable def f38c (n : Nat) : Code := codeN 99 (bodyOf Tryd.f38) n
theorem f38t1 N v0 (K : KT ρ) : f38i N (f38c 2) .n (f38s0 v0) (joinK (some f38l1) K) =
  spec_FormatLaurent.Z1 N v0 (fun v1_0 v1_1 => K .nrm (f38s1 v1_0 v1_1)) := by kernel_rfl
theorem f38t3 N v1_0 v1_1 (K : KT ρ) : f38i N (f38c 5) .n (f38s1 v1_0 v1_1) (joinK (some f38l1) K) =
  spec_FormatLaurent.Z3 N v1_0 v1_1 (fun v1_0 v1_1 => K .nrm (f38s1 v1_0 v1_1)) (fun v2 => K .ret (f38s5 v2)) := by kernel_rfl
theorem f38t5 N v1_0 v1_1 (K : KT ρ) : f38i N (f38c 11) .n (f38s1 v1_0 v1_1) (joinK (some f38l2) K) =
  spec_FormatLaurent.Z5 N v1_0 v1_1 (fun v3 v1_0 v1_1 => K .nrm (f38s2 v3 v1_0 v1_1)) := by kernel_rfl
theorem f38t7 N v3 v1_0 v1_1 (K : KT ρ) : f38i N (f38c 23) .n (f38s2 v3 v1_0 v1_1) (joinK (some f38l2) K) =
  spec_FormatLaurent.Z7 N v3 v1_0 v1_1 (fun v3 v1_0 v1_1 => K .nrm (f38s2 v3 v1_0 v1_1)) (fun v2 => K .ret (f38s5 v2)) := by kernel_rfl
theorem f38t10 N v3 v1_0 v1_1 (K : KT ρ) : f38i N (f38c 79) .n (f38s2 v3 v1_0 v1_1) (joinK (some f38l3) K) =
  spec_FormatLaurent.Z10 N v3 v1_0 v1_1 (fun v3 v4 v1_0 v1_1 => K .nrm (f38s3 v3 v4 v1_0 v1_1)) := by kernel_rfl
theorem f38t13 N v3 v4 v1_0 v1_1 (K : KT ρ) : f38i N (f38c 303) .n (f38s3 v3 v4 v1_0 v1_1) (joinK (some f38l3) K) =
  spec_FormatLaurent.Z13 N v3 v4 v1_0 v1_1 (fun v3 v4 v1_0 v1_1 => K .nrm (f38s3 v3 v4 v1_0 v1_1)) (fun v3 => K (.exit 0) (f38s4 v3)) := by kernel_rfl
noncomputable def f38p12 : Plan := .mk none (some f38l3) .n .n
noncomputable abbrev f38w12 {ρ : Type} (N M : Nat) (σ : St) (K : KT ρ) : Option ρ := loopC (fun σ K => f38i N (f38c 303) .n σ K) f38l3 M σ K
theorem f38t12L {ρ : Type} (N : Nat) (K : KT ρ) : ∀ (M : Nat) (v3 : ByteArray) (v4 v1_0 : Int) (v1_1 : List (LI × Int)), f38w12 N M (f38s3 v3 v4 v1_0 v1_1) K =
  spec_FormatLaurent.Z12L N (fun v3 => K (.exit 0) (f38s4 v3)) M v3 v4 v1_0 v1_1
  | 0, _, _, _, _ => rfl
  | M + 1, v3, v4, v1_0, v1_1 => viaRoundS (fun k => spec_FormatLaurent.Z13 N v3 v4 v1_0 v1_1 k (fun v3 => K (.exit 0) (f38s4 v3))) (f38t13 N (K := seqK (fun σ => f38w12 N M σ K) K) ..) (fx4 fun v3 v4 v1_0 v1_1 => f38t12L N K M v3 v4 v1_0 v1_1) (by kernel_rfl)
theorem f38t12 N v3 v4 v1_0 v1_1 (K : KT ρ) : f38i N (f38c 175) f38p12 (f38s3 v3 v4 v1_0 v1_1) (joinK (some f38l4) K) =
  spec_FormatLaurent.Z12 N v3 v4 v1_0 v1_1 (fun v3 => K (.exit 0) (f38s4 v3)) :=
 viaLoopS (by kernel_rfl) (f38t12L N (joinK (some f38l4) K) N v3 v4 v1_0 v1_1) (by kernel_rfl)
noncomputable def f38p11 : Plan := .mk (some f38l4) none f38p12 .n
theorem f38t11 N v3 v4 v1_0 v1_1 (K : KT ρ) : f38i N (f38c 111) f38p11 (f38s3 v3 v4 v1_0 v1_1) (joinK (some f38l4) K) =
  spec_FormatLaurent.Z11 N v3 v4 v1_0 v1_1 (fun v3 => K .nrm (f38s4 v3)) :=
 viaBlockS (by kernel_rfl) (f38t12 N (K := blockK 0 (joinK (some f38l4) K)) ..) (by kernel_rfl)
noncomputable def f38p9 : Plan := .mk (some f38l3) none .n f38p11
theorem f38t9 N v3 v1_0 v1_1 (K : KT ρ) : f38i N (f38c 47) f38p9 (f38s2 v3 v1_0 v1_1) (joinK (some f38l4) K) =
  spec_FormatLaurent.Z9 N v3 v1_0 v1_1 (fun v3 => K .nrm (f38s4 v3)) :=
 viaSeqS (fun k => spec_FormatLaurent.Z10 N v3 v1_0 v1_1 k) (by kernel_rfl) (f38t10 N (K := seqK (fun σ => f38i N (f38c 111) f38p11 σ (joinK (some f38l4) K)) (joinK (some f38l4) K)) ..) (fx4 fun v3 v4 v1_0 v1_1 => f38t11 N v3 v4 v1_0 v1_1 K) (by kernel_rfl)
theorem f38t14 N v3 (K : KT ρ) : f38i N (f38c 63) .n (f38s4 v3) (joinK (some f38lE) K) =
  spec_FormatLaurent.Z14 N v3 (fun v2 => K .ret (f38s5 v2)) := by kernel_rfl
noncomputable def f38p8 : Plan := .mk (some f38l4) none f38p9 .n
theorem f38t8 N v3 v1_0 v1_1 (K : KT ρ) : f38i N (f38c 31) f38p8 (f38s2 v3 v1_0 v1_1) (joinK (some f38lE) K) =
  spec_FormatLaurent.Z8 N v3 v1_0 v1_1 (fun v2 => K .ret (f38s5 v2)) :=
 viaSeqS (fun k => spec_FormatLaurent.Z9 N v3 v1_0 v1_1 k) (by kernel_rfl) (f38t9 N (K := seqK (fun σ => f38i N (f38c 63) .n σ (joinK (some f38lE) K)) (joinK (some f38lE) K)) ..) (funext fun v3 => f38t14 N v3 K) (by kernel_rfl)
noncomputable def f38p6 : Plan := .mk (some f38l2) none .n f38p8
theorem f38t6 N v3 v1_0 v1_1 (K : KT ρ) : f38i N (f38c 15) f38p6 (f38s2 v3 v1_0 v1_1) (joinK (some f38lE) K) =
  spec_FormatLaurent.Z6 N v3 v1_0 v1_1 (fun v2 => K .ret (f38s5 v2)) :=
 viaSeqS (fun k => spec_FormatLaurent.Z7 N v3 v1_0 v1_1 k (fun v2 => K .ret (f38s5 v2))) (by kernel_rfl) (f38t7 N (K := seqK (fun σ => f38i N (f38c 31) f38p8 σ (joinK (some f38lE) K)) (joinK (some f38lE) K)) ..) (fx3 fun v3 v1_0 v1_1 => f38t8 N v3 v1_0 v1_1 K) (by kernel_rfl)
noncomputable def f38p4 : Plan := .mk (some f38l2) none .n f38p6
theorem f38t4 N v1_0 v1_1 (K : KT ρ) : f38i N (f38c 7) f38p4 (f38s1 v1_0 v1_1) (joinK (some f38lE) K) =
  spec_FormatLaurent.Z4 N v1_0 v1_1 (fun v2 => K .ret (f38s5 v2)) :=
 viaSeqS (fun k => spec_FormatLaurent.Z5 N v1_0 v1_1 k) (by kernel_rfl) (f38t5 N (K := seqK (fun σ => f38i N (f38c 15) f38p6 σ (joinK (some f38lE) K)) (joinK (some f38lE) K)) ..) (fx3 fun v3 v1_0 v1_1 => f38t6 N v3 v1_0 v1_1 K) (by kernel_rfl)
noncomputable def f38p2 : Plan := .mk (some f38l1) none .n f38p4
theorem f38t2 N v1_0 v1_1 (K : KT ρ) : f38i N (f38c 3) f38p2 (f38s1 v1_0 v1_1) (joinK (some f38lE) K) =
  spec_FormatLaurent.Z2 N v1_0 v1_1 (fun v2 => K .ret (f38s5 v2)) :=
 viaSeqS (fun k => spec_FormatLaurent.Z3 N v1_0 v1_1 k (fun v2 => K .ret (f38s5 v2))) (by kernel_rfl) (f38t3 N (K := seqK (fun σ => f38i N (f38c 7) f38p4 σ (joinK (some f38lE) K)) (joinK (some f38lE) K)) ..) (fx2 fun v1_0 v1_1 => f38t4 N v1_0 v1_1 K) (by kernel_rfl)
noncomputable def f38p0 : Plan := .mk (some f38l1) none .n f38p2
theorem f38t0 N v0 (K : KT ρ) : f38i N (f38c 1) f38p0 (f38s0 v0) (joinK (some f38lE) K) =
  spec_FormatLaurent.Z0 N v0 (fun v2 => K .ret (f38s5 v2)) :=
 viaSeqS (fun k => spec_FormatLaurent.Z1 N v0 k) (by kernel_rfl) (f38t1 N (K := seqK (fun σ => f38i N (f38c 3) f38p2 σ (joinK (some f38lE) K)) (joinK (some f38lE) K)) ..) (fx2 fun v1_0 v1_1 => f38t2 N v1_0 v1_1 K) (by kernel_rfl)
theorem f38m (N : Nat) (v0 : Int × List (LI × Int)) : f38i N (f38c 1) f38p0 (f38s0 v0) (joinK (some f38lE) (finK tab f38sig Tryd.f38.results.toList)) = spec_FormatLaurent.Z0 N v0 (fun v2 => some ((), (v2, ()))) :=
  (f38t0 N v0 (finK tab f38sig Tryd.f38.results.toList)).trans (by kernel_rfl)
theorem f38ok (h : spec_FormatLaurent.Spec) : EntryOk Tryd.prog 38 e38 :=
  entry_of_code (sig := f38sig) (c := (f38c 1)) (pl := f38p0) (je := (some f38lE)) (B := f38B) Tryd.func38 (by kernel_rfl) (by kernel_rfl) (by kernel_rfl) tabOk f38GOk (by kernel_rfl) (by kernel_rfl) (by kernel_rfl) (by kernel_rfl) fun X hb hp => by
    obtain ⟨v0, _⟩ := X
    obtain ⟨N, h⟩ := h v0 hb.1
    exact ⟨N, (f38m N v0).trans (h N (Nat.le_refl N))⟩
theorem e38ok : EntryOk Tryd.prog 38 e38 := f38ok spec_FormatLaurent.ok
end Go.Fw
namespace Go.Fw
variable {ρ : Type}
open Go.Proofs
noncomputable def f17sig : Sig := ⟨[⟨.str, false, false⟩], [⟨.pair (.int .i64) (.sl 61 (.pair (.sl 3 (.int .i64)) (.int .i64))), true, false⟩, ⟨.bool, false, false⟩]⟩
noncomputable def e17 : Entry := ⟨f17sig, (some fun X => spec_ParseLaurent.P X.1), fun X => ((), ((spec_ParseLaurent.g X.1).1, ((spec_ParseLaurent.g X.1).2, ())))⟩
noncomputable def f17G : Gm := addG (addG (addG (addG emptyG 7 e7) 29 e29) 30 e30) 38 e38
theorem f17GOk : GOk Tryd.prog f17G := ((((GOk.nil).add e7ok (by kernel_rfl)).add e29ok (by kernel_rfl)).add e30ok (by kernel_rfl)).add e38ok (by kernel_rfl)
noncomputable def f17lE : Clean := ⟨[], [], [], [], []⟩
noncomputable def f17s0 (v0 : ByteArray) : St := initSt f17sig.ps (v0, ())
noncomputable def f17s1 (v0 : ByteArray) (v2_0 : Int) : St := stOf [(0, .c (.str v0)), (2, xb 2)] [(2, (36, [yi v2_0, .nil]))] []
noncomputable def f17l1 : Clean := ⟨[0, 2], [2], [], [], []⟩
noncomputable def f17s2 (v4 : List ByteArray) (v0 : ByteArray) (v2_0 : Int) : St := stOf [(0, .c (.str v0)), (2, xb 2), (4, xo 1000256)] [(2, (36, [yi v2_0, .nil]))] [(1000256, (⟨9, .str, v4, true, false⟩ : Row))]
noncomputable def f17l2 : Clean := ⟨[0, 2, 4], [2], [], [], [(⟨false, 4, 0⟩, 1000256)]⟩
noncomputable def f17s3 (v4 : List ByteArray) (v0 : ByteArray) (v5 : Int) (v6 : Bool) (v2_0 : Int) : St := stOf [(0, .c (.str v0)), (2, xb 2), (4, xo 1000256), (5, xi v5), (6, xB v6)] [(2, (36, [yi v2_0, .nil]))] [(1000256, (⟨9, .str, v4, true, false⟩ : Row))]
noncomputable def f17l3 : Clean := ⟨[0, 2, 4, 5, 6], [2], [], [], [(⟨false, 4, 0⟩, 1000256)]⟩
noncomputable def f17s4 (v4 : List ByteArray) (v0 : ByteArray) (v5 v2_0 : Int) : St := stOf [(0, .c (.str v0)), (2, xb 2), (4, xo 1000256), (5, xi v5)] [(2, (36, [yi v2_0, .nil]))] [(1000256, (⟨9, .str, v4, true, false⟩ : Row))]
noncomputable def f17l4 : Clean := ⟨[0, 2, 4, 5], [2], [], [], [(⟨false, 4, 0⟩, 1000256)]⟩
noncomputable def f17s5 (v4 : List ByteArray) (v7_1 : List (LI × Int)) (v0 : ByteArray) (v2_0 v7_0 : Int) : St := stOf [(0, .c (.str v0)), (2, xb 2), (4, xo 1000256), (7, xb 7)] [(2, (36, [yi v2_0, .nil])), (7, (36, [yi v7_0, .own 20000449]))] [(1000256, (⟨9, .str, v4, true, false⟩ : Row)), (20000449, (⟨61, .pair (.sl 3 tI) tI, v7_1, true, false⟩ : Row))]
noncomputable def f17l5 : Clean := ⟨[0, 2, 4, 7], [2, 7], [], [], [(⟨false, 4, 0⟩, 1000256), (⟨true, 7, 1⟩, 20000449)]⟩
noncomputable def f17s6 (v4 v8 : List ByteArray) (v7_1 : List (LI × Int)) (v0 : ByteArray) (v2_0 v7_0 : Int) : St := stOf [(0, .c (.str v0)), (2, xb 2), (4, xo 1000256), (7, xb 7), (8, xo 1000512)] [(2, (36, [yi v2_0, .nil])), (7, (36, [yi v7_0, .own 20000449]))] [(1000256, (⟨9, .str, v4, true, false⟩ : Row)), (1000512, (⟨9, .str, v8, true, false⟩ : Row)), (20000449, (⟨61, .pair (.sl 3 tI) tI, v7_1, true, false⟩ : Row))]
noncomputable def f17l6 : Clean := ⟨[0, 2, 4, 7, 8], [2, 7], [], [], [(⟨false, 4, 0⟩, 1000256), (⟨false, 8, 0⟩, 1000512), (⟨true, 7, 1⟩, 20000449)]⟩
noncomputable def f17s7 (v4 v8 : List ByteArray) (v7_1 : List (LI × Int)) (v0 : ByteArray) (v9 v2_0 v7_0 : Int) : St := stOf [(0, .c (.str v0)), (2, xb 2), (4, xo 1000256), (7, xb 7), (8, xo 1000512), (9, xi v9)] [(2, (36, [yi v2_0, .nil])), (7, (36, [yi v7_0, .own 20000449]))] [(1000256, (⟨9, .str, v4, true, false⟩ : Row)), (1000512, (⟨9, .str, v8, true, false⟩ : Row)), (20000449, (⟨61, .pair (.sl 3 tI) tI, v7_1, true, false⟩ : Row))]
noncomputable def f17l7 : Clean := ⟨[0, 2, 4, 7, 8, 9], [2, 7], [], [], [(⟨false, 4, 0⟩, 1000256), (⟨false, 8, 0⟩, 1000512), (⟨true, 7, 1⟩, 20000449)]⟩
noncomputable def f17s8 (v4 v8 : List ByteArray) (v7_1 : List (LI × Int)) (v0 : ByteArray) (v9 : Int) (v10 : ByteArray) (v2_0 v7_0 : Int) : St := stOf [(0, .c (.str v0)), (2, xb 2), (4, xo 1000256), (7, xb 7), (8, xo 1000512), (9, xi v9), (10, .c (.str v10))] [(2, (36, [yi v2_0, .nil])), (7, (36, [yi v7_0, .own 20000449]))] [(1000256, (⟨9, .str, v4, true, false⟩ : Row)), (1000512, (⟨9, .str, v8, true, false⟩ : Row)), (20000449, (⟨61, .pair (.sl 3 tI) tI, v7_1, true, false⟩ : Row))]
noncomputable def f17l8 : Clean := ⟨[0, 2, 4, 7, 8, 9, 10], [2, 7], [], [], [(⟨false, 4, 0⟩, 1000256), (⟨false, 8, 0⟩, 1000512), (⟨true, 7, 1⟩, 20000449)]⟩
noncomputable def f17s9 (v7_1 : List (LI × Int)) (v0 : ByteArray) (v2_0 v7_0 : Int) : St := stOf [(0, .c (.str v0)), (2, xb 2), (7, xb 7)] [(2, (36, [yi v2_0, .nil])), (7, (36, [yi v7_0, .own 20000449]))] [(20000449, (⟨61, .pair (.sl 3 tI) tI, v7_1, true, false⟩ : Row))]
noncomputable def f17l9 : Clean := ⟨[0, 2, 7], [2, 7], [], [], [(⟨true, 7, 1⟩, 20000449)]⟩
noncomputable def f17s10 (v2_1 : List (LI × Int)) (v3 : Bool) (v2_0 : Int) : St := stOf [(2, xb 2), (3, xB v3)] [(2, (36, [yi v2_0, .own 20000129]))] [(20000129, (⟨61, .pair (.sl 3 tI) tI, v2_1, true, false⟩ : Row))]
noncomputable def f17l10 : Clean := ⟨[2, 3], [2], [⟨⟨true, 2, 1⟩, 30000000, 61, .pair (.sl 3 (.int .i64)) (.int .i64), true⟩], [], [(⟨true, 2, 1⟩, 20000129)]⟩
noncomputable def f17B : Nat → Option Clean := lookL [(1, f17l7), (0, f17l9), (1000000, f17l10)]
noncomputable abbrev f17i {ρ : Type} (N : Nat) (c : Code) (p : Plan) (σ : St) (K : KT ρ) : Option ρ := iCode f17G tab f17B N c p σ K
noncomputable def f17c (n : Nat) : Code := codeN 99 (bodyOf Tryd.f17) n
theorem f17t1 N v0 (K : KT ρ) : f17i N (f17c 2) .n (f17s0 v0) (joinK (some f17l1) K) =
  spec_ParseLaurent.Z1 N v0 (fun v0 v2_0 => K .nrm (f17s1 v0 v2_0)) := by kernel_rfl
theorem f17t3 N v0 v2_0 (K : KT ρ) : f17i N (f17c 5) .n (f17s1 v0 v2_0) (joinK (some f17l2) K) =
  spec_ParseLaurent.Z3 N v0 v2_0 (fun v4 v0 v2_0 => K .nrm (f17s2 v4 v0 v2_0)) := by kernel_rfl
theorem f17t5 N v4 v0 v2_0 (K : KT ρ) : f17i N (f17c 11) .n (f17s2 v4 v0 v2_0) (joinK (some f17l2) K) =
  spec_ParseLaurent.Z5 N v4 v0 v2_0 (fun v4 v0 v2_0 => K .nrm (f17s2 v4 v0 v2_0)) (fun v2_1 v3 v2_0 => K .ret (f17s10 v2_1 v3 v2_0)) := by kernel_rfl
theorem f17t7 N v4 v0 v2_0 (K : KT ρ) : f17i N (f17c 23) .n (f17s2 v4 v0 v2_0) (joinK (some f17l3) K) =
  spec_ParseLaurent.Z7 N v4 v0 v2_0 (fun v4 v0 v5 v6 v2_0 => K .nrm (f17s3 v4 v0 v5 v6 v2_0)) := by kernel_rfl
theorem f17t9 N v4 v0 v5 v6 v2_0 (K : KT ρ) : f17i N (f17c 47) .n (f17s3 v4 v0 v5 v6 v2_0) (joinK (some f17l4) K) =
  spec_ParseLaurent.Z9 N v4 v0 v5 v6 v2_0 (fun v4 v0 v5 v2_0 => K .nrm (f17s4 v4 v0 v5 v2_0)) (fun v2_1 v3 v2_0 => K .ret (f17s10 v2_1 v3 v2_0)) := by kernel_rfl
theorem f17t11 N v4 v0 v5 v2_0 (K : KT ρ) : f17i N (f17c 95) .n (f17s4 v4 v0 v5 v2_0) (joinK (some f17l5) K) =
  spec_ParseLaurent.Z11 N v4 v0 v5 v2_0 (fun v4 v7_1 v0 v2_0 v7_0 => K .nrm (f17s5 v4 v7_1 v0 v2_0 v7_0)) := by kernel_rfl
theorem f17t13 N v4 v7_1 v0 v2_0 v7_0 (K : KT ρ) : f17i N (f17c 191) .n (f17s5 v4 v7_1 v0 v2_0 v7_0) (joinK (some f17l6) K) =
  spec_ParseLaurent.Z13 N v4 v7_1 v0 v2_0 v7_0 (fun v4 v8 v7_1 v0 v2_0 v7_0 => K .nrm (f17s6 v4 v8 v7_1 v0 v2_0 v7_0)) := by kernel_rfl
theorem f17t16 N v4 v8 v7_1 v0 v2_0 v7_0 (K : KT ρ) : f17i N (f17c 639) .n (f17s6 v4 v8 v7_1 v0 v2_0 v7_0) (joinK (some f17l7) K) =
  spec_ParseLaurent.Z16 N v4 v8 v7_1 v0 v2_0 v7_0 (fun v4 v8 v7_1 v0 v9 v2_0 v7_0 => K .nrm (f17s7 v4 v8 v7_1 v0 v9 v2_0 v7_0)) := by kernel_rfl
theorem f17t20 N v4 v8 v7_1 v0 v9 v2_0 v7_0 (K : KT ρ) : f17i N (f17c 4479) .n (f17s7 v4 v8 v7_1 v0 v9 v2_0 v7_0) (joinK (some f17l7) K) =
  spec_ParseLaurent.Z20 N v4 v8 v7_1 v0 v9 v2_0 v7_0 (fun v4 v8 v7_1 v0 v9 v2_0 v7_0 => K .nrm (f17s7 v4 v8 v7_1 v0 v9 v2_0 v7_0)) (fun v7_1 v0 v2_0 v7_0 => K (.exit 0) (f17s9 v7_1 v0 v2_0 v7_0)) := by kernel_rfl
theorem f17t24 N v4 v8 v7_1 v0 v9 v2_0 v7_0 (K : KT ρ) : f17i N (f17c 35199) .n (f17s7 v4 v8 v7_1 v0 v9 v2_0 v7_0) (joinK (some f17l8) K) =
  spec_ParseLaurent.Z24 N v4 v8 v7_1 v0 v9 v2_0 v7_0 (fun v4 v8 v7_1 v0 v9 v10 v2_0 v7_0 => K .nrm (f17s8 v4 v8 v7_1 v0 v9 v10 v2_0 v7_0)) := by kernel_rfl
theorem f17t26 N v4 v8 v7_1 v0 v9 v10 v2_0 v7_0 (K : KT ρ) : f17i N (f17c 84351) .n (f17s8 v4 v8 v7_1 v0 v9 v10 v2_0 v7_0) (joinK (some f17l8) K) =
  spec_ParseLaurent.Z26 N v4 v8 v7_1 v0 v9 v10 v2_0 v7_0 (fun v4 v8 v7_1 v0 v9 v10 v2_0 v7_0 => K .nrm (f17s8 v4 v8 v7_1 v0 v9 v10 v2_0 v7_0)) := by kernel_rfl
theorem f17t27 N v4 v8 v7_1 v0 v9 v10 v2_0 v7_0 (K : KT ρ) : f17i N (f17c 117119) .n (f17s8 v4 v8 v7_1 v0 v9 v10 v2_0 v7_0) (joinK (some f17l7) K) =
  spec_ParseLaurent.Z27 N v4 v8 v7_1 v0 v9 v10 v2_0 v7_0 (fun v4 v8 v7_1 v0 v9 v2_0 v7_0 => K .nrm (f17s7 v4 v8 v7_1 v0 v9 v2_0 v7_0)) (fun v2_1 v3 v2_0 => K .ret (f17s10 v2_1 v3 v2_0)) := by kernel_rfl
noncomputable def f17p25 : Plan := .mk (some f17l8) none .n .n
theorem f17t25 N v4 v8 v7_1 v0 v9 v10 v2_0 v7_0 (K : KT ρ) : f17i N (f17c 51583) f17p25 (f17s8 v4 v8 v7_1 v0 v9 v10 v2_0 v7_0) (joinK (some f17l7) K) =
  spec_ParseLaurent.Z25 N v4 v8 v7_1 v0 v9 v10 v2_0 v7_0 (fun v4 v8 v7_1 v0 v9 v2_0 v7_0 => K .nrm (f17s7 v4 v8 v7_1 v0 v9 v2_0 v7_0)) (fun v2_1 v3 v2_0 => K .ret (f17s10 v2_1 v3 v2_0)) :=
 viaSeqS (fun k => spec_ParseLaurent.Z26 N v4 v8 v7_1 v0 v9 v10 v2_0 v7_0 k) (by kernel_rfl) (f17t26 N (K := seqK (fun σ => f17i N (f17c 117119) .n σ (joinK (some f17l7) K)) (joinK (some f17l7) K)) ..) (fx8 fun v4 v8 v7_1 v0 v9 v10 v2_0 v7_0 => f17t27 N v4 v8 v7_1 v0 v9 v10 v2_0 v7_0 K) (by kernel_rfl)
noncomputable def f17p23 : Plan := .mk (some f17l8) none .n f17p25
theorem f17t23 N v4 v8 v7_1 v0 v9 v2_0 v7_0 (K : KT ρ) : f17i N (f17c 18815) f17p23 (f17s7 v4 v8 v7_1 v0 v9 v2_0 v7_0) (joinK (some f17l7) K) =
  spec_ParseLaurent.Z23 N v4 v8 v7_1 v0 v9 v2_0 v7_0 (fun v4 v8 v7_1 v0 v9 v2_0 v7_0 => K .nrm (f17s7 v4 v8 v7_1 v0 v9 v2_0 v7_0)) (fun v2_1 v3 v2_0 => K .ret (f17s10 v2_1 v3 v2_0)) :=
 viaSeqS (fun k => spec_ParseLaurent.Z24 N v4 v8 v7_1 v0 v9 v2_0 v7_0 k) (by kernel_rfl) (f17t24 N (K := seqK (fun σ => f17i N (f17c 51583) f17p25 σ (joinK (some f17l7) K)) (joinK (some f17l7) K)) ..) (fx8 fun v4 v8 v7_1 v0 v9 v10 v2_0 v7_0 => f17t25 N v4 v8 v7_1 v0 v9 v10 v2_0 v7_0 K) (by kernel_rfl)
noncomputable def f17p22 : Plan := .mk (some f17l7) none f17p23 .n
theorem f17t22 N v4 v8 v7_1 v0 v9 v2_0 v7_0 (K : KT ρ) : f17i N (f17c 10623) f17p22 (f17s7 v4 v8 v7_1 v0 v9 v2_0 v7_0) (joinK (some f17l7) K) =
  spec_ParseLaurent.Z22 N v4 v8 v7_1 v0 v9 v2_0 v7_0 (fun v4 v8 v7_1 v0 v9 v2_0 v7_0 => K .nrm (f17s7 v4 v8 v7_1 v0 v9 v2_0 v7_0)) (fun v2_1 v3 v2_0 => K .ret (f17s10 v2_1 v3 v2_0)) :=
 viaBlockS (by kernel_rfl) (f17t23 N (K := blockK 1 (joinK (some f17l7) K)) ..) (by kernel_rfl)
theorem f17t28 N v4 v8 v7_1 v0 v9 v2_0 v7_0 (K : KT ρ) : f17i N (f17c 14719) .n (f17s7 v4 v8 v7_1 v0 v9 v2_0 v7_0) (joinK (some f17l7) K) =
  spec_ParseLaurent.Z28 N v4 v8 v7_1 v0 v9 v2_0 v7_0 (fun v4 v8 v7_1 v0 v9 v2_0 v7_0 => K .nrm (f17s7 v4 v8 v7_1 v0 v9 v2_0 v7_0)) := by kernel_rfl
noncomputable def f17p21 : Plan := .mk (some f17l7) none f17p22 .n
theorem f17t21 N v4 v8 v7_1 v0 v9 v2_0 v7_0 (K : KT ρ) : f17i N (f17c 6527) f17p21 (f17s7 v4 v8 v7_1 v0 v9 v2_0 v7_0) (joinK (some f17l7) K) =
  spec_ParseLaurent.Z21 N v4 v8 v7_1 v0 v9 v2_0 v7_0 (fun v4 v8 v7_1 v0 v9 v2_0 v7_0 => K .nrm (f17s7 v4 v8 v7_1 v0 v9 v2_0 v7_0)) (fun v2_1 v3 v2_0 => K .ret (f17s10 v2_1 v3 v2_0)) :=
 viaSeqS (fun k => spec_ParseLaurent.Z22 N v4 v8 v7_1 v0 v9 v2_0 v7_0 k (fun v2_1 v3 v2_0 => K .ret (f17s10 v2_1 v3 v2_0))) (by kernel_rfl) (f17t22 N (K := seqK (fun σ => f17i N (f17c 14719) .n σ (joinK (some f17l7) K)) (joinK (some f17l7) K)) ..) (fx7 fun v4 v8 v7_1 v0 v9 v2_0 v7_0 => f17t28 N v4 v8 v7_1 v0 v9 v2_0 v7_0 K) (by kernel_rfl)
noncomputable def f17p19 : Plan := .mk (some f17l7) none .n f17p21
theorem f17t19 N v4 v8 v7_1 v0 v9 v2_0 v7_0 (K : KT ρ) : f17i N (f17c 2431) f17p19 (f17s7 v4 v8 v7_1 v0 v9 v2_0 v7_0) (joinK (some f17l7) K) =
  spec_ParseLaurent.Z19 N v4 v8 v7_1 v0 v9 v2_0 v7_0 (fun v4 v8 v7_1 v0 v9 v2_0 v7_0 => K .nrm (f17s7 v4 v8 v7_1 v0 v9 v2_0 v7_0)) (fun v7_1 v0 v2_0 v7_0 => K (.exit 0) (f17s9 v7_1 v0 v2_0 v7_0)) (fun v2_1 v3 v2_0 => K .ret (f17s10 v2_1 v3 v2_0)) :=
 viaSeqS (fun k => spec_ParseLaurent.Z20 N v4 v8 v7_1 v0 v9 v2_0 v7_0 k (fun v7_1 v0 v2_0 v7_0 => K (.exit 0) (f17s9 v7_1 v0 v2_0 v7_0))) (by kernel_rfl) (f17t20 N (K := seqK (fun σ => f17i N (f17c 6527) f17p21 σ (joinK (some f17l7) K)) (joinK (some f17l7) K)) ..) (fx7 fun v4 v8 v7_1 v0 v9 v2_0 v7_0 => f17t21 N v4 v8 v7_1 v0 v9 v2_0 v7_0 K) (by kernel_rfl)
noncomputable def f17p18 : Plan := .mk none (some f17l7) f17p19 .n
noncomputable abbrev f17w18 {ρ : Type} (N M : Nat) (σ : St) (K : KT ρ) : Option ρ := loopC (fun σ K => f17i N (f17c 2431) f17p19 σ K) f17l7 M σ K
theorem f17t18L {ρ : Type} (N : Nat) (K : KT ρ) : ∀ (M : Nat) (v4 v8 : List ByteArray) (v7_1 : List (LI × Int)) (v0 : ByteArray) (v9 v2_0 v7_0 : Int), f17w18 N M (f17s7 v4 v8 v7_1 v0 v9 v2_0 v7_0) K =
  spec_ParseLaurent.Z18L N (fun v7_1 v0 v2_0 v7_0 => K (.exit 0) (f17s9 v7_1 v0 v2_0 v7_0)) (fun v2_1 v3 v2_0 => K .ret (f17s10 v2_1 v3 v2_0)) M v4 v8 v7_1 v0 v9 v2_0 v7_0
  | 0, _, _, _, _, _, _, _ => rfl
  | M + 1, v4, v8, v7_1, v0, v9, v2_0, v7_0 => viaRoundS (fun k => spec_ParseLaurent.Z19 N v4 v8 v7_1 v0 v9 v2_0 v7_0 k (fun v7_1 v0 v2_0 v7_0 => K (.exit 0) (f17s9 v7_1 v0 v2_0 v7_0)) (fun v2_1 v3 v2_0 => K .ret (f17s10 v2_1 v3 v2_0))) (f17t19 N (K := seqK (fun σ => f17w18 N M σ K) K) ..) (fx7 fun v4 v8 v7_1 v0 v9 v2_0 v7_0 => f17t18L N K M v4 v8 v7_1 v0 v9 v2_0 v7_0) (by kernel_rfl)
theorem f17t18 N v4 v8 v7_1 v0 v9 v2_0 v7_0 (K : KT ρ) : f17i N (f17c 1407) f17p18 (f17s7 v4 v8 v7_1 v0 v9 v2_0 v7_0) (joinK (some f17l9) K) =
  spec_ParseLaurent.Z18 N v4 v8 v7_1 v0 v9 v2_0 v7_0 (fun v7_1 v0 v2_0 v7_0 => K (.exit 0) (f17s9 v7_1 v0 v2_0 v7_0)) (fun v2_1 v3 v2_0 => K .ret (f17s10 v2_1 v3 v2_0)) :=
 viaLoopS (by kernel_rfl) (f17t18L N (joinK (some f17l9) K) N v4 v8 v7_1 v0 v9 v2_0 v7_0) (by kernel_rfl)
noncomputable def f17p17 : Plan := .mk (some f17l9) none f17p18 .n
theorem f17t17 N v4 v8 v7_1 v0 v9 v2_0 v7_0 (K : KT ρ) : f17i N (f17c 895) f17p17 (f17s7 v4 v8 v7_1 v0 v9 v2_0 v7_0) (joinK (some f17l9) K) =
  spec_ParseLaurent.Z17 N v4 v8 v7_1 v0 v9 v2_0 v7_0 (fun v7_1 v0 v2_0 v7_0 => K .nrm (f17s9 v7_1 v0 v2_0 v7_0)) (fun v2_1 v3 v2_0 => K .ret (f17s10 v2_1 v3 v2_0)) :=
 viaBlockS (by kernel_rfl) (f17t18 N (K := blockK 0 (joinK (some f17l9) K)) ..) (by kernel_rfl)
noncomputable def f17p15 : Plan := .mk (some f17l7) none .n f17p17
theorem f17t15 N v4 v8 v7_1 v0 v2_0 v7_0 (K : KT ρ) : f17i N (f17c 383) f17p15 (f17s6 v4 v8 v7_1 v0 v2_0 v7_0) (joinK (some f17l9) K) =
  spec_ParseLaurent.Z15 N v4 v8 v7_1 v0 v2_0 v7_0 (fun v7_1 v0 v2_0 v7_0 => K .nrm (f17s9 v7_1 v0 v2_0 v7_0)) (fun v2_1 v3 v2_0 => K .ret (f17s10 v2_1 v3 v2_0)) :=
 viaSeqS (fun k => spec_ParseLaurent.Z16 N v4 v8 v7_1 v0 v2_0 v7_0 k) (by kernel_rfl) (f17t16 N (K := seqK (fun σ => f17i N (f17c 895) f17p17 σ (joinK (some f17l9) K)) (joinK (some f17l9) K)) ..) (fx7 fun v4 v8 v7_1 v0 v9 v2_0 v7_0 => f17t17 N v4 v8 v7_1 v0 v9 v2_0 v7_0 K) (by kernel_rfl)
theorem f17t29 N v7_1 v0 v2_0 v7_0 (K : KT ρ) : f17i N (f17c 511) .n (f17s9 v7_1 v0 v2_0 v7_0) (joinK (some f17lE) K) =
  spec_ParseLaurent.Z29 N v7_1 v0 v2_0 v7_0 (fun v2_1 v3 v2_0 => K .ret (f17s10 v2_1 v3 v2_0)) := by kernel_rfl
noncomputable def f17p14 : Plan := .mk (some f17l9) none f17p15 .n
theorem f17t14 N v4 v8 v7_1 v0 v2_0 v7_0 (K : KT ρ) : f17i N (f17c 255) f17p14 (f17s6 v4 v8 v7_1 v0 v2_0 v7_0) (joinK (some f17lE) K) =
  spec_ParseLaurent.Z14 N v4 v8 v7_1 v0 v2_0 v7_0 (fun v2_1 v3 v2_0 => K .ret (f17s10 v2_1 v3 v2_0)) :=
 viaSeqS (fun k => spec_ParseLaurent.Z15 N v4 v8 v7_1 v0 v2_0 v7_0 k (fun v2_1 v3 v2_0 => K .ret (f17s10 v2_1 v3 v2_0))) (by kernel_rfl) (f17t15 N (K := seqK (fun σ => f17i N (f17c 511) .n σ (joinK (some f17lE) K)) (joinK (some f17lE) K)) ..) (fx4 fun v7_1 v0 v2_0 v7_0 => f17t29 N v7_1 v0 v2_0 v7_0 K) (by kernel_rfl)
noncomputable def f17p12 : Plan := .mk (some f17l6) none .n f17p14
theorem f17t12 N v4 v7_1 v0 v2_0 v7_0 (K : KT ρ) : f17i N (f17c 127) f17p12 (f17s5 v4 v7_1 v0 v2_0 v7_0) (joinK (some f17lE) K) =
  spec_ParseLaurent.Z12 N v4 v7_1 v0 v2_0 v7_0 (fun v2_1 v3 v2_0 => K .ret (f17s10 v2_1 v3 v2_0)) :=
 viaSeqS (fun k => spec_ParseLaurent.Z13 N v4 v7_1 v0 v2_0 v7_0 k) (by kernel_rfl) (f17t13 N (K := seqK (fun σ => f17i N (f17c 255) f17p14 σ (joinK (some f17lE) K)) (joinK (some f17lE) K)) ..) (fx6 fun v4 v8 v7_1 v0 v2_0 v7_0 => f17t14 N v4 v8 v7_1 v0 v2_0 v7_0 K) (by kernel_rfl)
noncomputable def f17p10 : Plan := .mk (some f17l5) none .n f17p12
theorem f17t10 N v4 v0 v5 v2_0 (K : KT ρ) : f17i N (f17c 63) f17p10 (f17s4 v4 v0 v5 v2_0) (joinK (some f17lE) K) =
  spec_ParseLaurent.Z10 N v4 v0 v5 v2_0 (fun v2_1 v3 v2_0 => K .ret (f17s10 v2_1 v3 v2_0)) :=
 viaSeqS (fun k => spec_ParseLaurent.Z11 N v4 v0 v5 v2_0 k) (by kernel_rfl) (f17t11 N (K := seqK (fun σ => f17i N (f17c 127) f17p12 σ (joinK (some f17lE) K)) (joinK (some f17lE) K)) ..) (fx5 fun v4 v7_1 v0 v2_0 v7_0 => f17t12 N v4 v7_1 v0 v2_0 v7_0 K) (by kernel_rfl)
noncomputable def f17p8 : Plan := .mk (some f17l4) none .n f17p10
theorem f17t8 N v4 v0 v5 v6 v2_0 (K : KT ρ) : f17i N (f17c 31) f17p8 (f17s3 v4 v0 v5 v6 v2_0) (joinK (some f17lE) K) =
  spec_ParseLaurent.Z8 N v4 v0 v5 v6 v2_0 (fun v2_1 v3 v2_0 => K .ret (f17s10 v2_1 v3 v2_0)) :=
 viaSeqS (fun k => spec_ParseLaurent.Z9 N v4 v0 v5 v6 v2_0 k (fun v2_1 v3 v2_0 => K .ret (f17s10 v2_1 v3 v2_0))) (by kernel_rfl) (f17t9 N (K := seqK (fun σ => f17i N (f17c 63) f17p10 σ (joinK (some f17lE) K)) (joinK (some f17lE) K)) ..) (fx4 fun v4 v0 v5 v2_0 => f17t10 N v4 v0 v5 v2_0 K) (by kernel_rfl)
noncomputable def f17p6 : Plan := .mk (some f17l3) none .n f17p8
theorem f17t6 N v4 v0 v2_0 (K : KT ρ) : f17i N (f17c 15) f17p6 (f17s2 v4 v0 v2_0) (joinK (some f17lE) K) =
  spec_ParseLaurent.Z6 N v4 v0 v2_0 (fun v2_1 v3 v2_0 => K .ret (f17s10 v2_1 v3 v2_0)) :=
 viaSeqS (fun k => spec_ParseLaurent.Z7 N v4 v0 v2_0 k) (by kernel_rfl) (f17t7 N (K := seqK (fun σ => f17i N (f17c 31) f17p8 σ (joinK (some f17lE) K)) (joinK (some f17lE) K)) ..) (fx5 fun v4 v0 v5 v6 v2_0 => f17t8 N v4 v0 v5 v6 v2_0 K) (by kernel_rfl)
noncomputable def f17p4 : Plan := .mk (some f17l2) none .n f17p6
theorem f17t4 N v4 v0 v2_0 (K : KT ρ) : f17i N (f17c 7) f17p4 (f17s2 v4 v0 v2_0) (joinK (some f17lE) K) =
  spec_ParseLaurent.Z4 N v4 v0 v2_0 (fun v2_1 v3 v2_0 => K .ret (f17s10 v2_1 v3 v2_0)) :=
 viaSeqS (fun k => spec_ParseLaurent.Z5 N v4 v0 v2_0 k (fun v2_1 v3 v2_0 => K .ret (f17s10 v2_1 v3 v2_0))) (by kernel_rfl) (f17t5 N (K := seqK (fun σ => f17i N (f17c 15) f17p6 σ (joinK (some f17lE) K)) (joinK (some f17lE) K)) ..) (fx3 fun v4 v0 v2_0 => f17t6 N v4 v0 v2_0 K) (by kernel_rfl)
noncomputable def f17p2 : Plan := .mk (some f17l2) none .n f17p4
theorem f17t2 N v0 v2_0 (K : KT ρ) : f17i N (f17c 3) f17p2 (f17s1 v0 v2_0) (joinK (some f17lE) K) =
  spec_ParseLaurent.Z2 N v0 v2_0 (fun v2_1 v3 v2_0 => K .ret (f17s10 v2_1 v3 v2_0)) :=
 viaSeqS (fun k => spec_ParseLaurent.Z3 N v0 v2_0 k) (by kernel_rfl) (f17t3 N (K := seqK (fun σ => f17i N (f17c 7) f17p4 σ (joinK (some f17lE) K)) (joinK (some f17lE) K)) ..) (fx3 fun v4 v0 v2_0 => f17t4 N v4 v0 v2_0 K) (by kernel_rfl)
noncomputable def f17p0 : Plan := .mk (some f17l1) none .n f17p2
theorem f17t0 N v0 (K : KT ρ) : f17i N (f17c 1) f17p0 (f17s0 v0) (joinK (some f17lE) K) =
  spec_ParseLaurent.Z0 N v0 (fun v2_1 v3 v2_0 => K .ret (f17s10 v2_1 v3 v2_0)) :=
 viaSeqS (fun k => spec_ParseLaurent.Z1 N v0 k) (by kernel_rfl) (f17t1 N (K := seqK (fun σ => f17i N (f17c 3) f17p2 σ (joinK (some f17lE) K)) (joinK (some f17lE) K)) ..) (fx2 fun v0 v2_0 => f17t2 N v0 v2_0 K) (by kernel_rfl)
theorem f17m (N : Nat) (v0 : ByteArray) : f17i N (f17c 1) f17p0 (f17s0 v0) (joinK (some f17lE) (finK tab f17sig Tryd.f17.results.toList)) = spec_ParseLaurent.Z0 N v0 (fun v2_1 v3 v2_0 => some ((), ((v2_0, v2_1), (v3, ())))) :=
  (f17t0 N v0 (finK tab f17sig Tryd.f17.results.toList)).trans (by kernel_rfl)
theorem f17ok (h : spec_ParseLaurent.Spec) : EntryOk Tryd.prog 17 e17 :=
  entry_of_code (sig := f17sig) (c := (f17c 1)) (pl := f17p0) (je := (some f17lE)) (B := f17B) Tryd.func17 (by kernel_rfl) (by kernel_rfl) (by kernel_rfl) tabOk f17GOk (by kernel_rfl) (by kernel_rfl) (by kernel_rfl) (by kernel_rfl) fun X hb hp => by
    obtain ⟨v0, _⟩ := X
    obtain ⟨N, h⟩ := h v0 hp
    exact ⟨N, (f17m N v0).trans (h N (Nat.le_refl N))⟩
theorem e17ok : EntryOk Tryd.prog 17 e17 := f17ok spec_ParseLaurent.ok
end Go.Fw
namespace Go.Fw
variable {ρ : Type}
open Go.Proofs
noncomputable def f39sig : Sig := ⟨[⟨.str, false, false⟩, ⟨.str, false, false⟩], [⟨.str, false, false⟩, ⟨.str, false, false⟩, ⟨.bool, false, false⟩]⟩
noncomputable def e39 : Entry := ⟨f39sig, (some fun X => strings_Cut.P X.1 X.2.1), fun X => ((), ((strings_Cut.g X.1 X.2.1).1, ((strings_Cut.g X.1 X.2.1).2.1, ((strings_Cut.g X.1 X.2.1).2.2, ()))))⟩
noncomputable def f39layren : Go.Shelf.Ren := ⟨fun | 145 => 39 | 220 => 65 | 219 => 95 | 217 => 112 | 225 => 113 | 224 => 114 | 267 => 115 | 266 => 123 | 314 => 124 | n => n, fun | 9 => 9 | 4 => 4 | 59 => 62 | 3 => 3 | 5 => 5 | 46 => 110 | 146 => 138 | 51 => 137 | n => n, fun | 1 => 2 | n => n⟩
theorem f39lay : Lays.n145 Tryd.prog f39layren := { mixed := (by kernel_rfl), f145 := Tryd.func39.trans (congrArg some (by kernel_rfl)), f217 := Tryd.func112.trans (congrArg some (by kernel_rfl)), f219 := Tryd.func95.trans (congrArg some (by kernel_rfl)), f220 := Tryd.func65.trans (congrArg some (by kernel_rfl)), f224 := Tryd.func114.trans (congrArg some (by kernel_rfl)), f225 := Tryd.func113.trans (congrArg some (by kernel_rfl)), f266 := Tryd.func123.trans (congrArg some (by kernel_rfl)), f267 := Tryd.func115.trans (congrArg some (by kernel_rfl)), f314 := Tryd.func124.trans (congrArg some (by kernel_rfl)), t3 := Tryd.underlying3, a3 := Tryd.isAgg3, z3 := Tryd.sizeOf3, v3 := Tryd.zeroValue3, t4 := Tryd.underlying4, a4 := Tryd.isAgg4, z4 := Tryd.sizeOf4, v4 := Tryd.zeroValue4, t5 := Tryd.underlying5, a5 := Tryd.isAgg5, z5 := Tryd.sizeOf5, v5 := Tryd.zeroValue5, t9 := Tryd.underlying9, a9 := Tryd.isAgg9, z9 := Tryd.sizeOf9, v9 := Tryd.zeroValue9, t46 := Tryd.underlying110, a46 := Tryd.isAgg110, z46 := Tryd.sizeOf110, v46 := Tryd.zeroValue110, t51 := Tryd.underlying137, a51 := Tryd.isAgg137, z51 := Tryd.sizeOf137, v51 := Tryd.zeroValue137, t59 := Tryd.underlying62, a59 := Tryd.isAgg62, z59 := Tryd.sizeOf62, v59 := Tryd.zeroValue62, t146 := Tryd.underlying138, a146 := Tryd.isAgg138, z146 := Tryd.sizeOf138, v146 := Tryd.zeroValue138, g1 := (by kernel_rfl) }
theorem f39ok (_ : True) : EntryOk Tryd.prog 39 e39 := cut_ok (fun w h => (by
  obtain ⟨g, h1, h2⟩ := int0 w h
  have e : Tryd.prog.globalNamed "internal/bytealg.MaxLen" = some (f39layren.g 1) := by kernel_rfl
  rw [e] at h1
  injection h1 with h1
  subst h1
  exact h2)) f39lay
theorem e39ok : EntryOk Tryd.prog 39 e39 := f39ok strings_Cut.ok
end Go.Fw
namespace Go.Fw
variable {ρ : Type}
open Go.Proofs
noncomputable def f31sig : Sig := ⟨[⟨.str, false, false⟩, ⟨.str, false, false⟩], [⟨.sl 9 (.str), false, false⟩]⟩
noncomputable def e31 : Entry := ⟨f31sig, (some fun X => strings_Split.P X.1 X.2.1), fun X => ((), ((strings_Split.g X.1 X.2.1), ()))⟩
noncomputable def f31layren : Go.Shelf.Ren := ⟨fun | 146 => 31 | 221 => 57 | 268 => 82 | 138 => 83 | 143 => 84 | 195 => 102 | 197 => 103 | 218 => 104 | 219 => 95 | 260 => 119 | 217 => 112 | 225 => 113 | 224 => 114 | 267 => 115 | 266 => 123 | 314 => 124 | n => n, fun | 9 => 9 | 31 => 47 | 3 => 3 | 4 => 4 | 0 => 0 | 105 => 115 | 21 => 21 | 5 => 5 | 46 => 110 | 119 => 145 | 139 => 148 | 138 => 147 | 146 => 138 | 51 => 137 | n => n, fun | 1 => 2 | 3 => 3 | 4 => 4 | n => n⟩
theorem f31lay : LaysM.n146 Tryd.prog f31layren := { mixed := (by kernel_rfl), f138 := Tryd.func83.trans (congrArg some (by kernel_rfl)), f143 := Tryd.func84.trans (congrArg some (by kernel_rfl)), f146 := Tryd.func31.trans (congrArg some (by kernel_rfl)), f195 := Tryd.func102.trans (congrArg some (by kernel_rfl)), f197 := Tryd.func103.trans (congrArg some (by kernel_rfl)), f217 := Tryd.func112.trans (congrArg some (by kernel_rfl)), f218 := Tryd.func104.trans (congrArg some (by kernel_rfl)), f219 := Tryd.func95.trans (congrArg some (by kernel_rfl)), f221 := Tryd.func57.trans (congrArg some (by kernel_rfl)), f224 := Tryd.func114.trans (congrArg some (by kernel_rfl)), f225 := Tryd.func113.trans (congrArg some (by kernel_rfl)), f260 := Tryd.func119.trans (congrArg some (by kernel_rfl)), f266 := Tryd.func123.trans (congrArg some (by kernel_rfl)), f267 := Tryd.func115.trans (congrArg some (by kernel_rfl)), f268 := Tryd.func82.trans (congrArg some (by kernel_rfl)), f314 := Tryd.func124.trans (congrArg some (by kernel_rfl)), t0 := Tryd.underlying0, a0 := Tryd.isAgg0, z0 := Tryd.sizeOf0, v0 := Tryd.zeroValue0, t3 := Tryd.underlying3, a3 := Tryd.isAgg3, z3 := Tryd.sizeOf3, v3 := Tryd.zeroValue3, t4 := Tryd.underlying4, a4 := Tryd.isAgg4, z4 := Tryd.sizeOf4, v4 := Tryd.zeroValue4, t5 := Tryd.underlying5, a5 := Tryd.isAgg5, z5 := Tryd.sizeOf5, v5 := Tryd.zeroValue5, t9 := Tryd.underlying9, a9 := Tryd.isAgg9, z9 := Tryd.sizeOf9, v9 := Tryd.zeroValue9, t21 := Tryd.underlying21, a21 := Tryd.isAgg21, z21 := Tryd.sizeOf21, v21 := Tryd.zeroValue21, t31 := Tryd.underlying47, a31 := Tryd.isAgg47, z31 := Tryd.sizeOf47, v31 := Tryd.zeroValue47, t46 := Tryd.underlying110, a46 := Tryd.isAgg110, z46 := Tryd.sizeOf110, v46 := Tryd.zeroValue110, t51 := Tryd.underlying137, a51 := Tryd.isAgg137, z51 := Tryd.sizeOf137, v51 := Tryd.zeroValue137, t105 := Tryd.underlying115, a105 := Tryd.isAgg115, z105 := Tryd.sizeOf115, v105 := Tryd.zeroValue115, t119 := Tryd.underlying145, a119 := Tryd.isAgg145, z119 := Tryd.sizeOf145, t138 := Tryd.underlying147, a138 := Tryd.isAgg147, z138 := Tryd.sizeOf147, v138 := Tryd.zeroValue147, t139 := Tryd.underlying148, a139 := Tryd.isAgg148, z139 := Tryd.sizeOf148, v139 := Tryd.zeroValue148, t146 := Tryd.underlying138, a146 := Tryd.isAgg138, z146 := Tryd.sizeOf138, v146 := Tryd.zeroValue138, g1 := (by kernel_rfl), g3 := (by kernel_rfl), g4 := (by kernel_rfl), i0 := (by kernel_rfl), i3 := (by kernel_rfl), i4 := (by kernel_rfl), i5 := (by kernel_rfl), i9 := (by kernel_rfl), i21 := (by kernel_rfl), i31 := (by kernel_rfl), i46 := (by kernel_rfl), i51 := (by kernel_rfl), i105 := (by kernel_rfl), i138 := (by kernel_rfl), i139 := (by kernel_rfl), i146 := (by kernel_rfl), m1 := (by kernel_rfl), s1_3 := fun w h => Go.Proofs.cell_of_shapedOpen_int (zero := #[.int .i64 0]) (t := 3) h (of_decide_eq_true (by kernel_rfl)) (by kernel_rfl) rfl (by kernel_rfl) (by kernel_rfl) Tryd.underlying3, m3 := (by kernel_rfl), m4 := (by kernel_rfl) }
theorem f31ok (_ : True) : EntryOk Tryd.prog 31 e31 := split_ok (fun w h => (by
  obtain ⟨g, h1, h2⟩ := int0 w h
  have e : Tryd.prog.globalNamed "internal/bytealg.MaxLen" = some (f31layren.g 1) := by kernel_rfl
  rw [e] at h1
  injection h1 with h1
  subst h1
  exact h2)) f31lay
theorem e31ok : EntryOk Tryd.prog 31 e31 := f31ok strings_Split.ok
end Go.Fw
namespace Go.Fw
variable {ρ : Type}
open Go.Proofs
noncomputable def f32sig : Sig := ⟨[⟨.str, false, false⟩], [⟨.int .i64, false, false⟩, ⟨.err, false, false⟩]⟩
noncomputable def e32 : Entry := ⟨f32sig, (some fun X => strconv_Atoi.P X.1), fun X => ((), ((strconv_Atoi.g X.1).1, ((strconv_Atoi.g X.1).2, ())))⟩
noncomputable def f32layren : Go.Shelf.Ren := ⟨fun | 172 => 32 | 244 => 58 | 245 => 59 | 247 => 85 | 279 => 86 | 280 => 87 | 281 => 88 | 282 => 89 | 287 => 105 | 316 => 106 | 171 => 73 | 205 => 107 | 321 => 120 | 322 => 121 | 243 => 97 | 246 => 116 | 283 => 125 | 284 => 126 | 285 => 127 | 286 => 128 | 129 => 130 | 317 => 129 | 318 => 131 | 319 => 132 | 320 => 133 | 337 => 134 | 338 => 135 | n => n, fun | 9 => 9 | 3 => 3 | 75 => 53 | 76 => 54 | 4 => 4 | 5 => 5 | 167 => 103 | 37 => 41 | 0 => 0 | 85 => 104 | 2 => 2 | 168 => 106 | 53 => 118 | 175 => 119 | 46 => 110 | 210 => 123 | 127 => 112 | 145 => 136 | 143 => 134 | 21 => 21 | 171 => 140 | 173 => 143 | 212 => 150 | 51 => 137 | 20 => 20 | 213 => 151 | 232 => 154 | 233 => 155 | 80 => 98 | n => n, fun | 15 => 0 | 16 => 1 | 17 => 5 | 18 => 6 | 19 => 7 | n => n⟩
theorem f32lay : LaysC.n172 Tryd.prog f32layren := { mixed := (by kernel_rfl), f129 := Tryd.func130.trans (congrArg some (by kernel_rfl)), f171 := Tryd.func73.trans (congrArg some (by kernel_rfl)), f172 := Tryd.func32.trans (congrArg some (by kernel_rfl)), f205 := Tryd.func107.trans (congrArg some (by kernel_rfl)), f243 := Tryd.func97.trans (congrArg some (by kernel_rfl)), f244 := Tryd.func58.trans (congrArg some (by kernel_rfl)), f245 := Tryd.func59.trans (congrArg some (by kernel_rfl)), f246 := Tryd.func116.trans (congrArg some (by kernel_rfl)), f247 := Tryd.func85.trans (congrArg some (by kernel_rfl)), f279 := Tryd.func86.trans (congrArg some (by kernel_rfl)), f280 := Tryd.func87.trans (congrArg some (by kernel_rfl)), f281 := Tryd.func88.trans (congrArg some (by kernel_rfl)), f282 := Tryd.func89.trans (congrArg some (by kernel_rfl)), f283 := Tryd.func125.trans (congrArg some (by kernel_rfl)), f284 := Tryd.func126.trans (congrArg some (by kernel_rfl)), f285 := Tryd.func127.trans (congrArg some (by kernel_rfl)), f286 := Tryd.func128.trans (congrArg some (by kernel_rfl)), f287 := Tryd.func105.trans (congrArg some (by kernel_rfl)), f316 := Tryd.func106.trans (congrArg some (by kernel_rfl)), f317 := Tryd.func129.trans (congrArg some (by kernel_rfl)), f318 := Tryd.func131.trans (congrArg some (by kernel_rfl)), f319 := Tryd.func132.trans (congrArg some (by kernel_rfl)), f320 := Tryd.func133.trans (congrArg some (by kernel_rfl)), f321 := Tryd.func120.trans (congrArg some (by kernel_rfl)), f322 := Tryd.func121.trans (congrArg some (by kernel_rfl)), f337 := Tryd.func134.trans (congrArg some (by kernel_rfl)), f338 := Tryd.func135.trans (congrArg some (by kernel_rfl)), t0 := Tryd.underlying0, a0 := Tryd.isAgg0, z0 := Tryd.sizeOf0, v0 := Tryd.zeroValue0, t2 := Tryd.underlying2, a2 := Tryd.isAgg2, z2 := Tryd.sizeOf2, v2 := Tryd.zeroValue2, t3 := Tryd.underlying3, a3 := Tryd.isAgg3, z3 := Tryd.sizeOf3, v3 := Tryd.zeroValue3, t4 := Tryd.underlying4, a4 := Tryd.isAgg4, z4 := Tryd.sizeOf4, v4 := Tryd.zeroValue4, t5 := Tryd.underlying5, a5 := Tryd.isAgg5, z5 := Tryd.sizeOf5, v5 := Tryd.zeroValue5, t9 := Tryd.underlying9, a9 := Tryd.isAgg9, z9 := Tryd.sizeOf9, v9 := Tryd.zeroValue9, t20 := Tryd.underlying20, a20 := Tryd.isAgg20, z20 := Tryd.sizeOf20, v20 := Tryd.zeroValue20, t21 := Tryd.underlying21, a21 := Tryd.isAgg21, z21 := Tryd.sizeOf21, v21 := Tryd.zeroValue21, t37 := Tryd.underlying41, a37 := Tryd.isAgg41, z37 := Tryd.sizeOf41, v37 := Tryd.zeroValue41, t46 := Tryd.underlying110, a46 := Tryd.isAgg110, z46 := Tryd.sizeOf110, v46 := Tryd.zeroValue110, t51 := Tryd.underlying137, a51 := Tryd.isAgg137, z51 := Tryd.sizeOf137, v51 := Tryd.zeroValue137, t53 := Tryd.underlying118, a53 := Tryd.isAgg118, z53 := Tryd.sizeOf118, v53 := Tryd.zeroValue118, t75 := Tryd.underlying53, a75 := Tryd.isAgg53, z75 := Tryd.sizeOf53, v75 := Tryd.zeroValue53, t76 := Tryd.underlying54, a76 := Tryd.isAgg54, z76 := Tryd.sizeOf54, v76 := Tryd.zeroValue54, t85 := Tryd.underlying104, a85 := Tryd.isAgg104, z85 := Tryd.sizeOf104, v85 := Tryd.zeroValue104, t127 := Tryd.underlying112, a127 := Tryd.isAgg112, z127 := Tryd.sizeOf112, v127 := Tryd.zeroValue112, t143 := Tryd.underlying134, a143 := Tryd.isAgg134, z143 := Tryd.sizeOf134, v143 := Tryd.zeroValue134, t145 := Tryd.underlying136, a145 := Tryd.isAgg136, z145 := Tryd.sizeOf136, v145 := Tryd.zeroValue136, t167 := Tryd.underlying103, a167 := Tryd.isAgg103, z167 := Tryd.sizeOf103, v167 := Tryd.zeroValue103, t168 := Tryd.underlying106, a168 := Tryd.isAgg106, z168 := Tryd.sizeOf106, v168 := Tryd.zeroValue106, t171 := Tryd.underlying140, a171 := Tryd.isAgg140, z171 := Tryd.sizeOf140, v171 := Tryd.zeroValue140, t173 := Tryd.underlying143, a173 := Tryd.isAgg143, z173 := Tryd.sizeOf143, v173 := Tryd.zeroValue143, t175 := Tryd.underlying119, a175 := Tryd.isAgg119, z175 := Tryd.sizeOf119, v175 := Tryd.zeroValue119, t210 := Tryd.underlying123, a210 := Tryd.isAgg123, z210 := Tryd.sizeOf123, v210 := Tryd.zeroValue123, t212 := Tryd.underlying150, a212 := Tryd.isAgg150, z212 := Tryd.sizeOf150, v212 := Tryd.zeroValue150, t213 := Tryd.underlying151, a213 := Tryd.isAgg151, z213 := Tryd.sizeOf151, t232 := Tryd.underlying154, a232 := Tryd.isAgg154, z232 := Tryd.sizeOf154, v232 := Tryd.zeroValue154, t233 := Tryd.underlying155, a233 := Tryd.isAgg155, z233 := Tryd.sizeOf155, v233 := Tryd.zeroValue155, g15 := (by kernel_rfl), g16 := (by kernel_rfl), g17 := (by kernel_rfl), g18 := (by kernel_rfl), g19 := (by kernel_rfl), t80 := Tryd.underlying98, a80 := Tryd.isAgg98, z80 := Tryd.sizeOf98, v80 := Tryd.zeroValue98, i0 := (by kernel_rfl), i2 := (by kernel_rfl), i3 := (by kernel_rfl), i4 := (by kernel_rfl), i5 := (by kernel_rfl), i9 := (by kernel_rfl), i20 := (by kernel_rfl), i21 := (by kernel_rfl), i37 := (by kernel_rfl), i46 := (by kernel_rfl), i51 := (by kernel_rfl), i53 := (by kernel_rfl), i75 := (by kernel_rfl), i76 := (by kernel_rfl), i80 := (by kernel_rfl), i85 := (by kernel_rfl), i127 := (by kernel_rfl), i143 := (by kernel_rfl), i145 := (by kernel_rfl), i167 := (by kernel_rfl), i168 := (by kernel_rfl), i171 := (by kernel_rfl), i173 := (by kernel_rfl), i175 := (by kernel_rfl), i210 := (by kernel_rfl), i212 := (by kernel_rfl), i232 := (by kernel_rfl), i233 := (by kernel_rfl), m15 := (by kernel_rfl), m16 := (by kernel_rfl), m17 := (by kernel_rfl), m18 := (by kernel_rfl), m19 := (by kernel_rfl), c0 := (by kernel_rfl), c2 := (by kernel_rfl), c3 := (by kernel_rfl), c4 := (by kernel_rfl), c5 := (by kernel_rfl), c9 := (by kernel_rfl), c20 := (by kernel_rfl), c21 := (by kernel_rfl), c37 := (by kernel_rfl), c46 := (by kernel_rfl), c51 := (by kernel_rfl), c53 := (by kernel_rfl), c75 := (by kernel_rfl), c76 := (by kernel_rfl), c80 := (by kernel_rfl), c85 := (by kernel_rfl), c127 := (by kernel_rfl), c143 := (by kernel_rfl), c145 := (by kernel_rfl), c167 := (by kernel_rfl), c168 := (by kernel_rfl), c171 := (by kernel_rfl), c173 := (by kernel_rfl), c175 := (by kernel_rfl), c210 := (by kernel_rfl), c212 := (by kernel_rfl), c213 := (by kernel_rfl), c232 := (by kernel_rfl), c233 := (by kernel_rfl) }
theorem f32ok (_ : True) : EntryOk Tryd.prog 32 e32 := atoi_ok (fun w h => (by
  obtain ⟨g, h1, h2⟩ := err0 w h
  have e : Tryd.prog.globalNamed "strconv.ErrSyntax" = some (f32layren.g 15) := by kernel_rfl
  rw [e] at h1
  injection h1 with h1
  subst h1
  exact h2)) (fun w h => (by
  obtain ⟨g, h1, h2⟩ := err1 w h
  have e : Tryd.prog.globalNamed "strconv.ErrRange" = some (f32layren.g 16) := by kernel_rfl
  rw [e] at h1
  injection h1 with h1
  subst h1
  exact h2)) f32lay
theorem e32ok : EntryOk Tryd.prog 32 e32 := f32ok strconv_Atoi.ok
end Go.Fw
namespace Go.Fw
variable {ρ : Type}
open Go.Proofs
noncomputable def f33sig : Sig := ⟨[⟨.int .i64, false, false⟩, ⟨.int .i64, false, false⟩, ⟨.int .i64, false, false⟩], [⟨.bool, false, false⟩]⟩
noncomputable def e33 : Entry := ⟨f33sig, none, fun X => ((), ((impl_within.g X.1 X.2.1 X.2.2.1), ()))⟩
noncomputable def f33G : Gm := emptyG
theorem f33GOk : GOk Tryd.prog f33G := GOk.nil
noncomputable def f33lE : Clean := ⟨[], [], [], [], []⟩
noncomputable def f33s0 (v0 v1 v2 : Int) : St := initSt f33sig.ps (v0, (v1, (v2, ())))
noncomputable def f33s1 (v6 : Bool) : St := stOf [(6, xB v6)] [] []
noncomputable def f33l1 : Clean := ⟨[6], [], [], [], []⟩
noncomputable def f33B : Nat → Option Clean := lookL [(1000000, f33l1)]
noncomputable abbrev f33i {ρ : Type} (N : Nat) (c : Code) (p : Plan) (σ : St) (K : KT ρ) : Option ρ := iCode f33G tab f33B N c p σ K
noncomputable def f33c (n : Nat) : Code := codeN 99 (bodyOf Tryd.f33) n
theorem f33t0 N v0 v1 v2 (K : KT ρ) : f33i N (f33c 1) .n (f33s0 v0 v1 v2) (joinK (some f33lE) K) =
  impl_within.Z0 N v0 v1 v2 (fun v6 => K .ret (f33s1 v6)) := by kernel_rfl
theorem f33m (N : Nat) (v0 v1 v2 : Int) : f33i N (f33c 1) .n (f33s0 v0 v1 v2) (joinK (some f33lE) (finK tab f33sig Tryd.f33.results.toList)) = impl_within.Z0 N v0 v1 v2 (fun v6 => some ((), (v6, ()))) :=
  (f33t0 N v0 v1 v2 (finK tab f33sig Tryd.f33.results.toList)).trans (by kernel_rfl)
theorem f33ok (h : impl_within.Spec) : EntryOk Tryd.prog 33 e33 :=
  entry_of_code (sig := f33sig) (c := (f33c 1)) (pl := .n) (je := (some f33lE)) (B := f33B) Tryd.func33 (by kernel_rfl) (by kernel_rfl) (by kernel_rfl) tabOk f33GOk (by kernel_rfl) (by kernel_rfl) (by kernel_rfl) (by kernel_rfl) fun X hb hp => by
    obtain ⟨v0, v1, v2, _⟩ := X
    obtain ⟨N, h⟩ := h v0 v1 v2
    exact ⟨N, (f33m N v0 v1 v2).trans (h N (Nat.le_refl N))⟩
theorem e33ok : EntryOk Tryd.prog 33 e33 := f33ok impl_within.ok
end Go.Fw
namespace Go.Fw
variable {ρ : Type}
open Go.Proofs
noncomputable def f73sig : Sig := ⟨[⟨.int .i64, false, false⟩], [⟨.str, false, false⟩]⟩
noncomputable def e73 : Entry := ⟨f73sig, (some fun X => strconv_Itoa.P X.1), fun X => ((), ((strconv_Itoa.g X.1), ()))⟩
noncomputable def f73layren : Go.Shelf.Ren := ⟨fun | 171 => 73 | 243 => 97 | 246 => 116 | 283 => 125 | 284 => 126 | 285 => 127 | 286 => 128 | 129 => 130 | 317 => 129 | 318 => 131 | 319 => 132 | 320 => 133 | 337 => 134 | 338 => 135 | n => n, fun | 3 => 3 | 9 => 9 | 2 => 2 | 4 => 4 | 171 => 140 | 0 => 0 | 53 => 118 | 37 => 41 | 5 => 5 | 173 => 143 | 212 => 150 | 51 => 137 | 20 => 20 | 213 => 151 | 46 => 110 | 232 => 154 | 233 => 155 | n => n, fun | 17 => 5 | 18 => 6 | 19 => 7 | n => n⟩
theorem f73lay : LaysM.n171 Tryd.prog f73layren := { mixed := (by kernel_rfl), f129 := Tryd.func130.trans (congrArg some (by kernel_rfl)), f171 := Tryd.func73.trans (congrArg some (by kernel_rfl)), f243 := Tryd.func97.trans (congrArg some (by kernel_rfl)), f246 := Tryd.func116.trans (congrArg some (by kernel_rfl)), f283 := Tryd.func125.trans (congrArg some (by kernel_rfl)), f284 := Tryd.func126.trans (congrArg some (by kernel_rfl)), f285 := Tryd.func127.trans (congrArg some (by kernel_rfl)), f286 := Tryd.func128.trans (congrArg some (by kernel_rfl)), f317 := Tryd.func129.trans (congrArg some (by kernel_rfl)), f318 := Tryd.func131.trans (congrArg some (by kernel_rfl)), f319 := Tryd.func132.trans (congrArg some (by kernel_rfl)), f320 := Tryd.func133.trans (congrArg some (by kernel_rfl)), f337 := Tryd.func134.trans (congrArg some (by kernel_rfl)), f338 := Tryd.func135.trans (congrArg some (by kernel_rfl)), t0 := Tryd.underlying0, a0 := Tryd.isAgg0, z0 := Tryd.sizeOf0, v0 := Tryd.zeroValue0, t2 := Tryd.underlying2, a2 := Tryd.isAgg2, z2 := Tryd.sizeOf2, v2 := Tryd.zeroValue2, t3 := Tryd.underlying3, a3 := Tryd.isAgg3, z3 := Tryd.sizeOf3, v3 := Tryd.zeroValue3, t4 := Tryd.underlying4, a4 := Tryd.isAgg4, z4 := Tryd.sizeOf4, v4 := Tryd.zeroValue4, t5 := Tryd.underlying5, a5 := Tryd.isAgg5, z5 := Tryd.sizeOf5, v5 := Tryd.zeroValue5, t9 := Tryd.underlying9, a9 := Tryd.isAgg9, z9 := Tryd.sizeOf9, v9 := Tryd.zeroValue9, t20 := Tryd.underlying20, a20 := Tryd.isAgg20, z20 := Tryd.sizeOf20, v20 := Tryd.zeroValue20, t37 := Tryd.underlying41, a37 := Tryd.isAgg41, z37 := Tryd.sizeOf41, v37 := Tryd.zeroValue41, t46 := Tryd.underlying110, a46 := Tryd.isAgg110, z46 := Tryd.sizeOf110, v46 := Tryd.zeroValue110, t51 := Tryd.underlying137, a51 := Tryd.isAgg137, z51 := Tryd.sizeOf137, v51 := Tryd.zeroValue137, t53 := Tryd.underlying118, a53 := Tryd.isAgg118, z53 := Tryd.sizeOf118, v53 := Tryd.zeroValue118, t171 := Tryd.underlying140, a171 := Tryd.isAgg140, z171 := Tryd.sizeOf140, v171 := Tryd.zeroValue140, t173 := Tryd.underlying143, a173 := Tryd.isAgg143, z173 := Tryd.sizeOf143, v173 := Tryd.zeroValue143, t212 := Tryd.underlying150, a212 := Tryd.isAgg150, z212 := Tryd.sizeOf150, v212 := Tryd.zeroValue150, t213 := Tryd.underlying151, a213 := Tryd.isAgg151, z213 := Tryd.sizeOf151, t232 := Tryd.underlying154, a232 := Tryd.isAgg154, z232 := Tryd.sizeOf154, v232 := Tryd.zeroValue154, t233 := Tryd.underlying155, a233 := Tryd.isAgg155, z233 := Tryd.sizeOf155, v233 := Tryd.zeroValue155, g17 := (by kernel_rfl), g18 := (by kernel_rfl), g19 := (by kernel_rfl), i0 := (by kernel_rfl), i2 := (by kernel_rfl), i3 := (by kernel_rfl), i4 := (by kernel_rfl), i5 := (by kernel_rfl), i9 := (by kernel_rfl), i20 := (by kernel_rfl), i37 := (by kernel_rfl), i46 := (by kernel_rfl), i51 := (by kernel_rfl), i53 := (by kernel_rfl), i171 := (by kernel_rfl), i173 := (by kernel_rfl), i212 := (by kernel_rfl), i232 := (by kernel_rfl), i233 := (by kernel_rfl), m17 := (by kernel_rfl), m18 := (by kernel_rfl), m19 := (by kernel_rfl) }
theorem f73ok (_ : True) : EntryOk Tryd.prog 73 e73 := itoa_ok tab0 f73lay
theorem e73ok : EntryOk Tryd.prog 73 e73 := f73ok strconv_Itoa.ok
end Go.Fw
namespace Go.Fw
variable {ρ : Type}
open Go.Proofs
noncomputable def f49sig : Sig := ⟨[⟨.int .i64, false, false⟩], [⟨.str, false, false⟩]⟩
noncomputable def e49 : Entry := ⟨f49sig, (some fun X => impl_FormatInt.P X.1), fun X => ((), ((impl_FormatInt.g X.1), ()))⟩
noncomputable def f49G : Gm := addG emptyG 73 e73
theorem f49GOk : GOk Tryd.prog f49G := (GOk.nil).add e73ok (by kernel_rfl)
noncomputable def f49lE : Clean := ⟨[], [], [], [], []⟩
noncomputable def f49s0 (v0 : Int) : St := initSt f49sig.ps (v0, ())
noncomputable def f49s1 (v2 : ByteArray) : St := stOf [(2, .c (.str v2))] [] []
noncomputable def f49l1 : Clean := ⟨[2], [], [], [], []⟩
noncomputable def f49B : Nat → Option Clean := lookL [(1000000, f49l1)]
noncomputable abbrev f49i {ρ : Type} (N : Nat) (c : Code) (p : Plan) (σ : St) (K : KT ρ) : Option ρ := iCode f49G tab f49B N c p σ K
noncomputable def f49c (n : Nat) : Code := codeN 99 (bodyOf Tryd.f49) n
theorem f49t0 N v0 (K : KT ρ) : f49i N (f49c 1) .n (f49s0 v0) (joinK (some f49lE) K) =
  impl_FormatInt.Z0 N v0 (fun v2 => K .ret (f49s1 v2)) := by kernel_rfl
theorem f49m (N : Nat) (v0 : Int) : f49i N (f49c 1) .n (f49s0 v0) (joinK (some f49lE) (finK tab f49sig Tryd.f49.results.toList)) = impl_FormatInt.Z0 N v0 (fun v2 => some ((), (v2, ()))) :=
  (f49t0 N v0 (finK tab f49sig Tryd.f49.results.toList)).trans (by kernel_rfl)
theorem f49ok (h : impl_FormatInt.Spec) : EntryOk Tryd.prog 49 e49 :=
  entry_of_code (sig := f49sig) (c := (f49c 1)) (pl := .n) (je := (some f49lE)) (B := f49B) Tryd.func49 (by kernel_rfl) (by kernel_rfl) (by kernel_rfl) tabOk f49GOk (by kernel_rfl) (by kernel_rfl) (by kernel_rfl) (by kernel_rfl) fun X hb hp => by
    obtain ⟨v0, _⟩ := X
    obtain ⟨N, h⟩ := h v0 hp
    exact ⟨N, (f49m N v0).trans (h N (Nat.le_refl N))⟩
theorem e49ok : EntryOk Tryd.prog 49 e49 := f49ok impl_FormatInt.ok
end Go.Fw
namespace Go.Fw
variable {ρ : Type}
open Go.Proofs
noncomputable def f50sig : Sig := ⟨[⟨.sl 9 (.str), false, false⟩, ⟨.str, false, false⟩], [⟨.str, false, false⟩]⟩
noncomputable def e50 : Entry := ⟨f50sig, (some fun X => strings_Join.P X.1 X.2.1), fun X => ((), ((strings_Join.g X.1 X.2.1), ()))⟩
noncomputable def f50layren : Go.Shelf.Ren := ⟨fun | 156 => 50 | 165 => 74 | 166 => 75 | 169 => 76 | 240 => 98 | 241 => 99 | 276 => 117 | 277 => 118 | n => n, fun | 31 => 47 | 9 => 9 | 3 => 3 | 4 => 4 | 0 => 0 | 20 => 20 | 72 => 96 | 76 => 54 | 70 => 94 | 37 => 41 | 75 => 53 | 127 => 112 | 164 => 130 | 5 => 5 | 80 => 98 | n => n, fun n => n⟩
theorem f50lay : Lays.n156 Tryd.prog f50layren := { mixed := (by kernel_rfl), f156 := Tryd.func50.trans (congrArg some (by kernel_rfl)), f165 := Tryd.func74.trans (congrArg some (by kernel_rfl)), f166 := Tryd.func75.trans (congrArg some (by kernel_rfl)), f169 := Tryd.func76.trans (congrArg some (by kernel_rfl)), f240 := Tryd.func98.trans (congrArg some (by kernel_rfl)), f241 := Tryd.func99.trans (congrArg some (by kernel_rfl)), f276 := Tryd.func117.trans (congrArg some (by kernel_rfl)), f277 := Tryd.func118.trans (congrArg some (by kernel_rfl)), t0 := Tryd.underlying0, a0 := Tryd.isAgg0, z0 := Tryd.sizeOf0, v0 := Tryd.zeroValue0, t3 := Tryd.underlying3, a3 := Tryd.isAgg3, z3 := Tryd.sizeOf3, v3 := Tryd.zeroValue3, t4 := Tryd.underlying4, a4 := Tryd.isAgg4, z4 := Tryd.sizeOf4, v4 := Tryd.zeroValue4, t9 := Tryd.underlying9, a9 := Tryd.isAgg9, z9 := Tryd.sizeOf9, v9 := Tryd.zeroValue9, t20 := Tryd.underlying20, a20 := Tryd.isAgg20, z20 := Tryd.sizeOf20, v20 := Tryd.zeroValue20, t31 := Tryd.underlying47, a31 := Tryd.isAgg47, z31 := Tryd.sizeOf47, v31 := Tryd.zeroValue47, t37 := Tryd.underlying41, a37 := Tryd.isAgg41, z37 := Tryd.sizeOf41, v37 := Tryd.zeroValue41, t70 := Tryd.underlying94, a70 := Tryd.isAgg94, z70 := Tryd.sizeOf94, v70 := Tryd.zeroValue94, t72 := Tryd.underlying96, a72 := Tryd.isAgg96, z72 := Tryd.sizeOf96, v72 := Tryd.zeroValue96, t75 := Tryd.underlying53, a75 := Tryd.isAgg53, z75 := Tryd.sizeOf53, v75 := Tryd.zeroValue53, t76 := Tryd.underlying54, a76 := Tryd.isAgg54, z76 := Tryd.sizeOf54, v76 := Tryd.zeroValue54, t127 := Tryd.underlying112, a127 := Tryd.isAgg112, z127 := Tryd.sizeOf112, v127 := Tryd.zeroValue112, t164 := Tryd.underlying130, a164 := Tryd.isAgg130, z164 := Tryd.sizeOf130, v164 := Tryd.zeroValue130 }
theorem f50layX : Builder.Extra Tryd.prog f50layren := { sizeBuilder := (by kernel_rfl), liesBuilder := (by kernel_rfl), t5 := Tryd.underlying5, a5 := Tryd.isAgg5, z5 := Tryd.sizeOf5, v5 := Tryd.zeroValue5, infoByte := (by kernel_rfl), cellsByte := (by kernel_rfl), sizeByte := (by kernel_rfl), neB5 := (by decide) }
theorem f50ok (_ : True) : EntryOk Tryd.prog 50 e50 := join_ok f50lay f50layX
theorem e50ok : EntryOk Tryd.prog 50 e50 := f50ok strings_Join.ok
end Go.Fw
namespace Go.Fw
variable {ρ : Type}
open Go.Proofs
noncomputable def f34sig : Sig := ⟨[⟨.sl 3 (.int .i64), false, false⟩], [⟨.str, false, false⟩]⟩
noncomputable def e34 : Entry := ⟨f34sig, (some fun X => impl_FormatInts.P X.1), fun X => ((), ((impl_FormatInts.g X.1), ()))⟩
noncomputable def f34G : Gm := addG (addG emptyG 49 e49) 50 e50
theorem f34GOk : GOk Tryd.prog f34G := ((GOk.nil).add e49ok (by kernel_rfl)).add e50ok (by kernel_rfl)
noncomputable def f34lE : Clean := ⟨[], [], [], [], []⟩
noncomputable def f34s0 (v0 : LI) : St := initSt f34sig.ps (v0, ())
noncomputable def f34s1 (v0 : LI) : St := stOf [(0, .c (.sn 3 tI v0 none))] [] []
noncomputable def f34l1 : Clean := ⟨[0], [], [], [], []⟩
noncomputable def f34s2 (v0 : LI) : St := stOf [(0, .c (.sn 3 tI v0 none)), (3, .c (.nil))] [] []
noncomputable def f34l2 : Clean := ⟨[0, 3], [], [], [], []⟩
noncomputable def f34s3 (v6 : LI) (v7 v8 : Int) : St := stOf [(3, .c (.nil)), (6, .c (.sn 3 tI v6 none)), (7, xi v7), (8, xi v8)] [] []
noncomputable def f34l3 : Clean := ⟨[3, 6, 7, 8], [], [], [], []⟩
noncomputable def f34s4 (v3 : List ByteArray) (v6 : LI) (v7 v8 : Int) : St := stOf [(3, xo 1000192), (6, .c (.sn 3 tI v6 none)), (7, xi v7), (8, xi v8)] [] [(1000192, (⟨9, .str, v3, true, false⟩ : Row))]
noncomputable def f34l4 : Clean := ⟨[3, 6, 7, 8], [], [⟨⟨false, 3, 0⟩, 30000000, 9, .str, true⟩], [], [(⟨false, 3, 0⟩, 1000192)]⟩
noncomputable def f34s5 (v3 : List ByteArray) : St := stOf [(3, xo 1000192)] [] [(1000192, (⟨9, .str, v3, true, false⟩ : Row))]
noncomputable def f34l5 : Clean := ⟨[3], [], [], [], [(⟨false, 3, 0⟩, 1000192)]⟩
noncomputable def f34s6 (v2 : ByteArray) : St := stOf [(2, .c (.str v2))] [] []
noncomputable def f34l6 : Clean := ⟨[2], [], [], [], []⟩
noncomputable def f34B : Nat → Option Clean := lookL [(0, f34l5), (1000000, f34l6)]
noncomputable abbrev f34i {ρ : Type} (N : Nat) (c : Code) (p : Plan) (σ : St) (K : KT ρ) : Option ρ := iCode f34G tab f34B N c p σ K
noncomputable def f34c (n : Nat) : Code := codeN 99 (bodyOf Tryd.f34) n
theorem f34t1 N v0 (K : KT ρ) : f34i N (f34c 2) .n (f34s0 v0) (joinK (some f34l1) K) =
  impl_FormatInts.Z1 N v0 (fun v0 => K .nrm (f34s1 v0)) := by kernel_rfl
theorem f34t3 N v0 (K : KT ρ) : f34i N (f34c 5) .n (f34s1 v0) (joinK (some f34l2) K) =
  impl_FormatInts.Z3 N v0 (fun v0 => K .nrm (f34s2 v0)) := by kernel_rfl
theorem f34t6 N v0 (K : KT ρ) : f34i N (f34c 19) .n (f34s2 v0) (joinK (some f34l3) K) =
  impl_FormatInts.Z6 N v0 (fun v6 v7 v8 => K .nrm (f34s3 v6 v7 v8)) := by kernel_rfl
theorem f34t9 N v3 v6 v7 v8 (K : KT ρ) : f34i N (f34c 75) .n (f34s4 v3 v6 v7 v8) (joinK (some f34l4) K) =
  impl_FormatInts.Z9 N v3 v6 v7 v8 (fun v3 v6 v7 v8 => K .nrm (f34s4 v3 v6 v7 v8)) (fun v3 => K (.exit 0) (f34s5 v3)) := by kernel_rfl
noncomputable def f34p8 : Plan := .mk none (some f34l4) .n .n
noncomputable abbrev f34w8 {ρ : Type} (N M : Nat) (σ : St) (K : KT ρ) : Option ρ := loopC (fun σ K => f34i N (f34c 75) .n σ K) f34l4 M σ K
theorem f34t8L {ρ : Type} (N : Nat) (K : KT ρ) : ∀ (M : Nat) (v3 : List ByteArray) (v6 : LI) (v7 v8 : Int), f34w8 N M (f34s4 v3 v6 v7 v8) K =
  impl_FormatInts.Z8L N (fun v3 => K (.exit 0) (f34s5 v3)) M v3 v6 v7 v8
  | 0, _, _, _, _ => rfl
  | M + 1, v3, v6, v7, v8 => viaRoundS (fun k => impl_FormatInts.Z9 N v3 v6 v7 v8 k (fun v3 => K (.exit 0) (f34s5 v3))) (f34t9 N (K := seqK (fun σ => f34w8 N M σ K) K) ..) (fx4 fun v3 v6 v7 v8 => f34t8L N K M v3 v6 v7 v8) (by kernel_rfl)
theorem f34t8 N v6 v7 v8 (K : KT ρ) : f34i N (f34c 43) f34p8 (f34s3 v6 v7 v8) (joinK (some f34l5) K) =
  impl_FormatInts.Z8 N v6 v7 v8 (fun v3 => K (.exit 0) (f34s5 v3)) :=
 viaLoopS (by kernel_rfl) (f34t8L N (joinK (some f34l5) K) N ([] : List ByteArray) v6 v7 v8) (by kernel_rfl)
noncomputable def f34p7 : Plan := .mk (some f34l5) none f34p8 .n
theorem f34t7 N v6 v7 v8 (K : KT ρ) : f34i N (f34c 27) f34p7 (f34s3 v6 v7 v8) (joinK (some f34l5) K) =
  impl_FormatInts.Z7 N v6 v7 v8 (fun v3 => K .nrm (f34s5 v3)) :=
 viaBlockS (by kernel_rfl) (f34t8 N (K := blockK 0 (joinK (some f34l5) K)) ..) (by kernel_rfl)
noncomputable def f34p5 : Plan := .mk (some f34l3) none .n f34p7
theorem f34t5 N v0 (K : KT ρ) : f34i N (f34c 11) f34p5 (f34s2 v0) (joinK (some f34l5) K) =
  impl_FormatInts.Z5 N v0 (fun v3 => K .nrm (f34s5 v3)) :=
 viaSeqS (fun k => impl_FormatInts.Z6 N v0 k) (by kernel_rfl) (f34t6 N (K := seqK (fun σ => f34i N (f34c 27) f34p7 σ (joinK (some f34l5) K)) (joinK (some f34l5) K)) ..) (fx3 fun v6 v7 v8 => f34t7 N v6 v7 v8 K) (by kernel_rfl)
theorem f34t10 N v3 (K : KT ρ) : f34i N (f34c 15) .n (f34s5 v3) (joinK (some f34lE) K) =
  impl_FormatInts.Z10 N v3 (fun v2 => K .ret (f34s6 v2)) := by kernel_rfl
noncomputable def f34p4 : Plan := .mk (some f34l5) none f34p5 .n
theorem f34t4 N v0 (K : KT ρ) : f34i N (f34c 7) f34p4 (f34s2 v0) (joinK (some f34lE) K) =
  impl_FormatInts.Z4 N v0 (fun v2 => K .ret (f34s6 v2)) :=
 viaSeqS (fun k => impl_FormatInts.Z5 N v0 k) (by kernel_rfl) (f34t5 N (K := seqK (fun σ => f34i N (f34c 15) .n σ (joinK (some f34lE) K)) (joinK (some f34lE) K)) ..) (funext fun v3 => f34t10 N v3 K) (by kernel_rfl)
noncomputable def f34p2 : Plan := .mk (some f34l2) none .n f34p4
theorem f34t2 N v0 (K : KT ρ) : f34i N (f34c 3) f34p2 (f34s1 v0) (joinK (some f34lE) K) =
  impl_FormatInts.Z2 N v0 (fun v2 => K .ret (f34s6 v2)) :=
 viaSeqS (fun k => impl_FormatInts.Z3 N v0 k) (by kernel_rfl) (f34t3 N (K := seqK (fun σ => f34i N (f34c 7) f34p4 σ (joinK (some f34lE) K)) (joinK (some f34lE) K)) ..) (funext fun v0 => f34t4 N v0 K) (by kernel_rfl)
noncomputable def f34p0 : Plan := .mk (some f34l1) none .n f34p2
theorem f34t0 N v0 (K : KT ρ) : f34i N (f34c 1) f34p0 (f34s0 v0) (joinK (some f34lE) K) =
  impl_FormatInts.Z0 N v0 (fun v2 => K .ret (f34s6 v2)) :=
 viaSeqS (fun k => impl_FormatInts.Z1 N v0 k) (by kernel_rfl) (f34t1 N (K := seqK (fun σ => f34i N (f34c 3) f34p2 σ (joinK (some f34lE) K)) (joinK (some f34lE) K)) ..) (funext fun v0 => f34t2 N v0 K) (by kernel_rfl)
theorem f34m (N : Nat) (v0 : LI) : f34i N (f34c 1) f34p0 (f34s0 v0) (joinK (some f34lE) (finK tab f34sig Tryd.f34.results.toList)) = impl_FormatInts.Z0 N v0 (fun v2 => some ((), (v2, ()))) :=
  (f34t0 N v0 (finK tab f34sig Tryd.f34.results.toList)).trans (by kernel_rfl)
theorem f34ok (h : impl_FormatInts.Spec) : EntryOk Tryd.prog 34 e34 :=
  entry_of_code (sig := f34sig) (c := (f34c 1)) (pl := f34p0) (je := (some f34lE)) (B := f34B) Tryd.func34 (by kernel_rfl) (by kernel_rfl) (by kernel_rfl) tabOk f34GOk (by kernel_rfl) (by kernel_rfl) (by kernel_rfl) (by kernel_rfl) fun X hb hp => by
    obtain ⟨v0, _⟩ := X
    obtain ⟨N, h⟩ := h v0 hb.1 hp
    exact ⟨N, (f34m N v0).trans (h N (Nat.le_refl N))⟩
theorem e34ok : EntryOk Tryd.prog 34 e34 := f34ok impl_FormatInts.ok
end Go.Fw
namespace Go.Fw
variable {ρ : Type}
open Go.Proofs
noncomputable def f8sig : Sig := ⟨[⟨.str, false, false⟩], [⟨.sl 3 (.int .i64), false, false⟩, ⟨.bool, false, false⟩]⟩
noncomputable def e8 : Entry := ⟨f8sig, (some fun X => impl_ParseInts.P X.1), fun X => ((), ((impl_ParseInts.g X.1).1, ((impl_ParseInts.g X.1).2, ())))⟩
noncomputable def f8G : Gm := addG (addG (addG (addG emptyG 31 e31) 32 e32) 33 e33) 34 e34
theorem f8GOk : GOk Tryd.prog f8G := ((((GOk.nil).add e31ok (by kernel_rfl)).add e32ok (by kernel_rfl)).add e33ok (by kernel_rfl)).add e34ok (by kernel_rfl)
noncomputable def f8lE : Clean := ⟨[], [], [], [], []⟩
noncomputable def f8s0 (v0 : ByteArray) : St := initSt f8sig.ps (v0, ())
noncomputable def f8s1 (v0 : ByteArray) : St := stOf [(0, .c (.str v0))] [] []
noncomputable def f8l1 : Clean := ⟨[0], [], [], [], []⟩
noncomputable def f8s2 (v0 : ByteArray) : St := stOf [(0, .c (.str v0)), (4, .c (.nil))] [] []
noncomputable def f8l2 : Clean := ⟨[0, 4], [], [], [], []⟩
noncomputable def f8s3 (v12 : List ByteArray) (v0 : ByteArray) (v13 v14 : Int) : St := stOf [(0, .c (.str v0)), (4, .c (.nil)), (12, xo 1000768), (13, xi v13), (14, xi v14)] [] [(1000768, (⟨9, .str, v12, true, false⟩ : Row))]
noncomputable def f8l3 : Clean := ⟨[0, 4, 12, 13, 14], [], [], [], [(⟨false, 12, 0⟩, 1000768)]⟩
noncomputable def f8s4 (v4 : LI) (v12 : List ByteArray) (v0 : ByteArray) (v13 v14 : Int) : St := stOf [(0, .c (.str v0)), (4, xo 1000256), (12, xo 1000768), (13, xi v13), (14, xi v14)] [] [(1000256, (⟨3, .int .i64, v4, true, false⟩ : Row)), (1000768, (⟨9, .str, v12, true, false⟩ : Row))]
noncomputable def f8l4 : Clean := ⟨[0, 4, 12, 13, 14], [], [⟨⟨false, 4, 0⟩, 30000000, 3, .int .i64, true⟩], [], [(⟨false, 4, 0⟩, 1000256), (⟨false, 12, 0⟩, 1000768)]⟩
noncomputable def f8s5 (v4 : LI) (v0 : ByteArray) : St := stOf [(0, .c (.str v0)), (4, xo 1000256)] [] [(1000256, (⟨3, .int .i64, v4, true, false⟩ : Row))]
noncomputable def f8l5 : Clean := ⟨[0, 4], [], [], [], [(⟨false, 4, 0⟩, 1000256)]⟩
noncomputable def f8s6 (v2 : LI) (v3 : Bool) : St := stOf [(2, xo 1000128), (3, xB v3)] [] [(1000128, (⟨3, .int .i64, v2, true, false⟩ : Row))]
noncomputable def f8l6 : Clean := ⟨[2, 3], [], [⟨⟨false, 2, 0⟩, 30000000, 3, .int .i64, true⟩], [], [(⟨false, 2, 0⟩, 1000128)]⟩
noncomputable def f8B : Nat → Option Clean := lookL [(0, f8l5), (1000000, f8l6)]
noncomputable abbrev f8i {ρ : Type} (N : Nat) (c : Code) (p : Plan) (σ : St) (K : KT ρ) : Option ρ := iCode f8G tab f8B N c p σ K
noncomputable def f8c (n : Nat) : Code := codeN 99 (bodyOf Tryd.f8) n
theorem f8t1 N v0 (K : KT ρ) : f8i N (f8c 2) .n (f8s0 v0) (joinK (some f8l1) K) =
  impl_ParseInts.Z1 N v0 (fun v0 => K .nrm (f8s1 v0)) := by kernel_rfl
theorem f8t3 N v0 (K : KT ρ) : f8i N (f8c 5) .n (f8s1 v0) (joinK (some f8l1) K) =
  impl_ParseInts.Z3 N v0 (fun v0 => K .nrm (f8s1 v0)) (fun v2 v3 => K .ret (f8s6 v2 v3)) := by kernel_rfl
theorem f8t5 N v0 (K : KT ρ) : f8i N (f8c 11) .n (f8s1 v0) (joinK (some f8l2) K) =
  impl_ParseInts.Z5 N v0 (fun v0 => K .nrm (f8s2 v0)) := by kernel_rfl
theorem f8t8 N v0 (K : KT ρ) : f8i N (f8c 39) .n (f8s2 v0) (joinK (some f8l3) K) =
  impl_ParseInts.Z8 N v0 (fun v12 v0 v13 v14 => K .nrm (f8s3 v12 v0 v13 v14)) := by kernel_rfl
theorem f8t11 N v4 v12 v0 v13 v14 (K : KT ρ) : f8i N (f8c 151) .n (f8s4 v4 v12 v0 v13 v14) (joinK (some f8l4) K) =
  impl_ParseInts.Z11 N v4 v12 v0 v13 v14 (fun v4 v12 v0 v13 v14 => K .nrm (f8s4 v4 v12 v0 v13 v14)) (fun v4 v0 => K (.exit 0) (f8s5 v4 v0)) (fun v2 v3 => K .ret (f8s6 v2 v3)) := by kernel_rfl
noncomputable def f8p10 : Plan := .mk none (some f8l4) .n .n
noncomputable abbrev f8w10 {ρ : Type} (N M : Nat) (σ : St) (K : KT ρ) : Option ρ := loopC (fun σ K => f8i N (f8c 151) .n σ K) f8l4 M σ K
theorem f8t10L {ρ : Type} (N : Nat) (K : KT ρ) : ∀ (M : Nat) (v4 : LI) (v12 : List ByteArray) (v0 : ByteArray) (v13 v14 : Int), f8w10 N M (f8s4 v4 v12 v0 v13 v14) K =
  impl_ParseInts.Z10L N (fun v4 v0 => K (.exit 0) (f8s5 v4 v0)) (fun v2 v3 => K .ret (f8s6 v2 v3)) M v4 v12 v0 v13 v14
  | 0, _, _, _, _, _ => rfl
  | M + 1, v4, v12, v0, v13, v14 => viaRoundS (fun k => impl_ParseInts.Z11 N v4 v12 v0 v13 v14 k (fun v4 v0 => K (.exit 0) (f8s5 v4 v0)) (fun v2 v3 => K .ret (f8s6 v2 v3))) (f8t11 N (K := seqK (fun σ => f8w10 N M σ K) K) ..) (fx5 fun v4 v12 v0 v13 v14 => f8t10L N K M v4 v12 v0 v13 v14) (by kernel_rfl)
theorem f8t10 N v12 v0 v13 v14 (K : KT ρ) : f8i N (f8c 87) f8p10 (f8s3 v12 v0 v13 v14) (joinK (some f8l5) K) =
  impl_ParseInts.Z10 N v12 v0 v13 v14 (fun v4 v0 => K (.exit 0) (f8s5 v4 v0)) (fun v2 v3 => K .ret (f8s6 v2 v3)) :=
 viaLoopS (by kernel_rfl) (f8t10L N (joinK (some f8l5) K) N ([] : List Int) v12 v0 v13 v14) (by kernel_rfl)
noncomputable def f8p9 : Plan := .mk (some f8l5) none f8p10 .n
theorem f8t9 N v12 v0 v13 v14 (K : KT ρ) : f8i N (f8c 55) f8p9 (f8s3 v12 v0 v13 v14) (joinK (some f8l5) K) =
  impl_ParseInts.Z9 N v12 v0 v13 v14 (fun v4 v0 => K .nrm (f8s5 v4 v0)) (fun v2 v3 => K .ret (f8s6 v2 v3)) :=
 viaBlockS (by kernel_rfl) (f8t10 N (K := blockK 0 (joinK (some f8l5) K)) ..) (by kernel_rfl)
noncomputable def f8p7 : Plan := .mk (some f8l3) none .n f8p9
theorem f8t7 N v0 (K : KT ρ) : f8i N (f8c 23) f8p7 (f8s2 v0) (joinK (some f8l5) K) =
  impl_ParseInts.Z7 N v0 (fun v4 v0 => K .nrm (f8s5 v4 v0)) (fun v2 v3 => K .ret (f8s6 v2 v3)) :=
 viaSeqS (fun k => impl_ParseInts.Z8 N v0 k) (by kernel_rfl) (f8t8 N (K := seqK (fun σ => f8i N (f8c 55) f8p9 σ (joinK (some f8l5) K)) (joinK (some f8l5) K)) ..) (fx4 fun v12 v0 v13 v14 => f8t9 N v12 v0 v13 v14 K) (by kernel_rfl)
theorem f8t12 N v4 v0 (K : KT ρ) : f8i N (f8c 31) .n (f8s5 v4 v0) (joinK (some f8lE) K) =
  impl_ParseInts.Z12 N v4 v0 (fun v2 v3 => K .ret (f8s6 v2 v3)) := by kernel_rfl
noncomputable def f8p6 : Plan := .mk (some f8l5) none f8p7 .n
theorem f8t6 N v0 (K : KT ρ) : f8i N (f8c 15) f8p6 (f8s2 v0) (joinK (some f8lE) K) =
  impl_ParseInts.Z6 N v0 (fun v2 v3 => K .ret (f8s6 v2 v3)) :=
 viaSeqS (fun k => impl_ParseInts.Z7 N v0 k (fun v2 v3 => K .ret (f8s6 v2 v3))) (by kernel_rfl) (f8t7 N (K := seqK (fun σ => f8i N (f8c 31) .n σ (joinK (some f8lE) K)) (joinK (some f8lE) K)) ..) (fx2 fun v4 v0 => f8t12 N v4 v0 K) (by kernel_rfl)
noncomputable def f8p4 : Plan := .mk (some f8l2) none .n f8p6
theorem f8t4 N v0 (K : KT ρ) : f8i N (f8c 7) f8p4 (f8s1 v0) (joinK (some f8lE) K) =
  impl_ParseInts.Z4 N v0 (fun v2 v3 => K .ret (f8s6 v2 v3)) :=
 viaSeqS (fun k => impl_ParseInts.Z5 N v0 k) (by kernel_rfl) (f8t5 N (K := seqK (fun σ => f8i N (f8c 15) f8p6 σ (joinK (some f8lE) K)) (joinK (some f8lE) K)) ..) (funext fun v0 => f8t6 N v0 K) (by kernel_rfl)
noncomputable def f8p2 : Plan := .mk (some f8l1) none .n f8p4
theorem f8t2 N v0 (K : KT ρ) : f8i N (f8c 3) f8p2 (f8s1 v0) (joinK (some f8lE) K) =
  impl_ParseInts.Z2 N v0 (fun v2 v3 => K .ret (f8s6 v2 v3)) :=
 viaSeqS (fun k => impl_ParseInts.Z3 N v0 k (fun v2 v3 => K .ret (f8s6 v2 v3))) (by kernel_rfl) (f8t3 N (K := seqK (fun σ => f8i N (f8c 7) f8p4 σ (joinK (some f8lE) K)) (joinK (some f8lE) K)) ..) (funext fun v0 => f8t4 N v0 K) (by kernel_rfl)
noncomputable def f8p0 : Plan := .mk (some f8l1) none .n f8p2
theorem f8t0 N v0 (K : KT ρ) : f8i N (f8c 1) f8p0 (f8s0 v0) (joinK (some f8lE) K) =
  impl_ParseInts.Z0 N v0 (fun v2 v3 => K .ret (f8s6 v2 v3)) :=
 viaSeqS (fun k => impl_ParseInts.Z1 N v0 k) (by kernel_rfl) (f8t1 N (K := seqK (fun σ => f8i N (f8c 3) f8p2 σ (joinK (some f8lE) K)) (joinK (some f8lE) K)) ..) (funext fun v0 => f8t2 N v0 K) (by kernel_rfl)
theorem f8m (N : Nat) (v0 : ByteArray) : f8i N (f8c 1) f8p0 (f8s0 v0) (joinK (some f8lE) (finK tab f8sig Tryd.f8.results.toList)) = impl_ParseInts.Z0 N v0 (fun v2 v3 => some ((), (v2, (v3, ())))) :=
  (f8t0 N v0 (finK tab f8sig Tryd.f8.results.toList)).trans (by kernel_rfl)
theorem f8ok (h : impl_ParseInts.Spec) : EntryOk Tryd.prog 8 e8 :=
  entry_of_code (sig := f8sig) (c := (f8c 1)) (pl := f8p0) (je := (some f8lE)) (B := f8B) Tryd.func8 (by kernel_rfl) (by kernel_rfl) (by kernel_rfl) tabOk f8GOk (by kernel_rfl) (by kernel_rfl) (by kernel_rfl) (by kernel_rfl) fun X hb hp => by
    obtain ⟨v0, _⟩ := X
    obtain ⟨N, h⟩ := h v0 hp
    exact ⟨N, (f8m N v0).trans (h N (Nat.le_refl N))⟩
theorem e8ok : EntryOk Tryd.prog 8 e8 := f8ok impl_ParseInts.ok
end Go.Fw
namespace Go.Fw
variable {ρ : Type}
open Go.Proofs
noncomputable def f80sig : Sig := ⟨[⟨.int .i64, false, false⟩], [⟨.bool, false, false⟩]⟩
noncomputable def e80 : Entry := ⟨f80sig, none, fun X => ((), ((impl_expOk_1.g X.1), ()))⟩
noncomputable def f80G : Gm := addG emptyG 33 e33
theorem f80GOk : GOk Tryd.prog f80G := (GOk.nil).add e33ok (by kernel_rfl)
noncomputable def f80lE : Clean := ⟨[], [], [], [], []⟩
noncomputable def f80s0 (v0 : Int) : St := initSt f80sig.ps (v0, ())
noncomputable def f80s1 (v2 : Bool) : St := stOf [(2, xB v2)] [] []
noncomputable def f80l1 : Clean := ⟨[2], [], [], [], []⟩
noncomputable def f80B : Nat → Option Clean := lookL [(1000000, f80l1)]
noncomputable abbrev f80i {ρ : Type} (N : Nat) (c : Code) (p : Plan) (σ : St) (K : KT ρ) : Option ρ := iCode f80G tab f80B N c p σ K
noncomputable def f80c (n : Nat) : Code := codeN 99 (bodyOf Tryd.f80) n
theorem f80t0 N v0 (K : KT ρ) : f80i N (f80c 1) .n (f80s0 v0) (joinK (some f80lE) K) =
  impl_expOk_1.Z0 N v0 (fun v2 => K .ret (f80s1 v2)) := by kernel_rfl
theorem f80m (N : Nat) (v0 : Int) : f80i N (f80c 1) .n (f80s0 v0) (joinK (some f80lE) (finK tab f80sig Tryd.f80.results.toList)) = impl_expOk_1.Z0 N v0 (fun v2 => some ((), (v2, ()))) :=
  (f80t0 N v0 (finK tab f80sig Tryd.f80.results.toList)).trans (by kernel_rfl)
theorem f80ok (h : impl_expOk_1.Spec) : EntryOk Tryd.prog 80 e80 :=
  entry_of_code (sig := f80sig) (c := (f80c 1)) (pl := .n) (je := (some f80lE)) (B := f80B) Tryd.func80 (by kernel_rfl) (by kernel_rfl) (by kernel_rfl) tabOk f80GOk (by kernel_rfl) (by kernel_rfl) (by kernel_rfl) (by kernel_rfl) fun X hb hp => by
    obtain ⟨v0, _⟩ := X
    obtain ⟨N, h⟩ := h v0
    exact ⟨N, (f80m N v0).trans (h N (Nat.le_refl N))⟩
theorem e80ok : EntryOk Tryd.prog 80 e80 := f80ok impl_expOk_1.ok
end Go.Fw
namespace Go.Fw
variable {ρ : Type}
open Go.Proofs
noncomputable def f100sig : Sig := ⟨[⟨.sl 3 (.int .i64), false, false⟩, ⟨.fnc 80, false, false⟩], [⟨.int .i64, false, false⟩]⟩
noncomputable def e100 : Entry := ⟨f100sig, none, fun X => ((), ((slices_IndexFunc_int_int_expOk.g X.1 X.2.1), ()))⟩
noncomputable def f100G : Gm := addG emptyG 80 e80
theorem f100GOk : GOk Tryd.prog f100G := (GOk.nil).add e80ok (by kernel_rfl)
noncomputable def f100lE : Clean := ⟨[], [], [], [], []⟩
noncomputable def f100s0 (v0 : LI) (v1 : Unit) : St := initSt f100sig.ps (v0, (v1, ()))
noncomputable def f100s1 (v0 : LI) : St := stOf [(0, .c (.sn 3 tI v0 none)), (1, .c (.fn 80 []))] [] []
noncomputable def f100l1 : Clean := ⟨[0, 1], [], [], [], []⟩
noncomputable def f100s2 (v0 : LI) (v7 v8 : Int) : St := stOf [(0, .c (.sn 3 tI v0 none)), (1, .c (.fn 80 [])), (7, xi v7), (8, xi v8)] [] []
noncomputable def f100l2 : Clean := ⟨[0, 1, 7, 8], [], [], [], []⟩
noncomputable def f100s3  : St := stOf [] [] []
noncomputable def f100l3 : Clean := ⟨[], [], [], [], []⟩
noncomputable def f100s4 (v4 : Int) : St := stOf [(4, xi v4)] [] []
noncomputable def f100l4 : Clean := ⟨[4], [], [], [], []⟩
noncomputable def f100B : Nat → Option Clean := lookL [(0, f100l3), (1000000, f100l4)]
noncomputable abbrev f100i {ρ : Type} (N : Nat) (c : Code) (p : Plan) (σ : St) (K : KT ρ) : Option ρ := iCode f100G tab f100B N c p σ K
noncomputable def f100c (n : Nat) : Code := codeN 99 (bodyOf Tryd.f100) n
theorem f100t1 N v0 v1 (K : KT ρ) : f100i N (f100c 2) .n (f100s0 v0 v1) (joinK (some f100l1) K) =
  slices_IndexFunc_int_int_expOk.Z1 N v0 v1 (fun v0 => K .nrm (f100s1 v0)) := by kernel_rfl
theorem f100t4 N v0 (K : KT ρ) : f100i N (f100c 9) .n (f100s1 v0) (joinK (some f100l2) K) =
  slices_IndexFunc_int_int_expOk.Z4 N v0 (fun v0 v7 v8 => K .nrm (f100s2 v0 v7 v8)) := by kernel_rfl
theorem f100t7 N v0 v7 v8 (K : KT ρ) : f100i N (f100c 37) .n (f100s2 v0 v7 v8) (joinK (some f100l2) K) =
  slices_IndexFunc_int_int_expOk.Z7 N v0 v7 v8 (fun v0 v7 v8 => K .nrm (f100s2 v0 v7 v8)) (K (.exit 0) f100s3) (fun v4 => K .ret (f100s4 v4)) := by kernel_rfl
noncomputable def f100p6 : Plan := .mk none (some f100l2) .n .n
noncomputable abbrev f100w6 {ρ : Type} (N M : Nat) (σ : St) (K : KT ρ) : Option ρ := loopC (fun σ K => f100i N (f100c 37) .n σ K) f100l2 M σ K
theorem f100t6L {ρ : Type} (N : Nat) (K : KT ρ) : ∀ (M : Nat) (v0 : LI) (v7 v8 : Int), f100w6 N M (f100s2 v0 v7 v8) K =
  slices_IndexFunc_int_int_expOk.Z6L N (K (.exit 0) f100s3) (fun v4 => K .ret (f100s4 v4)) M v0 v7 v8
  | 0, _, _, _ => rfl
  | M + 1, v0, v7, v8 => viaRoundS (fun k => slices_IndexFunc_int_int_expOk.Z7 N v0 v7 v8 k (K (.exit 0) f100s3) (fun v4 => K .ret (f100s4 v4))) (f100t7 N (K := seqK (fun σ => f100w6 N M σ K) K) ..) (fx3 fun v0 v7 v8 => f100t6L N K M v0 v7 v8) (by kernel_rfl)
theorem f100t6 N v0 v7 v8 (K : KT ρ) : f100i N (f100c 21) f100p6 (f100s2 v0 v7 v8) (joinK (some f100l3) K) =
  slices_IndexFunc_int_int_expOk.Z6 N v0 v7 v8 (K (.exit 0) f100s3) (fun v4 => K .ret (f100s4 v4)) :=
 viaLoopS (by kernel_rfl) (f100t6L N (joinK (some f100l3) K) N v0 v7 v8) (by kernel_rfl)
noncomputable def f100p5 : Plan := .mk (some f100l3) none f100p6 .n
theorem f100t5 N v0 v7 v8 (K : KT ρ) : f100i N (f100c 13) f100p5 (f100s2 v0 v7 v8) (joinK (some f100l3) K) =
  slices_IndexFunc_int_int_expOk.Z5 N v0 v7 v8 (K .nrm f100s3) (fun v4 => K .ret (f100s4 v4)) :=
 viaBlockS (by kernel_rfl) (f100t6 N (K := blockK 0 (joinK (some f100l3) K)) ..) (by kernel_rfl)
noncomputable def f100p3 : Plan := .mk (some f100l2) none .n f100p5
theorem f100t3 N v0 (K : KT ρ) : f100i N (f100c 5) f100p3 (f100s1 v0) (joinK (some f100l3) K) =
  slices_IndexFunc_int_int_expOk.Z3 N v0 (K .nrm f100s3) (fun v4 => K .ret (f100s4 v4)) :=
 viaSeqS (fun k => slices_IndexFunc_int_int_expOk.Z4 N v0 k) (by kernel_rfl) (f100t4 N (K := seqK (fun σ => f100i N (f100c 13) f100p5 σ (joinK (some f100l3) K)) (joinK (some f100l3) K)) ..) (fx3 fun v0 v7 v8 => f100t5 N v0 v7 v8 K) (by kernel_rfl)
theorem f100t8 N  (K : KT ρ) : f100i N (f100c 7) .n f100s3 (joinK (some f100lE) K) =
  slices_IndexFunc_int_int_expOk.Z8 N (fun v4 => K .ret (f100s4 v4)) := by kernel_rfl
noncomputable def f100p2 : Plan := .mk (some f100l3) none f100p3 .n
theorem f100t2 N v0 (K : KT ρ) : f100i N (f100c 3) f100p2 (f100s1 v0) (joinK (some f100lE) K) =
  slices_IndexFunc_int_int_expOk.Z2 N v0 (fun v4 => K .ret (f100s4 v4)) :=
 viaSeqS (fun k => slices_IndexFunc_int_int_expOk.Z3 N v0 k (fun v4 => K .ret (f100s4 v4))) (by kernel_rfl) (f100t3 N (K := seqK (fun σ => f100i N (f100c 7) .n σ (joinK (some f100lE) K)) (joinK (some f100lE) K)) ..) (f100t8 N K) (by kernel_rfl)
noncomputable def f100p0 : Plan := .mk (some f100l1) none .n f100p2
theorem f100t0 N v0 v1 (K : KT ρ) : f100i N (f100c 1) f100p0 (f100s0 v0 v1) (joinK (some f100lE) K) =
  slices_IndexFunc_int_int_expOk.Z0 N v0 v1 (fun v4 => K .ret (f100s4 v4)) :=
 viaSeqS (fun k => slices_IndexFunc_int_int_expOk.Z1 N v0 v1 k) (by kernel_rfl) (f100t1 N (K := seqK (fun σ => f100i N (f100c 3) f100p2 σ (joinK (some f100lE) K)) (joinK (some f100lE) K)) ..) (funext fun v0 => f100t2 N v0 K) (by kernel_rfl)
theorem f100m (N : Nat) (v0 : LI) (v1 : Unit) : f100i N (f100c 1) f100p0 (f100s0 v0 v1) (joinK (some f100lE) (finK tab f100sig Tryd.f100.results.toList)) = slices_IndexFunc_int_int_expOk.Z0 N v0 v1 (fun v4 => some ((), (v4, ()))) :=
  (f100t0 N v0 v1 (finK tab f100sig Tryd.f100.results.toList)).trans (by kernel_rfl)
theorem f100ok (h : slices_IndexFunc_int_int_expOk.Spec) : EntryOk Tryd.prog 100 e100 :=
  entry_of_code (sig := f100sig) (c := (f100c 1)) (pl := f100p0) (je := (some f100lE)) (B := f100B) Tryd.func100 (by kernel_rfl) (by kernel_rfl) (by kernel_rfl) tabOk f100GOk (by kernel_rfl) (by kernel_rfl) (by kernel_rfl) (by kernel_rfl) fun X hb hp => by
    obtain ⟨v0, v1, _⟩ := X
    obtain ⟨N, h⟩ := h v0 v1 hb.1
    exact ⟨N, (f100m N v0 v1).trans (h N (Nat.le_refl N))⟩
theorem e100ok : EntryOk Tryd.prog 100 e100 := f100ok slices_IndexFunc_int_int_expOk.ok
end Go.Fw
namespace Go.Fw
variable {ρ : Type}
open Go.Proofs
noncomputable def f79sig : Sig := ⟨[⟨.sl 3 (.int .i64), false, false⟩, ⟨.fnc 80, false, false⟩], [⟨.bool, false, false⟩]⟩
noncomputable def e79 : Entry := ⟨f79sig, none, fun X => ((), ((slices_ContainsFunc_int_int_expOk.g X.1 X.2.1), ()))⟩
noncomputable def f79G : Gm := addG emptyG 100 e100
theorem f79GOk : GOk Tryd.prog f79G := (GOk.nil).add e100ok (by kernel_rfl)
noncomputable def f79lE : Clean := ⟨[], [], [], [], []⟩
noncomputable def f79s0 (v0 : LI) (v1 : Unit) : St := initSt f79sig.ps (v0, (v1, ()))
noncomputable def f79s1 (v4 : Bool) : St := stOf [(4, xB v4)] [] []
noncomputable def f79l1 : Clean := ⟨[4], [], [], [], []⟩
noncomputable def f79B : Nat → Option Clean := lookL [(1000000, f79l1)]
noncomputable abbrev f79i {ρ : Type} (N : Nat) (c : Code) (p : Plan) (σ : St) (K : KT ρ) : Option ρ := iCode f79G tab f79B N c p σ K
noncomputable def f79c (n : Nat) : Code := codeN 99 (bodyOf Tryd.f79) n
theorem f79t0 N v0 v1 (K : KT ρ) : f79i N (f79c 1) .n (f79s0 v0 v1) (joinK (some f79lE) K) =
  slices_ContainsFunc_int_int_expOk.Z0 N v0 v1 (fun v4 => K .ret (f79s1 v4)) := by kernel_rfl
theorem f79m (N : Nat) (v0 : LI) (v1 : Unit) : f79i N (f79c 1) .n (f79s0 v0 v1) (joinK (some f79lE) (finK tab f79sig Tryd.f79.results.toList)) = slices_ContainsFunc_int_int_expOk.Z0 N v0 v1 (fun v4 => some ((), (v4, ()))) :=
  (f79t0 N v0 v1 (finK tab f79sig Tryd.f79.results.toList)).trans (by kernel_rfl)
theorem f79ok (h : slices_ContainsFunc_int_int_expOk.Spec) : EntryOk Tryd.prog 79 e79 :=
  entry_of_code (sig := f79sig) (c := (f79c 1)) (pl := .n) (je := (some f79lE)) (B := f79B) Tryd.func79 (by kernel_rfl) (by kernel_rfl) (by kernel_rfl) tabOk f79GOk (by kernel_rfl) (by kernel_rfl) (by kernel_rfl) (by kernel_rfl) fun X hb hp => by
    obtain ⟨v0, v1, _⟩ := X
    obtain ⟨N, h⟩ := h v0 v1 hb.1
    exact ⟨N, (f79m N v0 v1).trans (h N (Nat.le_refl N))⟩
theorem e79ok : EntryOk Tryd.prog 79 e79 := f79ok slices_ContainsFunc_int_int_expOk.ok
end Go.Fw
namespace Go.Fw
variable {ρ : Type}
open Go.Proofs
noncomputable def f53sig : Sig := ⟨[⟨.sl 3 (.int .i64), false, false⟩, ⟨.int .i64, false, false⟩], [⟨.bool, false, false⟩]⟩
noncomputable def e53 : Entry := ⟨f53sig, none, fun X => ((), ((impl_expOk.g X.1 X.2.1), ()))⟩
noncomputable def f53G : Gm := addG emptyG 79 e79
theorem f53GOk : GOk Tryd.prog f53G := (GOk.nil).add e79ok (by kernel_rfl)
noncomputable def f53lE : Clean := ⟨[], [], [], [], []⟩
noncomputable def f53s0 (v0 : LI) (v1 : Int) : St := initSt f53sig.ps (v0, (v1, ()))
noncomputable def f53s1 (v4 : Bool) : St := stOf [(4, xB v4)] [] []
noncomputable def f53l1 : Clean := ⟨[4], [], [], [], []⟩
noncomputable def f53B : Nat → Option Clean := lookL [(1000000, f53l1)]
noncomputable abbrev f53i {ρ : Type} (N : Nat) (c : Code) (p : Plan) (σ : St) (K : KT ρ) : Option ρ := iCode f53G tab f53B N c p σ K
noncomputable def f53c (n : Nat) : Code := codeN 99 (bodyOf Tryd.f53) n
theorem f53t0 N v0 v1 (K : KT ρ) : f53i N (f53c 1) .n (f53s0 v0 v1) (joinK (some f53lE) K) =
  impl_expOk.Z0 N v0 v1 (fun v4 => K .ret (f53s1 v4)) := by kernel_rfl
theorem f53m (N : Nat) (v0 : LI) (v1 : Int) : f53i N (f53c 1) .n (f53s0 v0 v1) (joinK (some f53lE) (finK tab f53sig Tryd.f53.results.toList)) = impl_expOk.Z0 N v0 v1 (fun v4 => some ((), (v4, ()))) :=
  (f53t0 N v0 v1 (finK tab f53sig Tryd.f53.results.toList)).trans (by kernel_rfl)
theorem f53ok (h : impl_expOk.Spec) : EntryOk Tryd.prog 53 e53 :=
  entry_of_code (sig := f53sig) (c := (f53c 1)) (pl := .n) (je := (some f53lE)) (B := f53B) Tryd.func53 (by kernel_rfl) (by kernel_rfl) (by kernel_rfl) tabOk f53GOk (by kernel_rfl) (by kernel_rfl) (by kernel_rfl) (by kernel_rfl) fun X hb hp => by
    obtain ⟨v0, v1, _⟩ := X
    obtain ⟨N, h⟩ := h v0 v1 hb.1
    exact ⟨N, (f53m N v0 v1).trans (h N (Nat.le_refl N))⟩
theorem e53ok : EntryOk Tryd.prog 53 e53 := f53ok impl_expOk.ok
end Go.Fw
namespace Go.Fw
variable {ρ : Type}
open Go.Proofs
noncomputable def f54sig : Sig := ⟨[⟨.int .i64, false, false⟩], [⟨.bool, false, false⟩]⟩
noncomputable def e54 : Entry := ⟨f54sig, none, fun X => ((), ((impl_coefOk.g X.1), ()))⟩
noncomputable def f54G : Gm := addG emptyG 33 e33
theorem f54GOk : GOk Tryd.prog f54G := (GOk.nil).add e33ok (by kernel_rfl)
noncomputable def f54lE : Clean := ⟨[], [], [], [], []⟩
noncomputable def f54s0 (v0 : Int) : St := initSt f54sig.ps (v0, ())
noncomputable def f54s1 (v2 : Bool) : St := stOf [(2, xB v2)] [] []
noncomputable def f54l1 : Clean := ⟨[2], [], [], [], []⟩
noncomputable def f54B : Nat → Option Clean := lookL [(1000000, f54l1)]
noncomputable abbrev f54i {ρ : Type} (N : Nat) (c : Code) (p : Plan) (σ : St) (K : KT ρ) : Option ρ := iCode f54G tab f54B N c p σ K
noncomputable def f54c (n : Nat) : Code := codeN 99 (bodyOf Tryd.f54) n
theorem f54t0 N v0 (K : KT ρ) : f54i N (f54c 1) .n (f54s0 v0) (joinK (some f54lE) K) =
  impl_coefOk.Z0 N v0 (fun v2 => K .ret (f54s1 v2)) := by kernel_rfl
theorem f54m (N : Nat) (v0 : Int) : f54i N (f54c 1) .n (f54s0 v0) (joinK (some f54lE) (finK tab f54sig Tryd.f54.results.toList)) = impl_coefOk.Z0 N v0 (fun v2 => some ((), (v2, ()))) :=
  (f54t0 N v0 (finK tab f54sig Tryd.f54.results.toList)).trans (by kernel_rfl)
theorem f54ok (h : impl_coefOk.Spec) : EntryOk Tryd.prog 54 e54 :=
  entry_of_code (sig := f54sig) (c := (f54c 1)) (pl := .n) (je := (some f54lE)) (B := f54B) Tryd.func54 (by kernel_rfl) (by kernel_rfl) (by kernel_rfl) tabOk f54GOk (by kernel_rfl) (by kernel_rfl) (by kernel_rfl) (by kernel_rfl) fun X hb hp => by
    obtain ⟨v0, _⟩ := X
    obtain ⟨N, h⟩ := h v0
    exact ⟨N, (f54m N v0).trans (h N (Nat.le_refl N))⟩
theorem e54ok : EntryOk Tryd.prog 54 e54 := f54ok impl_coefOk.ok
end Go.Fw
namespace Go.Fw
variable {ρ : Type}
open Go.Proofs
noncomputable def f101sig : Sig := ⟨[⟨.int .i64, false, false⟩], [⟨.bool, false, false⟩]⟩
noncomputable def e101 : Entry := ⟨f101sig, none, fun X => ((), ((cmp_isNaN_int.g X.1), ()))⟩
noncomputable def f101G : Gm := emptyG
theorem f101GOk : GOk Tryd.prog f101G := GOk.nil
noncomputable def f101lE : Clean := ⟨[], [], [], [], []⟩
noncomputable def f101s0 (v0 : Int) : St := initSt f101sig.ps (v0, ())
noncomputable def f101s1 (v2 : Bool) : St := stOf [(2, xB v2)] [] []
noncomputable def f101l1 : Clean := ⟨[2], [], [], [], []⟩
noncomputable def f101B : Nat → Option Clean := lookL [(1000000, f101l1)]
noncomputable abbrev f101i {ρ : Type} (N : Nat) (c : Code) (p : Plan) (σ : St) (K : KT ρ) : Option ρ := iCode f101G tab f101B N c p σ K
noncomputable def f101c (n : Nat) : Code := codeN 99 (bodyOf Tryd.f101) n
theorem f101t0 N v0 (K : KT ρ) : f101i N (f101c 1) .n (f101s0 v0) (joinK (some f101lE) K) =
  cmp_isNaN_int.Z0 N v0 (fun v2 => K .ret (f101s1 v2)) := by kernel_rfl
theorem f101m (N : Nat) (v0 : Int) : f101i N (f101c 1) .n (f101s0 v0) (joinK (some f101lE) (finK tab f101sig Tryd.f101.results.toList)) = cmp_isNaN_int.Z0 N v0 (fun v2 => some ((), (v2, ()))) :=
  (f101t0 N v0 (finK tab f101sig Tryd.f101.results.toList)).trans (by kernel_rfl)
theorem f101ok (h : cmp_isNaN_int.Spec) : EntryOk Tryd.prog 101 e101 :=
  entry_of_code (sig := f101sig) (c := (f101c 1)) (pl := .n) (je := (some f101lE)) (B := f101B) Tryd.func101 (by kernel_rfl) (by kernel_rfl) (by kernel_rfl) tabOk f101GOk (by kernel_rfl) (by kernel_rfl) (by kernel_rfl) (by kernel_rfl) fun X hb hp => by
    obtain ⟨v0, _⟩ := X
    obtain ⟨N, h⟩ := h v0
    exact ⟨N, (f101m N v0).trans (h N (Nat.le_refl N))⟩
theorem e101ok : EntryOk Tryd.prog 101 e101 := f101ok cmp_isNaN_int.ok
end Go.Fw
namespace Go.Fw
variable {ρ : Type}
open Go.Proofs
noncomputable def f81sig : Sig := ⟨[⟨.int .i64, false, false⟩, ⟨.int .i64, false, false⟩], [⟨.int .i64, false, false⟩]⟩
noncomputable def e81 : Entry := ⟨f81sig, none, fun X => ((), ((cmp_Compare_int.g X.1 X.2.1), ()))⟩
noncomputable def f81G : Gm := addG emptyG 101 e101
theorem f81GOk : GOk Tryd.prog f81G := (GOk.nil).add e101ok (by kernel_rfl)
noncomputable def f81lE : Clean := ⟨[], [], [], [], []⟩
noncomputable def f81s0 (v0 v1 : Int) : St := initSt f81sig.ps (v0, (v1, ()))
noncomputable def f81s1 (v4 : Int) : St := stOf [(4, xi v4)] [] []
noncomputable def f81l1 : Clean := ⟨[4], [], [], [], []⟩
noncomputable def f81B : Nat → Option Clean := lookL [(1000000, f81l1)]
noncomputable abbrev f81i {ρ : Type} (N : Nat) (c : Code) (p : Plan) (σ : St) (K : KT ρ) : Option ρ := iCode f81G tab f81B N c p σ K
noncomputable def f81c (n : Nat) : Code := codeN 99 (bodyOf Tryd.f81) n
theorem f81t0 N v0 v1 (K : KT ρ) : f81i N (f81c 1) .n (f81s0 v0 v1) (joinK (some f81lE) K) =
  cmp_Compare_int.Z0 N v0 v1 (fun v4 => K .ret (f81s1 v4)) := by kernel_rfl
theorem f81m (N : Nat) (v0 v1 : Int) : f81i N (f81c 1) .n (f81s0 v0 v1) (joinK (some f81lE) (finK tab f81sig Tryd.f81.results.toList)) = cmp_Compare_int.Z0 N v0 v1 (fun v4 => some ((), (v4, ()))) :=
  (f81t0 N v0 v1 (finK tab f81sig Tryd.f81.results.toList)).trans (by kernel_rfl)
theorem f81ok (h : cmp_Compare_int.Spec) : EntryOk Tryd.prog 81 e81 :=
  entry_of_code (sig := f81sig) (c := (f81c 1)) (pl := .n) (je := (some f81lE)) (B := f81B) Tryd.func81 (by kernel_rfl) (by kernel_rfl) (by kernel_rfl) tabOk f81GOk (by kernel_rfl) (by kernel_rfl) (by kernel_rfl) (by kernel_rfl) fun X hb hp => by
    obtain ⟨v0, v1, _⟩ := X
    obtain ⟨N, h⟩ := h v0 v1
    exact ⟨N, (f81m N v0 v1).trans (h N (Nat.le_refl N))⟩
theorem e81ok : EntryOk Tryd.prog 81 e81 := f81ok cmp_Compare_int.ok
end Go.Fw
namespace Go.Fw
variable {ρ : Type}
open Go.Proofs
noncomputable def f55sig : Sig := ⟨[⟨.sl 3 (.int .i64), false, false⟩, ⟨.sl 3 (.int .i64), false, false⟩], [⟨.int .i64, false, false⟩]⟩
noncomputable def e55 : Entry := ⟨f55sig, none, fun X => ((), ((slices_Compare_int_int.g X.1 X.2.1), ()))⟩
noncomputable def f55G : Gm := addG emptyG 81 e81
theorem f55GOk : GOk Tryd.prog f55G := (GOk.nil).add e81ok (by kernel_rfl)
noncomputable def f55lE : Clean := ⟨[], [], [], [], []⟩
noncomputable def f55s0 (v0 v1 : LI) : St := initSt f55sig.ps (v0, (v1, ()))
noncomputable def f55s1 (v0 v1 : LI) : St := stOf [(0, .c (.sn 3 tI v0 none)), (1, .c (.sn 3 tI v1 none))] [] []
noncomputable def f55l1 : Clean := ⟨[0, 1], [], [], [], []⟩
noncomputable def f55s2 (v0 v1 v9 : LI) (v10 v11 : Int) : St := stOf [(0, .c (.sn 3 tI v0 none)), (1, .c (.sn 3 tI v1 none)), (9, .c (.sn 3 tI v9 none)), (10, xi v10), (11, xi v11)] [] []
noncomputable def f55l2 : Clean := ⟨[0, 1, 9, 10, 11], [], [], [], []⟩
noncomputable def f55s3 (v4 : Int) : St := stOf [(4, xi v4)] [] []
noncomputable def f55l3 : Clean := ⟨[4], [], [], [], []⟩
noncomputable def f55B : Nat → Option Clean := lookL [(0, f55l1), (1000000, f55l3)]
noncomputable abbrev f55i {ρ : Type} (N : Nat) (c : Code) (p : Plan) (σ : St) (K : KT ρ) : Option ρ := iCode f55G tab f55B N c p σ K
noncomputable def f55c (n : Nat) : Code := codeN 99 (bodyOf Tryd.f55) n
theorem f55t1 N v0 v1 (K : KT ρ) : f55i N (f55c 2) .n (f55s0 v0 v1) (joinK (some f55l1) K) =
  slices_Compare_int_int.Z1 N v0 v1 (fun v0 v1 => K .nrm (f55s1 v0 v1)) := by kernel_rfl
theorem f55t4 N v0 v1 (K : KT ρ) : f55i N (f55c 9) .n (f55s1 v0 v1) (joinK (some f55l2) K) =
  slices_Compare_int_int.Z4 N v0 v1 (fun v0 v1 v9 v10 v11 => K .nrm (f55s2 v0 v1 v9 v10 v11)) := by kernel_rfl
theorem f55t7 N v0 v1 v9 v10 v11 (K : KT ρ) : f55i N (f55c 37) .n (f55s2 v0 v1 v9 v10 v11) (joinK (some f55l2) K) =
  slices_Compare_int_int.Z7 N v0 v1 v9 v10 v11 (fun v0 v1 v9 v10 v11 => K .nrm (f55s2 v0 v1 v9 v10 v11)) (fun v0 v1 => K (.exit 0) (f55s1 v0 v1)) (fun v4 => K .ret (f55s3 v4)) := by kernel_rfl
noncomputable def f55p6 : Plan := .mk none (some f55l2) .n .n
noncomputable abbrev f55w6 {ρ : Type} (N M : Nat) (σ : St) (K : KT ρ) : Option ρ := loopC (fun σ K => f55i N (f55c 37) .n σ K) f55l2 M σ K
theorem f55t6L {ρ : Type} (N : Nat) (K : KT ρ) : ∀ (M : Nat) (v0 v1 v9 : LI) (v10 v11 : Int), f55w6 N M (f55s2 v0 v1 v9 v10 v11) K =
  slices_Compare_int_int.Z6L N (fun v0 v1 => K (.exit 0) (f55s1 v0 v1)) (fun v4 => K .ret (f55s3 v4)) M v0 v1 v9 v10 v11
  | 0, _, _, _, _, _ => rfl
  | M + 1, v0, v1, v9, v10, v11 => viaRoundS (fun k => slices_Compare_int_int.Z7 N v0 v1 v9 v10 v11 k (fun v0 v1 => K (.exit 0) (f55s1 v0 v1)) (fun v4 => K .ret (f55s3 v4))) (f55t7 N (K := seqK (fun σ => f55w6 N M σ K) K) ..) (fx5 fun v0 v1 v9 v10 v11 => f55t6L N K M v0 v1 v9 v10 v11) (by kernel_rfl)
theorem f55t6 N v0 v1 v9 v10 v11 (K : KT ρ) : f55i N (f55c 21) f55p6 (f55s2 v0 v1 v9 v10 v11) (joinK (some f55l1) K) =
  slices_Compare_int_int.Z6 N v0 v1 v9 v10 v11 (fun v0 v1 => K (.exit 0) (f55s1 v0 v1)) (fun v4 => K .ret (f55s3 v4)) :=
 viaLoopS (by kernel_rfl) (f55t6L N (joinK (some f55l1) K) N v0 v1 v9 v10 v11) (by kernel_rfl)
noncomputable def f55p5 : Plan := .mk (some f55l1) none f55p6 .n
theorem f55t5 N v0 v1 v9 v10 v11 (K : KT ρ) : f55i N (f55c 13) f55p5 (f55s2 v0 v1 v9 v10 v11) (joinK (some f55l1) K) =
  slices_Compare_int_int.Z5 N v0 v1 v9 v10 v11 (fun v0 v1 => K .nrm (f55s1 v0 v1)) (fun v4 => K .ret (f55s3 v4)) :=
 viaBlockS (by kernel_rfl) (f55t6 N (K := blockK 0 (joinK (some f55l1) K)) ..) (by kernel_rfl)
noncomputable def f55p3 : Plan := .mk (some f55l2) none .n f55p5
theorem f55t3 N v0 v1 (K : KT ρ) : f55i N (f55c 5) f55p3 (f55s1 v0 v1) (joinK (some f55l1) K) =
  slices_Compare_int_int.Z3 N v0 v1 (fun v0 v1 => K .nrm (f55s1 v0 v1)) (fun v4 => K .ret (f55s3 v4)) :=
 viaSeqS (fun k => slices_Compare_int_int.Z4 N v0 v1 k) (by kernel_rfl) (f55t4 N (K := seqK (fun σ => f55i N (f55c 13) f55p5 σ (joinK (some f55l1) K)) (joinK (some f55l1) K)) ..) (fx5 fun v0 v1 v9 v10 v11 => f55t5 N v0 v1 v9 v10 v11 K) (by kernel_rfl)
theorem f55t8 N v0 v1 (K : KT ρ) : f55i N (f55c 7) .n (f55s1 v0 v1) (joinK (some f55lE) K) =
  slices_Compare_int_int.Z8 N v0 v1 (fun v4 => K .ret (f55s3 v4)) := by kernel_rfl
noncomputable def f55p2 : Plan := .mk (some f55l1) none f55p3 .n
theorem f55t2 N v0 v1 (K : KT ρ) : f55i N (f55c 3) f55p2 (f55s1 v0 v1) (joinK (some f55lE) K) =
  slices_Compare_int_int.Z2 N v0 v1 (fun v4 => K .ret (f55s3 v4)) :=
 viaSeqS (fun k => slices_Compare_int_int.Z3 N v0 v1 k (fun v4 => K .ret (f55s3 v4))) (by kernel_rfl) (f55t3 N (K := seqK (fun σ => f55i N (f55c 7) .n σ (joinK (some f55lE) K)) (joinK (some f55lE) K)) ..) (fx2 fun v0 v1 => f55t8 N v0 v1 K) (by kernel_rfl)
noncomputable def f55p0 : Plan := .mk (some f55l1) none .n f55p2
theorem f55t0 N v0 v1 (K : KT ρ) : f55i N (f55c 1) f55p0 (f55s0 v0 v1) (joinK (some f55lE) K) =
  slices_Compare_int_int.Z0 N v0 v1 (fun v4 => K .ret (f55s3 v4)) :=
 viaSeqS (fun k => slices_Compare_int_int.Z1 N v0 v1 k) (by kernel_rfl) (f55t1 N (K := seqK (fun σ => f55i N (f55c 3) f55p2 σ (joinK (some f55lE) K)) (joinK (some f55lE) K)) ..) (fx2 fun v0 v1 => f55t2 N v0 v1 K) (by kernel_rfl)
theorem f55m (N : Nat) (v0 v1 : LI) : f55i N (f55c 1) f55p0 (f55s0 v0 v1) (joinK (some f55lE) (finK tab f55sig Tryd.f55.results.toList)) = slices_Compare_int_int.Z0 N v0 v1 (fun v4 => some ((), (v4, ()))) :=
  (f55t0 N v0 v1 (finK tab f55sig Tryd.f55.results.toList)).trans (by kernel_rfl)
theorem f55ok (h : slices_Compare_int_int.Spec) : EntryOk Tryd.prog 55 e55 :=
  entry_of_code (sig := f55sig) (c := (f55c 1)) (pl := f55p0) (je := (some f55lE)) (B := f55B) Tryd.func55 (by kernel_rfl) (by kernel_rfl) (by kernel_rfl) tabOk f55GOk (by kernel_rfl) (by kernel_rfl) (by kernel_rfl) (by kernel_rfl) fun X hb hp => by
    obtain ⟨v0, v1, _⟩ := X
    obtain ⟨N, h⟩ := h v0 v1 hb.1 hb.2.1
    exact ⟨N, (f55m N v0 v1).trans (h N (Nat.le_refl N))⟩
theorem e55ok : EntryOk Tryd.prog 55 e55 := f55ok slices_Compare_int_int.ok
end Go.Fw
namespace Go.Fw
variable {ρ : Type}
open Go.Proofs
noncomputable def f28sig : Sig := ⟨[⟨.pair (.int .i64) (.sl 61 (.pair (.sl 3 (.int .i64)) (.int .i64))), true, false⟩], [⟨.bool, false, false⟩]⟩
noncomputable def e28 : Entry := ⟨f28sig, none, fun X => ((), ((impl_LaurentOk.g X.1), ()))⟩
noncomputable def f28G : Gm := addG (addG (addG (addG emptyG 33 e33) 53 e53) 54 e54) 55 e55
theorem f28GOk : GOk Tryd.prog f28G := ((((GOk.nil).add e33ok (by kernel_rfl)).add e53ok (by kernel_rfl)).add e54ok (by kernel_rfl)).add e55ok (by kernel_rfl)
noncomputable def f28lE : Clean := ⟨[], [], [], [], []⟩
noncomputable def f28s0 (v0 : Int × List (LI × Int)) : St := initSt f28sig.ps (v0, ())
noncomputable def f28s1 (v1_0 : Int) (v1_1 : List (LI × Int)) : St := stOf [(1, xb 1)] [(1, (36, [yi v1_0, .sn 61 (.pair (.sl 3 tI) tI) v1_1 none]))] []
noncomputable def f28l1 : Clean := ⟨[1], [1], [], [], []⟩
noncomputable def f28s2 (v16 : List (LI × Int)) (v17 v18 v1_0 : Int) (v1_1 : List (LI × Int)) : St := stOf [(1, xb 1), (16, .c (.sn 61 (.pair (.sl 3 tI) tI) v16 none)), (17, xi v17), (18, xi v18)] [(1, (36, [yi v1_0, .sn 61 (.pair (.sl 3 tI) tI) v1_1 none]))] []
noncomputable def f28l2 : Clean := ⟨[1, 16, 17, 18], [1], [], [], []⟩
noncomputable def f28s3  : St := stOf [] [] []
noncomputable def f28l3 : Clean := ⟨[], [], [], [], []⟩
noncomputable def f28s4 (v2 : Bool) : St := stOf [(2, xB v2)] [] []
noncomputable def f28l4 : Clean := ⟨[2], [], [], [], []⟩
noncomputable def f28B : Nat → Option Clean := lookL [(0, f28l3), (1000000, f28l4)]
noncomputable abbrev f28i {ρ : Type} (N : Nat) (c : Code) (p : Plan) (σ : St) (K : KT ρ) : Option ρ := iCode f28G tab f28B N c p σ K
noncomputable def f28c (n : Nat) : Code := codeN 99 (bodyOf Tryd.f28) n
theorem f28t1 N v0 (K : KT ρ) : f28i N (f28c 2) .n (f28s0 v0) (joinK (some f28l1) K) =
  impl_LaurentOk.Z1 N v0 (fun v1_0 v1_1 => K .nrm (f28s1 v1_0 v1_1)) := by kernel_rfl
theorem f28t3 N v1_0 v1_1 (K : KT ρ) : f28i N (f28c 5) .n (f28s1 v1_0 v1_1) (joinK (some f28l1) K) =
  impl_LaurentOk.Z3 N v1_0 v1_1 (fun v1_0 v1_1 => K .nrm (f28s1 v1_0 v1_1)) (fun v2 => K .ret (f28s4 v2)) := by kernel_rfl
theorem f28t6 N v1_0 v1_1 (K : KT ρ) : f28i N (f28c 19) .n (f28s1 v1_0 v1_1) (joinK (some f28l2) K) =
  impl_LaurentOk.Z6 N v1_0 v1_1 (fun v16 v17 v18 v1_0 v1_1 => K .nrm (f28s2 v16 v17 v18 v1_0 v1_1)) := by kernel_rfl
theorem f28t9 N v16 v17 v18 v1_0 v1_1 (K : KT ρ) : f28i N (f28c 75) .n (f28s2 v16 v17 v18 v1_0 v1_1) (joinK (some f28l2) K) =
  impl_LaurentOk.Z9 N v16 v17 v18 v1_0 v1_1 (fun v16 v17 v18 v1_0 v1_1 => K .nrm (f28s2 v16 v17 v18 v1_0 v1_1)) (K (.exit 0) f28s3) (fun v2 => K .ret (f28s4 v2)) := by kernel_rfl
noncomputable def f28p8 : Plan := .mk none (some f28l2) .n .n
noncomputable abbrev f28w8 {ρ : Type} (N M : Nat) (σ : St) (K : KT ρ) : Option ρ := loopC (fun σ K => f28i N (f28c 75) .n σ K) f28l2 M σ K
theorem f28t8L {ρ : Type} (N : Nat) (K : KT ρ) : ∀ (M : Nat) (v16 : List (LI × Int)) (v17 v18 v1_0 : Int) (v1_1 : List (LI × Int)), f28w8 N M (f28s2 v16 v17 v18 v1_0 v1_1) K =
  impl_LaurentOk.Z8L N (K (.exit 0) f28s3) (fun v2 => K .ret (f28s4 v2)) M v16 v17 v18 v1_0 v1_1
  | 0, _, _, _, _, _ => rfl
  | M + 1, v16, v17, v18, v1_0, v1_1 => viaRoundS (fun k => impl_LaurentOk.Z9 N v16 v17 v18 v1_0 v1_1 k (K (.exit 0) f28s3) (fun v2 => K .ret (f28s4 v2))) (f28t9 N (K := seqK (fun σ => f28w8 N M σ K) K) ..) (fx5 fun v16 v17 v18 v1_0 v1_1 => f28t8L N K M v16 v17 v18 v1_0 v1_1) (by kernel_rfl)
theorem f28t8 N v16 v17 v18 v1_0 v1_1 (K : KT ρ) : f28i N (f28c 43) f28p8 (f28s2 v16 v17 v18 v1_0 v1_1) (joinK (some f28l3) K) =
  impl_LaurentOk.Z8 N v16 v17 v18 v1_0 v1_1 (K (.exit 0) f28s3) (fun v2 => K .ret (f28s4 v2)) :=
 viaLoopS (by kernel_rfl) (f28t8L N (joinK (some f28l3) K) N v16 v17 v18 v1_0 v1_1) (by kernel_rfl)
noncomputable def f28p7 : Plan := .mk (some f28l3) none f28p8 .n
theorem f28t7 N v16 v17 v18 v1_0 v1_1 (K : KT ρ) : f28i N (f28c 27) f28p7 (f28s2 v16 v17 v18 v1_0 v1_1) (joinK (some f28l3) K) =
  impl_LaurentOk.Z7 N v16 v17 v18 v1_0 v1_1 (K .nrm f28s3) (fun v2 => K .ret (f28s4 v2)) :=
 viaBlockS (by kernel_rfl) (f28t8 N (K := blockK 0 (joinK (some f28l3) K)) ..) (by kernel_rfl)
noncomputable def f28p5 : Plan := .mk (some f28l2) none .n f28p7
theorem f28t5 N v1_0 v1_1 (K : KT ρ) : f28i N (f28c 11) f28p5 (f28s1 v1_0 v1_1) (joinK (some f28l3) K) =
  impl_LaurentOk.Z5 N v1_0 v1_1 (K .nrm f28s3) (fun v2 => K .ret (f28s4 v2)) :=
 viaSeqS (fun k => impl_LaurentOk.Z6 N v1_0 v1_1 k) (by kernel_rfl) (f28t6 N (K := seqK (fun σ => f28i N (f28c 27) f28p7 σ (joinK (some f28l3) K)) (joinK (some f28l3) K)) ..) (fx5 fun v16 v17 v18 v1_0 v1_1 => f28t7 N v16 v17 v18 v1_0 v1_1 K) (by kernel_rfl)
theorem f28t10 N  (K : KT ρ) : f28i N (f28c 15) .n f28s3 (joinK (some f28lE) K) =
  impl_LaurentOk.Z10 N (fun v2 => K .ret (f28s4 v2)) := by kernel_rfl
noncomputable def f28p4 : Plan := .mk (some f28l3) none f28p5 .n
theorem f28t4 N v1_0 v1_1 (K : KT ρ) : f28i N (f28c 7) f28p4 (f28s1 v1_0 v1_1) (joinK (some f28lE) K) =
  impl_LaurentOk.Z4 N v1_0 v1_1 (fun v2 => K .ret (f28s4 v2)) :=
 viaSeqS (fun k => impl_LaurentOk.Z5 N v1_0 v1_1 k (fun v2 => K .ret (f28s4 v2))) (by kernel_rfl) (f28t5 N (K := seqK (fun σ => f28i N (f28c 15) .n σ (joinK (some f28lE) K)) (joinK (some f28lE) K)) ..) (f28t10 N K) (by kernel_rfl)
noncomputable def f28p2 : Plan := .mk (some f28l1) none .n f28p4
theorem f28t2 N v1_0 v1_1 (K : KT ρ) : f28i N (f28c 3) f28p2 (f28s1 v1_0 v1_1) (joinK (some f28lE) K) =
  impl_LaurentOk.Z2 N v1_0 v1_1 (fun v2 => K .ret (f28s4 v2)) :=
 viaSeqS (fun k => impl_LaurentOk.Z3 N v1_0 v1_1 k (fun v2 => K .ret (f28s4 v2))) (by kernel_rfl) (f28t3 N (K := seqK (fun σ => f28i N (f28c 7) f28p4 σ (joinK (some f28lE) K)) (joinK (some f28lE) K)) ..) (fx2 fun v1_0 v1_1 => f28t4 N v1_0 v1_1 K) (by kernel_rfl)
noncomputable def f28p0 : Plan := .mk (some f28l1) none .n f28p2
theorem f28t0 N v0 (K : KT ρ) : f28i N (f28c 1) f28p0 (f28s0 v0) (joinK (some f28lE) K) =
  impl_LaurentOk.Z0 N v0 (fun v2 => K .ret (f28s4 v2)) :=
 viaSeqS (fun k => impl_LaurentOk.Z1 N v0 k) (by kernel_rfl) (f28t1 N (K := seqK (fun σ => f28i N (f28c 3) f28p2 σ (joinK (some f28lE) K)) (joinK (some f28lE) K)) ..) (fx2 fun v1_0 v1_1 => f28t2 N v1_0 v1_1 K) (by kernel_rfl)
theorem f28m (N : Nat) (v0 : Int × List (LI × Int)) : f28i N (f28c 1) f28p0 (f28s0 v0) (joinK (some f28lE) (finK tab f28sig Tryd.f28.results.toList)) = impl_LaurentOk.Z0 N v0 (fun v2 => some ((), (v2, ()))) :=
  (f28t0 N v0 (finK tab f28sig Tryd.f28.results.toList)).trans (by kernel_rfl)
theorem f28ok (h : impl_LaurentOk.Spec) : EntryOk Tryd.prog 28 e28 :=
  entry_of_code (sig := f28sig) (c := (f28c 1)) (pl := f28p0) (je := (some f28lE)) (B := f28B) Tryd.func28 (by kernel_rfl) (by kernel_rfl) (by kernel_rfl) tabOk f28GOk (by kernel_rfl) (by kernel_rfl) (by kernel_rfl) (by kernel_rfl) fun X hb hp => by
    obtain ⟨v0, _⟩ := X
    obtain ⟨N, h⟩ := h v0 hb.1
    exact ⟨N, (f28m N v0).trans (h N (Nat.le_refl N))⟩
theorem e28ok : EntryOk Tryd.prog 28 e28 := f28ok impl_LaurentOk.ok
end Go.Fw
namespace Go.Fw
variable {ρ : Type}
open Go.Proofs
noncomputable def f25sig : Sig := ⟨[⟨.pair (.int .i64) (.sl 61 (.pair (.sl 3 (.int .i64)) (.int .i64))), true, false⟩], [⟨.str, false, false⟩]⟩
noncomputable def e25 : Entry := ⟨f25sig, none, fun X => ((), ((impl_FormatLaurent.g X.1), ()))⟩
noncomputable def f25G : Gm := addG (addG (addG (addG emptyG 28 e28) 34 e34) 49 e49) 50 e50
theorem f25GOk : GOk Tryd.prog f25G := ((((GOk.nil).add e28ok (by kernel_rfl)).add e34ok (by kernel_rfl)).add e49ok (by kernel_rfl)).add e50ok (by kernel_rfl)
noncomputable def f25lE : Clean := ⟨[], [], [], [], []⟩
noncomputable def f25s0 (v0 : Int × List (LI × Int)) : St := initSt f25sig.ps (v0, ())
noncomputable def f25s1 (v1_0 : Int) (v1_1 : List (LI × Int)) : St := stOf [(1, xb 1)] [(1, (36, [yi v1_0, .sn 61 (.pair (.sl 3 tI) tI) v1_1 none]))] []
noncomputable def f25l1 : Clean := ⟨[1], [1], [], [], []⟩
noncomputable def f25s2 (v1_0 : Int) (v1_1 : List (LI × Int)) : St := stOf [(1, xb 1), (3, .c (.nil))] [(1, (36, [yi v1_0, .sn 61 (.pair (.sl 3 tI) tI) v1_1 none]))] []
noncomputable def f25l2 : Clean := ⟨[1, 3], [1], [], [], []⟩
noncomputable def f25s3 (v10 : List (LI × Int)) (v11 v12 v1_0 : Int) (v1_1 : List (LI × Int)) : St := stOf [(1, xb 1), (3, .c (.nil)), (10, .c (.sn 61 (.pair (.sl 3 tI) tI) v10 none)), (11, xi v11), (12, xi v12)] [(1, (36, [yi v1_0, .sn 61 (.pair (.sl 3 tI) tI) v1_1 none]))] []
noncomputable def f25l3 : Clean := ⟨[1, 3, 10, 11, 12], [1], [], [], []⟩
noncomputable def f25s4 (v3 : List ByteArray) (v10 : List (LI × Int)) (v11 v12 v1_0 : Int) (v1_1 : List (LI × Int)) : St := stOf [(1, xb 1), (3, xo 1000192), (10, .c (.sn 61 (.pair (.sl 3 tI) tI) v10 none)), (11, xi v11), (12, xi v12)] [(1, (36, [yi v1_0, .sn 61 (.pair (.sl 3 tI) tI) v1_1 none]))] [(1000192, (⟨9, .str, v3, true, false⟩ : Row))]
noncomputable def f25l4 : Clean := ⟨[1, 3, 10, 11, 12], [1], [⟨⟨false, 3, 0⟩, 30000000, 9, .str, true⟩], [], [(⟨false, 3, 0⟩, 1000192)]⟩
noncomputable def f25s5 (v3 : List ByteArray) (v1_0 : Int) (v1_1 : List (LI × Int)) : St := stOf [(1, xb 1), (3, xo 1000192)] [(1, (36, [yi v1_0, .sn 61 (.pair (.sl 3 tI) tI) v1_1 none]))] [(1000192, (⟨9, .str, v3, true, false⟩ : Row))]
noncomputable def f25l5 : Clean := ⟨[1, 3], [1], [], [], [(⟨false, 3, 0⟩, 1000192)]⟩
noncomputable def f25s6 (v2 : ByteArray) : St := stOf [(2, .c (.str v2))] [] []
noncomputable def f25l6 : Clean := ⟨[2], [], [], [], []⟩
noncomputable def f25B : Nat → Option Clean := lookL [(0, f25l5), (1000000, f25l6)]
noncomputable abbrev f25i {ρ : Type} (N : Nat) (c : Code) (p : Plan) (σ : St) (K : KT ρ) : Option ρ := iCode f25G tab f25B N c p σ K
noncomputable def f25c (n : Nat) : Code := codeN 99 (bodyOf Tryd.f25) n
theorem f25t1 N v0 (K : KT ρ) : f25i N (f25c 2) .n (f25s0 v0) (joinK (some f25l1) K) =
  impl_FormatLaurent.Z1 N v0 (fun v1_0 v1_1 => K .nrm (f25s1 v1_0 v1_1)) := by kernel_rfl
theorem f25t3 N v1_0 v1_1 (K : KT ρ) : f25i N (f25c 5) .n (f25s1 v1_0 v1_1) (joinK (some f25l1) K) =
  impl_FormatLaurent.Z3 N v1_0 v1_1 (fun v1_0 v1_1 => K .nrm (f25s1 v1_0 v1_1)) (fun v2 => K .ret (f25s6 v2)) := by kernel_rfl
theorem f25t5 N v1_0 v1_1 (K : KT ρ) : f25i N (f25c 11) .n (f25s1 v1_0 v1_1) (joinK (some f25l2) K) =
  impl_FormatLaurent.Z5 N v1_0 v1_1 (fun v1_0 v1_1 => K .nrm (f25s2 v1_0 v1_1)) := by kernel_rfl
theorem f25t8 N v1_0 v1_1 (K : KT ρ) : f25i N (f25c 39) .n (f25s2 v1_0 v1_1) (joinK (some f25l3) K) =
  impl_FormatLaurent.Z8 N v1_0 v1_1 (fun v10 v11 v12 v1_0 v1_1 => K .nrm (f25s3 v10 v11 v12 v1_0 v1_1)) := by kernel_rfl
theorem f25t11 N v3 v10 v11 v12 v1_0 v1_1 (K : KT ρ) : f25i N (f25c 151) .n (f25s4 v3 v10 v11 v12 v1_0 v1_1) (joinK (some f25l4) K) =
  impl_FormatLaurent.Z11 N v3 v10 v11 v12 v1_0 v1_1 (fun v3 v10 v11 v12 v1_0 v1_1 => K .nrm (f25s4 v3 v10 v11 v12 v1_0 v1_1)) (fun v3 v1_0 v1_1 => K (.exit 0) (f25s5 v3 v1_0 v1_1)) := by kernel_rfl
noncomputable def f25p10 : Plan := .mk none (some f25l4) .n .n
noncomputable abbrev f25w10 {ρ : Type} (N M : Nat) (σ : St) (K : KT ρ) : Option ρ := loopC (fun σ K => f25i N (f25c 151) .n σ K) f25l4 M σ K
theorem f25t10L {ρ : Type} (N : Nat) (K : KT ρ) : ∀ (M : Nat) (v3 : List ByteArray) (v10 : List (LI × Int)) (v11 v12 v1_0 : Int) (v1_1 : List (LI × Int)), f25w10 N M (f25s4 v3 v10 v11 v12 v1_0 v1_1) K =
  impl_FormatLaurent.Z10L N (fun v3 v1_0 v1_1 => K (.exit 0) (f25s5 v3 v1_0 v1_1)) M v3 v10 v11 v12 v1_0 v1_1
  | 0, _, _, _, _, _, _ => rfl
  | M + 1, v3, v10, v11, v12, v1_0, v1_1 => viaRoundS (fun k => impl_FormatLaurent.Z11 N v3 v10 v11 v12 v1_0 v1_1 k (fun v3 v1_0 v1_1 => K (.exit 0) (f25s5 v3 v1_0 v1_1))) (f25t11 N (K := seqK (fun σ => f25w10 N M σ K) K) ..) (fx6 fun v3 v10 v11 v12 v1_0 v1_1 => f25t10L N K M v3 v10 v11 v12 v1_0 v1_1) (by kernel_rfl)
theorem f25t10 N v10 v11 v12 v1_0 v1_1 (K : KT ρ) : f25i N (f25c 87) f25p10 (f25s3 v10 v11 v12 v1_0 v1_1) (joinK (some f25l5) K) =
  impl_FormatLaurent.Z10 N v10 v11 v12 v1_0 v1_1 (fun v3 v1_0 v1_1 => K (.exit 0) (f25s5 v3 v1_0 v1_1)) :=
 viaLoopS (by kernel_rfl) (f25t10L N (joinK (some f25l5) K) N ([] : List ByteArray) v10 v11 v12 v1_0 v1_1) (by kernel_rfl)
noncomputable def f25p9 : Plan := .mk (some f25l5) none f25p10 .n
theorem f25t9 N v10 v11 v12 v1_0 v1_1 (K : KT ρ) : f25i N (f25c 55) f25p9 (f25s3 v10 v11 v12 v1_0 v1_1) (joinK (some f25l5) K) =
  impl_FormatLaurent.Z9 N v10 v11 v12 v1_0 v1_1 (fun v3 v1_0 v1_1 => K .nrm (f25s5 v3 v1_0 v1_1)) :=
 viaBlockS (by kernel_rfl) (f25t10 N (K := blockK 0 (joinK (some f25l5) K)) ..) (by kernel_rfl)
noncomputable def f25p7 : Plan := .mk (some f25l3) none .n f25p9
theorem f25t7 N v1_0 v1_1 (K : KT ρ) : f25i N (f25c 23) f25p7 (f25s2 v1_0 v1_1) (joinK (some f25l5) K) =
  impl_FormatLaurent.Z7 N v1_0 v1_1 (fun v3 v1_0 v1_1 => K .nrm (f25s5 v3 v1_0 v1_1)) :=
 viaSeqS (fun k => impl_FormatLaurent.Z8 N v1_0 v1_1 k) (by kernel_rfl) (f25t8 N (K := seqK (fun σ => f25i N (f25c 55) f25p9 σ (joinK (some f25l5) K)) (joinK (some f25l5) K)) ..) (fx5 fun v10 v11 v12 v1_0 v1_1 => f25t9 N v10 v11 v12 v1_0 v1_1 K) (by kernel_rfl)
theorem f25t12 N v3 v1_0 v1_1 (K : KT ρ) : f25i N (f25c 31) .n (f25s5 v3 v1_0 v1_1) (joinK (some f25lE) K) =
  impl_FormatLaurent.Z12 N v3 v1_0 v1_1 (fun v2 => K .ret (f25s6 v2)) := by kernel_rfl
noncomputable def f25p6 : Plan := .mk (some f25l5) none f25p7 .n
theorem f25t6 N v1_0 v1_1 (K : KT ρ) : f25i N (f25c 15) f25p6 (f25s2 v1_0 v1_1) (joinK (some f25lE) K) =
  impl_FormatLaurent.Z6 N v1_0 v1_1 (fun v2 => K .ret (f25s6 v2)) :=
 viaSeqS (fun k => impl_FormatLaurent.Z7 N v1_0 v1_1 k) (by kernel_rfl) (f25t7 N (K := seqK (fun σ => f25i N (f25c 31) .n σ (joinK (some f25lE) K)) (joinK (some f25lE) K)) ..) (fx3 fun v3 v1_0 v1_1 => f25t12 N v3 v1_0 v1_1 K) (by kernel_rfl)
noncomputable def f25p4 : Plan := .mk (some f25l2) none .n f25p6
theorem f25t4 N v1_0 v1_1 (K : KT ρ) : f25i N (f25c 7) f25p4 (f25s1 v1_0 v1_1) (joinK (some f25lE) K) =
  impl_FormatLaurent.Z4 N v1_0 v1_1 (fun v2 => K .ret (f25s6 v2)) :=
 viaSeqS (fun k => impl_FormatLaurent.Z5 N v1_0 v1_1 k) (by kernel_rfl) (f25t5 N (K := seqK (fun σ => f25i N (f25c 15) f25p6 σ (joinK (some f25lE) K)) (joinK (some f25lE) K)) ..) (fx2 fun v1_0 v1_1 => f25t6 N v1_0 v1_1 K) (by kernel_rfl)
noncomputable def f25p2 : Plan := .mk (some f25l1) none .n f25p4
theorem f25t2 N v1_0 v1_1 (K : KT ρ) : f25i N (f25c 3) f25p2 (f25s1 v1_0 v1_1) (joinK (some f25lE) K) =
  impl_FormatLaurent.Z2 N v1_0 v1_1 (fun v2 => K .ret (f25s6 v2)) :=
 viaSeqS (fun k => impl_FormatLaurent.Z3 N v1_0 v1_1 k (fun v2 => K .ret (f25s6 v2))) (by kernel_rfl) (f25t3 N (K := seqK (fun σ => f25i N (f25c 7) f25p4 σ (joinK (some f25lE) K)) (joinK (some f25lE) K)) ..) (fx2 fun v1_0 v1_1 => f25t4 N v1_0 v1_1 K) (by kernel_rfl)
noncomputable def f25p0 : Plan := .mk (some f25l1) none .n f25p2
theorem f25t0 N v0 (K : KT ρ) : f25i N (f25c 1) f25p0 (f25s0 v0) (joinK (some f25lE) K) =
  impl_FormatLaurent.Z0 N v0 (fun v2 => K .ret (f25s6 v2)) :=
 viaSeqS (fun k => impl_FormatLaurent.Z1 N v0 k) (by kernel_rfl) (f25t1 N (K := seqK (fun σ => f25i N (f25c 3) f25p2 σ (joinK (some f25lE) K)) (joinK (some f25lE) K)) ..) (fx2 fun v1_0 v1_1 => f25t2 N v1_0 v1_1 K) (by kernel_rfl)
theorem f25m (N : Nat) (v0 : Int × List (LI × Int)) : f25i N (f25c 1) f25p0 (f25s0 v0) (joinK (some f25lE) (finK tab f25sig Tryd.f25.results.toList)) = impl_FormatLaurent.Z0 N v0 (fun v2 => some ((), (v2, ()))) :=
  (f25t0 N v0 (finK tab f25sig Tryd.f25.results.toList)).trans (by kernel_rfl)
theorem f25ok (h : impl_FormatLaurent.Spec) : EntryOk Tryd.prog 25 e25 :=
  entry_of_code (sig := f25sig) (c := (f25c 1)) (pl := f25p0) (je := (some f25lE)) (B := f25B) Tryd.func25 (by kernel_rfl) (by kernel_rfl) (by kernel_rfl) tabOk f25GOk (by kernel_rfl) (by kernel_rfl) (by kernel_rfl) (by kernel_rfl) fun X hb hp => by
    obtain ⟨v0, _⟩ := X
    obtain ⟨N, h⟩ := h v0 hb.1
    exact ⟨N, (f25m N v0).trans (h N (Nat.le_refl N))⟩
theorem e25ok : EntryOk Tryd.prog 25 e25 := f25ok impl_FormatLaurent.ok
end Go.Fw
namespace Go.Fw
variable {ρ : Type}
open Go.Proofs
noncomputable def f18sig : Sig := ⟨[⟨.str, false, false⟩], [⟨.pair (.int .i64) (.sl 61 (.pair (.sl 3 (.int .i64)) (.int .i64))), true, false⟩, ⟨.bool, false, false⟩]⟩
noncomputable def e18 : Entry := ⟨f18sig, (some fun X => impl_ParseLaurent.P X.1), fun X => ((), ((impl_ParseLaurent.g X.1).1, ((impl_ParseLaurent.g X.1).2, ())))⟩
noncomputable def f18G : Gm := addG (addG (addG (addG (addG emptyG 8 e8) 25 e25) 28 e28) 31 e31) 39 e39
theorem f18GOk : GOk Tryd.prog f18G := (((((GOk.nil).add e8ok (by kernel_rfl)).add e25ok (by kernel_rfl)).add e28ok (by kernel_rfl)).add e31ok (by kernel_rfl)).add e39ok (by kernel_rfl)
noncomputable def f18lE : Clean := ⟨[], [], [], [], []⟩
noncomputable def f18s0 (v0 : ByteArray) : St := initSt f18sig.ps (v0, ())
noncomputable def f18s1 (v0 : ByteArray) (v2_0 : Int) : St := stOf [(0, .c (.str v0)), (2, xb 2)] [(2, (36, [yi v2_0, .nil]))] []
noncomputable def f18l1 : Clean := ⟨[0, 2], [2], [], [], []⟩
noncomputable def f18s2 (v0 v4 v5 : ByteArray) (v6 : Bool) (v2_0 : Int) : St := stOf [(0, .c (.str v0)), (2, xb 2), (4, .c (.str v4)), (5, .c (.str v5)), (6, xB v6)] [(2, (36, [yi v2_0, .nil]))] []
noncomputable def f18l2 : Clean := ⟨[0, 2, 4, 5, 6], [2], [], [], []⟩
noncomputable def f18s3 (v7 : LI) (v0 v5 : ByteArray) (v6 v8 : Bool) (v2_0 : Int) : St := stOf [(0, .c (.str v0)), (2, xb 2), (5, .c (.str v5)), (6, xB v6), (7, xo 1000448), (8, xB v8)] [(2, (36, [yi v2_0, .nil]))] [(1000448, (⟨3, .int .i64, v7, true, false⟩ : Row))]
noncomputable def f18l3 : Clean := ⟨[0, 2, 5, 6, 7, 8], [2], [], [], [(⟨false, 7, 0⟩, 1000448)]⟩
noncomputable def f18s4 (v7 : LI) (v0 v5 : ByteArray) (v2_0 : Int) : St := stOf [(0, .c (.str v0)), (2, xb 2), (5, .c (.str v5)), (7, xo 1000448)] [(2, (36, [yi v2_0, .nil]))] [(1000448, (⟨3, .int .i64, v7, true, false⟩ : Row))]
noncomputable def f18l4 : Clean := ⟨[0, 2, 5, 7], [2], [], [], [(⟨false, 7, 0⟩, 1000448)]⟩
noncomputable def f18s5 (v0 v5 : ByteArray) (v2_0 v9_0 : Int) : St := stOf [(0, .c (.str v0)), (2, xb 2), (5, .c (.str v5)), (9, xb 9)] [(2, (36, [yi v2_0, .nil])), (9, (36, [yi v9_0, .nil]))] []
noncomputable def f18l5 : Clean := ⟨[0, 2, 5, 9], [2, 9], [], [], []⟩
noncomputable def f18s6 (v0 v5 : ByteArray) (v47 : Bool) (v2_0 v9_0 : Int) : St := stOf [(0, .c (.str v0)), (2, xb 2), (5, .c (.str v5)), (9, xb 9), (47, xB v47)] [(2, (36, [yi v2_0, .nil])), (9, (36, [yi v9_0, .nil]))] []
noncomputable def f18l6 : Clean := ⟨[0, 2, 5, 9, 47], [2, 9], [], [], []⟩
noncomputable def f18s7 (v49 : List ByteArray) (v0 : ByteArray) (v50 v51 v2_0 v9_0 : Int) : St := stOf [(0, .c (.str v0)), (2, xb 2), (9, xb 9), (49, xo 1003136), (50, xi v50), (51, xi v51)] [(2, (36, [yi v2_0, .nil])), (9, (36, [yi v9_0, .nil]))] [(1003136, (⟨9, .str, v49, true, false⟩ : Row))]
noncomputable def f18l7 : Clean := ⟨[0, 2, 9, 49, 50, 51], [2, 9], [], [], [(⟨false, 49, 0⟩, 1003136)]⟩
noncomputable def f18s8 (v49 : List ByteArray) (v9_1 : List (LI × Int)) (v0 : ByteArray) (v50 v51 v2_0 v9_0 : Int) : St := stOf [(0, .c (.str v0)), (2, xb 2), (9, xb 9), (49, xo 1003136), (50, xi v50), (51, xi v51)] [(2, (36, [yi v2_0, .nil])), (9, (36, [yi v9_0, .own 20000577]))] [(1003136, (⟨9, .str, v49, true, false⟩ : Row)), (20000577, (⟨61, .pair (.sl 3 tI) tI, v9_1, true, false⟩ : Row))]
noncomputable def f18l8 : Clean := ⟨[0, 2, 9, 49, 50, 51], [2, 9], [⟨⟨true, 9, 1⟩, 30000000, 61, .pair (.sl 3 (.int .i64)) (.int .i64), true⟩], [], [(⟨false, 49, 0⟩, 1003136), (⟨true, 9, 1⟩, 20000577)]⟩
noncomputable def f18s9 (v9_1 : List (LI × Int)) (v0 : ByteArray) (v2_0 v9_0 : Int) : St := stOf [(0, .c (.str v0)), (2, xb 2), (9, xb 9)] [(2, (36, [yi v2_0, .nil])), (9, (36, [yi v9_0, .own 20000577]))] [(20000577, (⟨61, .pair (.sl 3 tI) tI, v9_1, true, false⟩ : Row))]
noncomputable def f18l9 : Clean := ⟨[0, 2, 9], [2, 9], [], [], [(⟨true, 9, 1⟩, 20000577)]⟩
noncomputable def f18s10 (v9_1 : List (LI × Int)) (v0 : ByteArray) (v2_0 v9_0 : Int) : St := stOf [(0, .c (.str v0)), (2, xb 2), (9, xb 9)] [(2, (36, [yi v2_0, .nil])), (9, (36, [yi v9_0, .own 20000577]))] [(20000577, (⟨61, .pair (.sl 3 tI) tI, v9_1, true, false⟩ : Row))]
noncomputable def f18l10 : Clean := ⟨[0, 2, 9], [2, 9], [⟨⟨true, 9, 1⟩, 30000000, 61, .pair (.sl 3 (.int .i64)) (.int .i64), true⟩], [], [(⟨true, 9, 1⟩, 20000577)]⟩
noncomputable def f18s11 (v2_1 : List (LI × Int)) (v3 : Bool) (v2_0 : Int) : St := stOf [(2, xb 2), (3, xB v3)] [(2, (36, [yi v2_0, .own 20000129]))] [(20000129, (⟨61, .pair (.sl 3 tI) tI, v2_1, true, false⟩ : Row))]
noncomputable def f18l11 : Clean := ⟨[2, 3], [2], [⟨⟨true, 2, 1⟩, 30000000, 61, .pair (.sl 3 (.int .i64)) (.int .i64), true⟩], [], [(⟨true, 2, 1⟩, 20000129)]⟩
noncomputable def f18B : Nat → Option Clean := lookL [(0, f18l9), (1000000, f18l11)]
noncomputable abbrev f18i {ρ : Type} (N : Nat) (c : Code) (p : Plan) (σ : St) (K : KT ρ) : Option ρ := iCode f18G tab f18B N c p σ K
noncomputable def f18c (n : Nat) : Code := codeN 99 (bodyOf Tryd.f18) n
theorem f18t1 N v0 (K : KT ρ) : f18i N (f18c 2) .n (f18s0 v0) (joinK (some f18l1) K) =
  impl_ParseLaurent.Z1 N v0 (fun v0 v2_0 => K .nrm (f18s1 v0 v2_0)) := by kernel_rfl
theorem f18t3 N v0 v2_0 (K : KT ρ) : f18i N (f18c 5) .n (f18s1 v0 v2_0) (joinK (some f18l2) K) =
  impl_ParseLaurent.Z3 N v0 v2_0 (fun v0 v4 v5 v6 v2_0 => K .nrm (f18s2 v0 v4 v5 v6 v2_0)) := by kernel_rfl
theorem f18t5 N v0 v4 v5 v6 v2_0 (K : KT ρ) : f18i N (f18c 11) .n (f18s2 v0 v4 v5 v6 v2_0) (joinK (some f18l3) K) =
  impl_ParseLaurent.Z5 N v0 v4 v5 v6 v2_0 (fun v7 v0 v5 v6 v8 v2_0 => K .nrm (f18s3 v7 v0 v5 v6 v8 v2_0)) := by kernel_rfl
theorem f18t7 N v7 v0 v5 v6 v8 v2_0 (K : KT ρ) : f18i N (f18c 23) .n (f18s3 v7 v0 v5 v6 v8 v2_0) (joinK (some f18l4) K) =
  impl_ParseLaurent.Z7 N v7 v0 v5 v6 v8 v2_0 (fun v7 v0 v5 v2_0 => K .nrm (f18s4 v7 v0 v5 v2_0)) (fun v2_1 v3 v2_0 => K .ret (f18s11 v2_1 v3 v2_0)) := by kernel_rfl
theorem f18t9 N v7 v0 v5 v2_0 (K : KT ρ) : f18i N (f18c 47) .n (f18s4 v7 v0 v5 v2_0) (joinK (some f18l5) K) =
  impl_ParseLaurent.Z9 N v7 v0 v5 v2_0 (fun v0 v5 v2_0 v9_0 => K .nrm (f18s5 v0 v5 v2_0 v9_0)) := by kernel_rfl
theorem f18t12 N v0 v5 v2_0 v9_0 (K : KT ρ) : f18i N (f18c 159) .n (f18s5 v0 v5 v2_0 v9_0) (joinK (some f18l6) K) =
  impl_ParseLaurent.Z12 N v0 v5 v2_0 v9_0 (fun v0 v5 v47 v2_0 v9_0 => K .nrm (f18s6 v0 v5 v47 v2_0 v9_0)) := by kernel_rfl
theorem f18t15 N v0 v5 v47 v2_0 v9_0 (K : KT ρ) : f18i N (f18c 607) .n (f18s6 v0 v5 v47 v2_0 v9_0) (joinK (some f18l7) K) =
  impl_ParseLaurent.Z15 N v0 v5 v47 v2_0 v9_0 (fun v49 v0 v50 v51 v2_0 v9_0 => K .nrm (f18s7 v49 v0 v50 v51 v2_0 v9_0)) := by kernel_rfl
theorem f18t18 N v49 v9_1 v0 v50 v51 v2_0 v9_0 (K : KT ρ) : f18i N (f18c 2399) .n (f18s8 v49 v9_1 v0 v50 v51 v2_0 v9_0) (joinK (some f18l8) K) =
  impl_ParseLaurent.Z18 N v49 v9_1 v0 v50 v51 v2_0 v9_0 (fun v49 v9_1 v0 v50 v51 v2_0 v9_0 => K .nrm (f18s8 v49 v9_1 v0 v50 v51 v2_0 v9_0)) (fun v9_1 v0 v2_0 v9_0 => K (.exit 0) (f18s9 v9_1 v0 v2_0 v9_0)) (fun v2_1 v3 v2_0 => K .ret (f18s11 v2_1 v3 v2_0)) := by kernel_rfl
noncomputable def f18p17 : Plan := .mk none (some f18l8) .n .n
noncomputable abbrev f18w17 {ρ : Type} (N M : Nat) (σ : St) (K : KT ρ) : Option ρ := loopC (fun σ K => f18i N (f18c 2399) .n σ K) f18l8 M σ K
theorem f18t17L {ρ : Type} (N : Nat) (K : KT ρ) : ∀ (M : Nat) (v49 : List ByteArray) (v9_1 : List (LI × Int)) (v0 : ByteArray) (v50 v51 v2_0 v9_0 : Int), f18w17 N M (f18s8 v49 v9_1 v0 v50 v51 v2_0 v9_0) K =
  impl_ParseLaurent.Z17L N (fun v9_1 v0 v2_0 v9_0 => K (.exit 0) (f18s9 v9_1 v0 v2_0 v9_0)) (fun v2_1 v3 v2_0 => K .ret (f18s11 v2_1 v3 v2_0)) M v49 v9_1 v0 v50 v51 v2_0 v9_0
  | 0, _, _, _, _, _, _, _ => rfl
  | M + 1, v49, v9_1, v0, v50, v51, v2_0, v9_0 => viaRoundS (fun k => impl_ParseLaurent.Z18 N v49 v9_1 v0 v50 v51 v2_0 v9_0 k (fun v9_1 v0 v2_0 v9_0 => K (.exit 0) (f18s9 v9_1 v0 v2_0 v9_0)) (fun v2_1 v3 v2_0 => K .ret (f18s11 v2_1 v3 v2_0))) (f18t18 N (K := seqK (fun σ => f18w17 N M σ K) K) ..) (fx7 fun v49 v9_1 v0 v50 v51 v2_0 v9_0 => f18t17L N K M v49 v9_1 v0 v50 v51 v2_0 v9_0) (by kernel_rfl)
theorem f18t17 N v49 v0 v50 v51 v2_0 v9_0 (K : KT ρ) : f18i N (f18c 1375) f18p17 (f18s7 v49 v0 v50 v51 v2_0 v9_0) (joinK (some f18l9) K) =
  impl_ParseLaurent.Z17 N v49 v0 v50 v51 v2_0 v9_0 (fun v9_1 v0 v2_0 v9_0 => K (.exit 0) (f18s9 v9_1 v0 v2_0 v9_0)) (fun v2_1 v3 v2_0 => K .ret (f18s11 v2_1 v3 v2_0)) :=
 viaLoopS (by kernel_rfl) (f18t17L N (joinK (some f18l9) K) N v49 ([] : List (LI × Int)) v0 v50 v51 v2_0 v9_0) (by kernel_rfl)
noncomputable def f18p16 : Plan := .mk (some f18l9) none f18p17 .n
theorem f18t16 N v49 v0 v50 v51 v2_0 v9_0 (K : KT ρ) : f18i N (f18c 863) f18p16 (f18s7 v49 v0 v50 v51 v2_0 v9_0) (joinK (some f18l10) K) =
  impl_ParseLaurent.Z16 N v49 v0 v50 v51 v2_0 v9_0 (fun v9_1 v0 v2_0 v9_0 => K .nrm (f18s10 v9_1 v0 v2_0 v9_0)) (fun v2_1 v3 v2_0 => K .ret (f18s11 v2_1 v3 v2_0)) :=
 viaBlockS (by kernel_rfl) (f18t17 N (K := blockK 0 (joinK (some f18l10) K)) ..) (by kernel_rfl)
noncomputable def f18p14 : Plan := .mk (some f18l7) none .n f18p16
theorem f18t14 N v0 v5 v47 v2_0 v9_0 (K : KT ρ) : f18i N (f18c 351) f18p14 (f18s6 v0 v5 v47 v2_0 v9_0) (joinK (some f18l10) K) =
  impl_ParseLaurent.Z14 N v0 v5 v47 v2_0 v9_0 (fun v9_1 v0 v2_0 v9_0 => K .nrm (f18s10 v9_1 v0 v2_0 v9_0)) (fun v2_1 v3 v2_0 => K .ret (f18s11 v2_1 v3 v2_0)) :=
 viaSeqS (fun k => impl_ParseLaurent.Z15 N v0 v5 v47 v2_0 v9_0 k) (by kernel_rfl) (f18t15 N (K := seqK (fun σ => f18i N (f18c 863) f18p16 σ (joinK (some f18l10) K)) (joinK (some f18l10) K)) ..) (fx6 fun v49 v0 v50 v51 v2_0 v9_0 => f18t16 N v49 v0 v50 v51 v2_0 v9_0 K) (by kernel_rfl)
theorem f18t19 N v0 v5 v47 v2_0 v9_0 (K : KT ρ) : f18i N (f18c 479) .n (f18s6 v0 v5 v47 v2_0 v9_0) (joinK (some f18l10) K) =
  impl_ParseLaurent.Z19 N v0 v5 v47 v2_0 v9_0 (fun v9_1 v0 v2_0 v9_0 => K .nrm (f18s10 v9_1 v0 v2_0 v9_0)) := by kernel_rfl
noncomputable def f18p13 : Plan := .mk none none f18p14 .n
theorem f18t13 N v0 v5 v47 v2_0 v9_0 (K : KT ρ) : f18i N (f18c 223) f18p13 (f18s6 v0 v5 v47 v2_0 v9_0) (joinK (some f18l10) K) =
  impl_ParseLaurent.Z13 N v0 v5 v47 v2_0 v9_0 (fun v9_1 v0 v2_0 v9_0 => K .nrm (f18s10 v9_1 v0 v2_0 v9_0)) (fun v2_1 v3 v2_0 => K .ret (f18s11 v2_1 v3 v2_0)) :=
 viaCondS (x := .tmp 47) (t := v47) (by kernel_rfl) (f18t14 N (K := K) ..) (f18t19 N (K := K) ..) (by kernel_rfl)
noncomputable def f18p11 : Plan := .mk (some f18l6) none .n f18p13
theorem f18t11 N v0 v5 v2_0 v9_0 (K : KT ρ) : f18i N (f18c 95) f18p11 (f18s5 v0 v5 v2_0 v9_0) (joinK (some f18l10) K) =
  impl_ParseLaurent.Z11 N v0 v5 v2_0 v9_0 (fun v9_1 v0 v2_0 v9_0 => K .nrm (f18s10 v9_1 v0 v2_0 v9_0)) (fun v2_1 v3 v2_0 => K .ret (f18s11 v2_1 v3 v2_0)) :=
 viaSeqS (fun k => impl_ParseLaurent.Z12 N v0 v5 v2_0 v9_0 k) (by kernel_rfl) (f18t12 N (K := seqK (fun σ => f18i N (f18c 223) f18p13 σ (joinK (some f18l10) K)) (joinK (some f18l10) K)) ..) (fx5 fun v0 v5 v47 v2_0 v9_0 => f18t13 N v0 v5 v47 v2_0 v9_0 K) (by kernel_rfl)
theorem f18t20 N v9_1 v0 v2_0 v9_0 (K : KT ρ) : f18i N (f18c 127) .n (f18s10 v9_1 v0 v2_0 v9_0) (joinK (some f18lE) K) =
  impl_ParseLaurent.Z20 N v9_1 v0 v2_0 v9_0 (fun v2_1 v3 v2_0 => K .ret (f18s11 v2_1 v3 v2_0)) := by kernel_rfl
noncomputable def f18p10 : Plan := .mk (some f18l10) none f18p11 .n
theorem f18t10 N v0 v5 v2_0 v9_0 (K : KT ρ) : f18i N (f18c 63) f18p10 (f18s5 v0 v5 v2_0 v9_0) (joinK (some f18lE) K) =
  impl_ParseLaurent.Z10 N v0 v5 v2_0 v9_0 (fun v2_1 v3 v2_0 => K .ret (f18s11 v2_1 v3 v2_0)) :=
 viaSeqS (fun k => impl_ParseLaurent.Z11 N v0 v5 v2_0 v9_0 k (fun v2_1 v3 v2_0 => K .ret (f18s11 v2_1 v3 v2_0))) (by kernel_rfl) (f18t11 N (K := seqK (fun σ => f18i N (f18c 127) .n σ (joinK (some f18lE) K)) (joinK (some f18lE) K)) ..) (fx4 fun v9_1 v0 v2_0 v9_0 => f18t20 N v9_1 v0 v2_0 v9_0 K) (by kernel_rfl)
noncomputable def f18p8 : Plan := .mk (some f18l5) none .n f18p10
theorem f18t8 N v7 v0 v5 v2_0 (K : KT ρ) : f18i N (f18c 31) f18p8 (f18s4 v7 v0 v5 v2_0) (joinK (some f18lE) K) =
  impl_ParseLaurent.Z8 N v7 v0 v5 v2_0 (fun v2_1 v3 v2_0 => K .ret (f18s11 v2_1 v3 v2_0)) :=
 viaSeqS (fun k => impl_ParseLaurent.Z9 N v7 v0 v5 v2_0 k) (by kernel_rfl) (f18t9 N (K := seqK (fun σ => f18i N (f18c 63) f18p10 σ (joinK (some f18lE) K)) (joinK (some f18lE) K)) ..) (fx4 fun v0 v5 v2_0 v9_0 => f18t10 N v0 v5 v2_0 v9_0 K) (by kernel_rfl)
noncomputable def f18p6 : Plan := .mk (some f18l4) none .n f18p8
theorem f18t6 N v7 v0 v5 v6 v8 v2_0 (K : KT ρ) : f18i N (f18c 15) f18p6 (f18s3 v7 v0 v5 v6 v8 v2_0) (joinK (some f18lE) K) =
  impl_ParseLaurent.Z6 N v7 v0 v5 v6 v8 v2_0 (fun v2_1 v3 v2_0 => K .ret (f18s11 v2_1 v3 v2_0)) :=
 viaSeqS (fun k => impl_ParseLaurent.Z7 N v7 v0 v5 v6 v8 v2_0 k (fun v2_1 v3 v2_0 => K .ret (f18s11 v2_1 v3 v2_0))) (by kernel_rfl) (f18t7 N (K := seqK (fun σ => f18i N (f18c 31) f18p8 σ (joinK (some f18lE) K)) (joinK (some f18lE) K)) ..) (fx4 fun v7 v0 v5 v2_0 => f18t8 N v7 v0 v5 v2_0 K) (by kernel_rfl)
noncomputable def f18p4 : Plan := .mk (some f18l3) none .n f18p6
theorem f18t4 N v0 v4 v5 v6 v2_0 (K : KT ρ) : f18i N (f18c 7) f18p4 (f18s2 v0 v4 v5 v6 v2_0) (joinK (some f18lE) K) =
  impl_ParseLaurent.Z4 N v0 v4 v5 v6 v2_0 (fun v2_1 v3 v2_0 => K .ret (f18s11 v2_1 v3 v2_0)) :=
 viaSeqS (fun k => impl_ParseLaurent.Z5 N v0 v4 v5 v6 v2_0 k) (by kernel_rfl) (f18t5 N (K := seqK (fun σ => f18i N (f18c 15) f18p6 σ (joinK (some f18lE) K)) (joinK (some f18lE) K)) ..) (fx6 fun v7 v0 v5 v6 v8 v2_0 => f18t6 N v7 v0 v5 v6 v8 v2_0 K) (by kernel_rfl)
noncomputable def f18p2 : Plan := .mk (some f18l2) none .n f18p4
theorem f18t2 N v0 v2_0 (K : KT ρ) : f18i N (f18c 3) f18p2 (f18s1 v0 v2_0) (joinK (some f18lE) K) =
  impl_ParseLaurent.Z2 N v0 v2_0 (fun v2_1 v3 v2_0 => K .ret (f18s11 v2_1 v3 v2_0)) :=
 viaSeqS (fun k => impl_ParseLaurent.Z3 N v0 v2_0 k) (by kernel_rfl) (f18t3 N (K := seqK (fun σ => f18i N (f18c 7) f18p4 σ (joinK (some f18lE) K)) (joinK (some f18lE) K)) ..) (fx5 fun v0 v4 v5 v6 v2_0 => f18t4 N v0 v4 v5 v6 v2_0 K) (by kernel_rfl)
noncomputable def f18p0 : Plan := .mk (some f18l1) none .n f18p2
theorem f18t0 N v0 (K : KT ρ) : f18i N (f18c 1) f18p0 (f18s0 v0) (joinK (some f18lE) K) =
  impl_ParseLaurent.Z0 N v0 (fun v2_1 v3 v2_0 => K .ret (f18s11 v2_1 v3 v2_0)) :=
 viaSeqS (fun k => impl_ParseLaurent.Z1 N v0 k) (by kernel_rfl) (f18t1 N (K := seqK (fun σ => f18i N (f18c 3) f18p2 σ (joinK (some f18lE) K)) (joinK (some f18lE) K)) ..) (fx2 fun v0 v2_0 => f18t2 N v0 v2_0 K) (by kernel_rfl)
theorem f18m (N : Nat) (v0 : ByteArray) : f18i N (f18c 1) f18p0 (f18s0 v0) (joinK (some f18lE) (finK tab f18sig Tryd.f18.results.toList)) = impl_ParseLaurent.Z0 N v0 (fun v2_1 v3 v2_0 => some ((), ((v2_0, v2_1), (v3, ())))) :=
  (f18t0 N v0 (finK tab f18sig Tryd.f18.results.toList)).trans (by kernel_rfl)
theorem f18ok (h : impl_ParseLaurent.Spec) : EntryOk Tryd.prog 18 e18 :=
  entry_of_code (sig := f18sig) (c := (f18c 1)) (pl := f18p0) (je := (some f18lE)) (B := f18B) Tryd.func18 (by kernel_rfl) (by kernel_rfl) (by kernel_rfl) tabOk f18GOk (by kernel_rfl) (by kernel_rfl) (by kernel_rfl) (by kernel_rfl) fun X hb hp => by
    obtain ⟨v0, _⟩ := X
    obtain ⟨N, h⟩ := h v0 hp
    exact ⟨N, (f18m N v0).trans (h N (Nat.le_refl N))⟩
theorem e18ok : EntryOk Tryd.prog 18 e18 := f18ok impl_ParseLaurent.ok
end Go.Fw
namespace Go.Fw
variable {ρ : Type}
open Go.Proofs
noncomputable def f9sig : Sig := ⟨[⟨.sl 3 (.int .i64), false, false⟩, ⟨.sl 3 (.int .i64), false, false⟩], [⟨.bool, false, false⟩]⟩
noncomputable def e9 : Entry := ⟨f9sig, none, fun X => ((), ((laws_eqIntS.g X.1 X.2.1), ()))⟩
noncomputable def f9G : Gm := emptyG
theorem f9GOk : GOk Tryd.prog f9G := GOk.nil
noncomputable def f9lE : Clean := ⟨[], [], [], [], []⟩
noncomputable def f9s0 (v0 v1 : LI) : St := initSt f9sig.ps (v0, (v1, ()))
noncomputable def f9s1 (v0 v1 : LI) : St := stOf [(0, .c (.sn 3 tI v0 none)), (1, .c (.sn 3 tI v1 none))] [] []
noncomputable def f9l1 : Clean := ⟨[0, 1], [], [], [], []⟩
noncomputable def f9s2 (v0 v1 : LI) (v5 : Int) : St := stOf [(0, .c (.sn 3 tI v0 none)), (1, .c (.sn 3 tI v1 none)), (5, xi v5)] [] []
noncomputable def f9l2 : Clean := ⟨[0, 1, 5], [], [], [], []⟩
noncomputable def f9s3  : St := stOf [] [] []
noncomputable def f9l3 : Clean := ⟨[], [], [], [], []⟩
noncomputable def f9s4 (v4 : Bool) : St := stOf [(4, xB v4)] [] []
noncomputable def f9l4 : Clean := ⟨[4], [], [], [], []⟩
noncomputable def f9B : Nat → Option Clean := lookL [(0, f9l3), (1000000, f9l4)]
noncomputable abbrev f9i {ρ : Type} (N : Nat) (c : Code) (p : Plan) (σ : St) (K : KT ρ) : Option ρ := iCode f9G tab f9B N c p σ K
noncomputable def f9c (n : Nat) : Code := codeN 99 (bodyOf Tryd.f9) n
theorem f9t1 N v0 v1 (K : KT ρ) : f9i N (f9c 2) .n (f9s0 v0 v1) (joinK (some f9l1) K) =
  laws_eqIntS.Z1 N v0 v1 (fun v0 v1 => K .nrm (f9s1 v0 v1)) := by kernel_rfl
theorem f9t3 N v0 v1 (K : KT ρ) : f9i N (f9c 5) .n (f9s1 v0 v1) (joinK (some f9l1) K) =
  laws_eqIntS.Z3 N v0 v1 (fun v0 v1 => K .nrm (f9s1 v0 v1)) (fun v4 => K .ret (f9s4 v4)) := by kernel_rfl
theorem f9t6 N v0 v1 (K : KT ρ) : f9i N (f9c 19) .n (f9s1 v0 v1) (joinK (some f9l2) K) =
  laws_eqIntS.Z6 N v0 v1 (fun v0 v1 v5 => K .nrm (f9s2 v0 v1 v5)) := by kernel_rfl
theorem f9t9 N v0 v1 v5 (K : KT ρ) : f9i N (f9c 75) .n (f9s2 v0 v1 v5) (joinK (some f9l2) K) =
  laws_eqIntS.Z9 N v0 v1 v5 (fun v0 v1 v5 => K .nrm (f9s2 v0 v1 v5)) (K (.exit 0) f9s3) (fun v4 => K .ret (f9s4 v4)) := by kernel_rfl
noncomputable def f9p8 : Plan := .mk none (some f9l2) .n .n
noncomputable abbrev f9w8 {ρ : Type} (N M : Nat) (σ : St) (K : KT ρ) : Option ρ := loopC (fun σ K => f9i N (f9c 75) .n σ K) f9l2 M σ K
theorem f9t8L {ρ : Type} (N : Nat) (K : KT ρ) : ∀ (M : Nat) (v0 v1 : LI) (v5 : Int), f9w8 N M (f9s2 v0 v1 v5) K =
  laws_eqIntS.Z8L N (K (.exit 0) f9s3) (fun v4 => K .ret (f9s4 v4)) M v0 v1 v5
  | 0, _, _, _ => rfl
  | M + 1, v0, v1, v5 => viaRoundS (fun k => laws_eqIntS.Z9 N v0 v1 v5 k (K (.exit 0) f9s3) (fun v4 => K .ret (f9s4 v4))) (f9t9 N (K := seqK (fun σ => f9w8 N M σ K) K) ..) (fx3 fun v0 v1 v5 => f9t8L N K M v0 v1 v5) (by kernel_rfl)
theorem f9t8 N v0 v1 v5 (K : KT ρ) : f9i N (f9c 43) f9p8 (f9s2 v0 v1 v5) (joinK (some f9l3) K) =
  laws_eqIntS.Z8 N v0 v1 v5 (K (.exit 0) f9s3) (fun v4 => K .ret (f9s4 v4)) :=
 viaLoopS (by kernel_rfl) (f9t8L N (joinK (some f9l3) K) N v0 v1 v5) (by kernel_rfl)
noncomputable def f9p7 : Plan := .mk (some f9l3) none f9p8 .n
theorem f9t7 N v0 v1 v5 (K : KT ρ) : f9i N (f9c 27) f9p7 (f9s2 v0 v1 v5) (joinK (some f9l3) K) =
  laws_eqIntS.Z7 N v0 v1 v5 (K .nrm f9s3) (fun v4 => K .ret (f9s4 v4)) :=
 viaBlockS (by kernel_rfl) (f9t8 N (K := blockK 0 (joinK (some f9l3) K)) ..) (by kernel_rfl)
noncomputable def f9p5 : Plan := .mk (some f9l2) none .n f9p7
theorem f9t5 N v0 v1 (K : KT ρ) : f9i N (f9c 11) f9p5 (f9s1 v0 v1) (joinK (some f9l3) K) =
  laws_eqIntS.Z5 N v0 v1 (K .nrm f9s3) (fun v4 => K .ret (f9s4 v4)) :=
 viaSeqS (fun k => laws_eqIntS.Z6 N v0 v1 k) (by kernel_rfl) (f9t6 N (K := seqK (fun σ => f9i N (f9c 27) f9p7 σ (joinK (some f9l3) K)) (joinK (some f9l3) K)) ..) (fx3 fun v0 v1 v5 => f9t7 N v0 v1 v5 K) (by kernel_rfl)
theorem f9t10 N  (K : KT ρ) : f9i N (f9c 15) .n f9s3 (joinK (some f9lE) K) =
  laws_eqIntS.Z10 N (fun v4 => K .ret (f9s4 v4)) := by kernel_rfl
noncomputable def f9p4 : Plan := .mk (some f9l3) none f9p5 .n
theorem f9t4 N v0 v1 (K : KT ρ) : f9i N (f9c 7) f9p4 (f9s1 v0 v1) (joinK (some f9lE) K) =
  laws_eqIntS.Z4 N v0 v1 (fun v4 => K .ret (f9s4 v4)) :=
 viaSeqS (fun k => laws_eqIntS.Z5 N v0 v1 k (fun v4 => K .ret (f9s4 v4))) (by kernel_rfl) (f9t5 N (K := seqK (fun σ => f9i N (f9c 15) .n σ (joinK (some f9lE) K)) (joinK (some f9lE) K)) ..) (f9t10 N K) (by kernel_rfl)
noncomputable def f9p2 : Plan := .mk (some f9l1) none .n f9p4
theorem f9t2 N v0 v1 (K : KT ρ) : f9i N (f9c 3) f9p2 (f9s1 v0 v1) (joinK (some f9lE) K) =
  laws_eqIntS.Z2 N v0 v1 (fun v4 => K .ret (f9s4 v4)) :=
 viaSeqS (fun k => laws_eqIntS.Z3 N v0 v1 k (fun v4 => K .ret (f9s4 v4))) (by kernel_rfl) (f9t3 N (K := seqK (fun σ => f9i N (f9c 7) f9p4 σ (joinK (some f9lE) K)) (joinK (some f9lE) K)) ..) (fx2 fun v0 v1 => f9t4 N v0 v1 K) (by kernel_rfl)
noncomputable def f9p0 : Plan := .mk (some f9l1) none .n f9p2
theorem f9t0 N v0 v1 (K : KT ρ) : f9i N (f9c 1) f9p0 (f9s0 v0 v1) (joinK (some f9lE) K) =
  laws_eqIntS.Z0 N v0 v1 (fun v4 => K .ret (f9s4 v4)) :=
 viaSeqS (fun k => laws_eqIntS.Z1 N v0 v1 k) (by kernel_rfl) (f9t1 N (K := seqK (fun σ => f9i N (f9c 3) f9p2 σ (joinK (some f9lE) K)) (joinK (some f9lE) K)) ..) (fx2 fun v0 v1 => f9t2 N v0 v1 K) (by kernel_rfl)
theorem f9m (N : Nat) (v0 v1 : LI) : f9i N (f9c 1) f9p0 (f9s0 v0 v1) (joinK (some f9lE) (finK tab f9sig Tryd.f9.results.toList)) = laws_eqIntS.Z0 N v0 v1 (fun v4 => some ((), (v4, ()))) :=
  (f9t0 N v0 v1 (finK tab f9sig Tryd.f9.results.toList)).trans (by kernel_rfl)
theorem f9ok (h : laws_eqIntS.Spec) : EntryOk Tryd.prog 9 e9 :=
  entry_of_code (sig := f9sig) (c := (f9c 1)) (pl := f9p0) (je := (some f9lE)) (B := f9B) Tryd.func9 (by kernel_rfl) (by kernel_rfl) (by kernel_rfl) tabOk f9GOk (by kernel_rfl) (by kernel_rfl) (by kernel_rfl) (by kernel_rfl) fun X hb hp => by
    obtain ⟨v0, v1, _⟩ := X
    obtain ⟨N, h⟩ := h v0 v1 hb.1 hb.2.1
    exact ⟨N, (f9m N v0 v1).trans (h N (Nat.le_refl N))⟩
theorem e9ok : EntryOk Tryd.prog 9 e9 := f9ok laws_eqIntS.ok
end Go.Fw
namespace Go.Fw
variable {ρ : Type}
open Go.Proofs
noncomputable def f66sig : Sig := ⟨[⟨.pair (.sl 3 (.int .i64)) (.int .i64), true, false⟩, ⟨.pair (.sl 3 (.int .i64)) (.int .i64), true, false⟩], [⟨.bool, false, false⟩]⟩
noncomputable def e66 : Entry := ⟨f66sig, none, fun X => ((), ((laws_eqTerm.g X.1 X.2.1), ()))⟩
noncomputable def f66G : Gm := addG emptyG 9 e9
theorem f66GOk : GOk Tryd.prog f66G := (GOk.nil).add e9ok (by kernel_rfl)
noncomputable def f66lE : Clean := ⟨[], [], [], [], []⟩
noncomputable def f66s0 (v0 v1 : LI × Int) : St := initSt f66sig.ps (v0, (v1, ()))
noncomputable def f66s1 (v4 : Bool) : St := stOf [(4, xB v4)] [] []
noncomputable def f66l1 : Clean := ⟨[4], [], [], [], []⟩
noncomputable def f66B : Nat → Option Clean := lookL [(1000000, f66l1)]
noncomputable abbrev f66i {ρ : Type} (N : Nat) (c : Code) (p : Plan) (σ : St) (K : KT ρ) : Option ρ := iCode f66G tab f66B N c p σ K
noncomputable def f66c (n : Nat) : Code := codeN 99 (bodyOf Tryd.f66) n
theorem f66t0 N v0 v1 (K : KT ρ) : f66i N (f66c 1) .n (f66s0 v0 v1) (joinK (some f66lE) K) =
  laws_eqTerm.Z0 N v0 v1 (fun v4 => K .ret (f66s1 v4)) := by kernel_rfl
theorem f66m (N : Nat) (v0 v1 : LI × Int) : f66i N (f66c 1) .n (f66s0 v0 v1) (joinK (some f66lE) (finK tab f66sig Tryd.f66.results.toList)) = laws_eqTerm.Z0 N v0 v1 (fun v4 => some ((), (v4, ()))) :=
  (f66t0 N v0 v1 (finK tab f66sig Tryd.f66.results.toList)).trans (by kernel_rfl)
theorem f66ok (h : laws_eqTerm.Spec) : EntryOk Tryd.prog 66 e66 :=
  entry_of_code (sig := f66sig) (c := (f66c 1)) (pl := .n) (je := (some f66lE)) (B := f66B) Tryd.func66 (by kernel_rfl) (by kernel_rfl) (by kernel_rfl) tabOk f66GOk (by kernel_rfl) (by kernel_rfl) (by kernel_rfl) (by kernel_rfl) fun X hb hp => by
    obtain ⟨v0, v1, _⟩ := X
    obtain ⟨N, h⟩ := h v0 v1 hb.1 hb.2.1
    exact ⟨N, (f66m N v0 v1).trans (h N (Nat.le_refl N))⟩
theorem e66ok : EntryOk Tryd.prog 66 e66 := f66ok laws_eqTerm.ok
end Go.Fw
namespace Go.Fw
variable {ρ : Type}
open Go.Proofs
noncomputable def f40sig : Sig := ⟨[⟨.sl 61 (.pair (.sl 3 (.int .i64)) (.int .i64)), false, false⟩, ⟨.sl 61 (.pair (.sl 3 (.int .i64)) (.int .i64)), false, false⟩], [⟨.bool, false, false⟩]⟩
noncomputable def e40 : Entry := ⟨f40sig, none, fun X => ((), ((laws_eqTermS.g X.1 X.2.1), ()))⟩
noncomputable def f40G : Gm := addG emptyG 66 e66
theorem f40GOk : GOk Tryd.prog f40G := (GOk.nil).add e66ok (by kernel_rfl)
noncomputable def f40lE : Clean := ⟨[], [], [], [], []⟩
noncomputable def f40s0 (v0 v1 : List (LI × Int)) : St := initSt f40sig.ps (v0, (v1, ()))
noncomputable def f40s1 (v0 v1 : List (LI × Int)) : St := stOf [(0, .c (.sn 61 (.pair (.sl 3 tI) tI) v0 none)), (1, .c (.sn 61 (.pair (.sl 3 tI) tI) v1 none))] [] []
noncomputable def f40l1 : Clean := ⟨[0, 1], [], [], [], []⟩
noncomputable def f40s2 (v0 v1 : List (LI × Int)) (v5 : Int) : St := stOf [(0, .c (.sn 61 (.pair (.sl 3 tI) tI) v0 none)), (1, .c (.sn 61 (.pair (.sl 3 tI) tI) v1 none)), (5, xi v5)] [] []
noncomputable def f40l2 : Clean := ⟨[0, 1, 5], [], [], [], []⟩
noncomputable def f40s3  : St := stOf [] [] []
noncomputable def f40l3 : Clean := ⟨[], [], [], [], []⟩
noncomputable def f40s4 (v4 : Bool) : St := stOf [(4, xB v4)] [] []
noncomputable def f40l4 : Clean := ⟨[4], [], [], [], []⟩
noncomputable def f40B : Nat → Option Clean := lookL [(0, f40l3), (1000000, f40l4)]
noncomputable abbrev f40i {ρ : Type} (N : Nat) (c : Code) (p : Plan) (σ : St) (K : KT ρ) : Option ρ := iCode f40G tab f40B N c p σ K
noncomputable def f40c (n : Nat) : Code := codeN 99 (bodyOf Tryd.f40) n
theorem f40t1 N v0 v1 (K : KT ρ) : f40i N (f40c 2) .n (f40s0 v0 v1) (joinK (some f40l1) K) =
  laws_eqTermS.Z1 N v0 v1 (fun v0 v1 => K .nrm (f40s1 v0 v1)) := by kernel_rfl
theorem f40t3 N v0 v1 (K : KT ρ) : f40i N (f40c 5) .n (f40s1 v0 v1) (joinK (some f40l1) K) =
  laws_eqTermS.Z3 N v0 v1 (fun v0 v1 => K .nrm (f40s1 v0 v1)) (fun v4 => K .ret (f40s4 v4)) := by kernel_rfl
theorem f40t6 N v0 v1 (K : KT ρ) : f40i N (f40c 19) .n (f40s1 v0 v1) (joinK (some f40l2) K) =
  laws_eqTermS.Z6 N v0 v1 (fun v0 v1 v5 => K .nrm (f40s2 v0 v1 v5)) := by kernel_rfl
theorem f40t9 N v0 v1 v5 (K : KT ρ) : f40i N (f40c 75) .n (f40s2 v0 v1 v5) (joinK (some f40l2) K) =
  laws_eqTermS.Z9 N v0 v1 v5 (fun v0 v1 v5 => K .nrm (f40s2 v0 v1 v5)) (K (.exit 0) f40s3) (fun v4 => K .ret (f40s4 v4)) := by kernel_rfl
noncomputable def f40p8 : Plan := .mk none (some f40l2) .n .n
noncomputable abbrev f40w8 {ρ : Type} (N M : Nat) (σ : St) (K : KT ρ) : Option ρ := loopC (fun σ K => f40i N (f40c 75) .n σ K) f40l2 M σ K
theorem f40t8L {ρ : Type} (N : Nat) (K : KT ρ) : ∀ (M : Nat) (v0 v1 : List (LI × Int)) (v5 : Int), f40w8 N M (f40s2 v0 v1 v5) K =
  laws_eqTermS.Z8L N (K (.exit 0) f40s3) (fun v4 => K .ret (f40s4 v4)) M v0 v1 v5
  | 0, _, _, _ => rfl
  | M + 1, v0, v1, v5 => viaRoundS (fun k => laws_eqTermS.Z9 N v0 v1 v5 k (K (.exit 0) f40s3) (fun v4 => K .ret (f40s4 v4))) (f40t9 N (K := seqK (fun σ => f40w8 N M σ K) K) ..) (fx3 fun v0 v1 v5 => f40t8L N K M v0 v1 v5) (by kernel_rfl)
theorem f40t8 N v0 v1 v5 (K : KT ρ) : f40i N (f40c 43) f40p8 (f40s2 v0 v1 v5) (joinK (some f40l3) K) =
  laws_eqTermS.Z8 N v0 v1 v5 (K (.exit 0) f40s3) (fun v4 => K .ret (f40s4 v4)) :=
 viaLoopS (by kernel_rfl) (f40t8L N (joinK (some f40l3) K) N v0 v1 v5) (by kernel_rfl)
noncomputable def f40p7 : Plan := .mk (some f40l3) none f40p8 .n
theorem f40t7 N v0 v1 v5 (K : KT ρ) : f40i N (f40c 27) f40p7 (f40s2 v0 v1 v5) (joinK (some f40l3) K) =
  laws_eqTermS.Z7 N v0 v1 v5 (K .nrm f40s3) (fun v4 => K .ret (f40s4 v4)) :=
 viaBlockS (by kernel_rfl) (f40t8 N (K := blockK 0 (joinK (some f40l3) K)) ..) (by kernel_rfl)
noncomputable def f40p5 : Plan := .mk (some f40l2) none .n f40p7
theorem f40t5 N v0 v1 (K : KT ρ) : f40i N (f40c 11) f40p5 (f40s1 v0 v1) (joinK (some f40l3) K) =
  laws_eqTermS.Z5 N v0 v1 (K .nrm f40s3) (fun v4 => K .ret (f40s4 v4)) :=
 viaSeqS (fun k => laws_eqTermS.Z6 N v0 v1 k) (by kernel_rfl) (f40t6 N (K := seqK (fun σ => f40i N (f40c 27) f40p7 σ (joinK (some f40l3) K)) (joinK (some f40l3) K)) ..) (fx3 fun v0 v1 v5 => f40t7 N v0 v1 v5 K) (by kernel_rfl)
theorem f40t10 N  (K : KT ρ) : f40i N (f40c 15) .n f40s3 (joinK (some f40lE) K) =
  laws_eqTermS.Z10 N (fun v4 => K .ret (f40s4 v4)) := by kernel_rfl
noncomputable def f40p4 : Plan := .mk (some f40l3) none f40p5 .n
theorem f40t4 N v0 v1 (K : KT ρ) : f40i N (f40c 7) f40p4 (f40s1 v0 v1) (joinK (some f40lE) K) =
  laws_eqTermS.Z4 N v0 v1 (fun v4 => K .ret (f40s4 v4)) :=
 viaSeqS (fun k => laws_eqTermS.Z5 N v0 v1 k (fun v4 => K .ret (f40s4 v4))) (by kernel_rfl) (f40t5 N (K := seqK (fun σ => f40i N (f40c 15) .n σ (joinK (some f40lE) K)) (joinK (some f40lE) K)) ..) (f40t10 N K) (by kernel_rfl)
noncomputable def f40p2 : Plan := .mk (some f40l1) none .n f40p4
theorem f40t2 N v0 v1 (K : KT ρ) : f40i N (f40c 3) f40p2 (f40s1 v0 v1) (joinK (some f40lE) K) =
  laws_eqTermS.Z2 N v0 v1 (fun v4 => K .ret (f40s4 v4)) :=
 viaSeqS (fun k => laws_eqTermS.Z3 N v0 v1 k (fun v4 => K .ret (f40s4 v4))) (by kernel_rfl) (f40t3 N (K := seqK (fun σ => f40i N (f40c 7) f40p4 σ (joinK (some f40lE) K)) (joinK (some f40lE) K)) ..) (fx2 fun v0 v1 => f40t4 N v0 v1 K) (by kernel_rfl)
noncomputable def f40p0 : Plan := .mk (some f40l1) none .n f40p2
theorem f40t0 N v0 v1 (K : KT ρ) : f40i N (f40c 1) f40p0 (f40s0 v0 v1) (joinK (some f40lE) K) =
  laws_eqTermS.Z0 N v0 v1 (fun v4 => K .ret (f40s4 v4)) :=
 viaSeqS (fun k => laws_eqTermS.Z1 N v0 v1 k) (by kernel_rfl) (f40t1 N (K := seqK (fun σ => f40i N (f40c 3) f40p2 σ (joinK (some f40lE) K)) (joinK (some f40lE) K)) ..) (fx2 fun v0 v1 => f40t2 N v0 v1 K) (by kernel_rfl)
theorem f40m (N : Nat) (v0 v1 : List (LI × Int)) : f40i N (f40c 1) f40p0 (f40s0 v0 v1) (joinK (some f40lE) (finK tab f40sig Tryd.f40.results.toList)) = laws_eqTermS.Z0 N v0 v1 (fun v4 => some ((), (v4, ()))) :=
  (f40t0 N v0 v1 (finK tab f40sig Tryd.f40.results.toList)).trans (by kernel_rfl)
theorem f40ok (h : laws_eqTermS.Spec) : EntryOk Tryd.prog 40 e40 :=
  entry_of_code (sig := f40sig) (c := (f40c 1)) (pl := f40p0) (je := (some f40lE)) (B := f40B) Tryd.func40 (by kernel_rfl) (by kernel_rfl) (by kernel_rfl) tabOk f40GOk (by kernel_rfl) (by kernel_rfl) (by kernel_rfl) (by kernel_rfl) fun X hb hp => by
    obtain ⟨v0, v1, _⟩ := X
    obtain ⟨N, h⟩ := h v0 v1 hb.1 hb.2.1
    exact ⟨N, (f40m N v0 v1).trans (h N (Nat.le_refl N))⟩
theorem e40ok : EntryOk Tryd.prog 40 e40 := f40ok laws_eqTermS.ok
end Go.Fw
namespace Go.Fw
variable {ρ : Type}
open Go.Proofs
noncomputable def f19sig : Sig := ⟨[⟨.pair (.int .i64) (.sl 61 (.pair (.sl 3 (.int .i64)) (.int .i64))), true, false⟩, ⟨.pair (.int .i64) (.sl 61 (.pair (.sl 3 (.int .i64)) (.int .i64))), true, false⟩], [⟨.bool, false, false⟩]⟩
noncomputable def e19 : Entry := ⟨f19sig, none, fun X => ((), ((laws_eqLaurent.g X.1 X.2.1), ()))⟩
noncomputable def f19G : Gm := addG emptyG 40 e40
theorem f19GOk : GOk Tryd.prog f19G := (GOk.nil).add e40ok (by kernel_rfl)
noncomputable def f19lE : Clean := ⟨[], [], [], [], []⟩
noncomputable def f19s0 (v0 v1 : Int × List (LI × Int)) : St := initSt f19sig.ps (v0, (v1, ()))
noncomputable def f19s1 (v4 : Bool) : St := stOf [(4, xB v4)] [] []
noncomputable def f19l1 : Clean := ⟨[4], [], [], [], []⟩
noncomputable def f19B : Nat → Option Clean := lookL [(1000000, f19l1)]
noncomputable abbrev f19i {ρ : Type} (N : Nat) (c : Code) (p : Plan) (σ : St) (K : KT ρ) : Option ρ := iCode f19G tab f19B N c p σ K
noncomputable def f19c (n : Nat) : Code := codeN 99 (bodyOf Tryd.f19) n
theorem f19t0 N v0 v1 (K : KT ρ) : f19i N (f19c 1) .n (f19s0 v0 v1) (joinK (some f19lE) K) =
  laws_eqLaurent.Z0 N v0 v1 (fun v4 => K .ret (f19s1 v4)) := by kernel_rfl
theorem f19m (N : Nat) (v0 v1 : Int × List (LI × Int)) : f19i N (f19c 1) .n (f19s0 v0 v1) (joinK (some f19lE) (finK tab f19sig Tryd.f19.results.toList)) = laws_eqLaurent.Z0 N v0 v1 (fun v4 => some ((), (v4, ()))) :=
  (f19t0 N v0 v1 (finK tab f19sig Tryd.f19.results.toList)).trans (by kernel_rfl)
theorem f19ok (h : laws_eqLaurent.Spec) : EntryOk Tryd.prog 19 e19 :=
  entry_of_code (sig := f19sig) (c := (f19c 1)) (pl := .n) (je := (some f19lE)) (B := f19B) Tryd.func19 (by kernel_rfl) (by kernel_rfl) (by kernel_rfl) tabOk f19GOk (by kernel_rfl) (by kernel_rfl) (by kernel_rfl) (by kernel_rfl) fun X hb hp => by
    obtain ⟨v0, v1, _⟩ := X
    obtain ⟨N, h⟩ := h v0 v1 hb.1 hb.2.1
    exact ⟨N, (f19m N v0 v1).trans (h N (Nat.le_refl N))⟩
theorem e19ok : EntryOk Tryd.prog 19 e19 := f19ok laws_eqLaurent.ok
end Go.Fw
namespace Go.Fw
variable {ρ : Type}
open Go.Proofs
noncomputable def f10sig : Sig := ⟨[⟨.sl 3 (.int .i64), false, true⟩, ⟨.int .i64, false, false⟩], [⟨.int .i64, false, false⟩]⟩
noncomputable def e10 : Entry := ⟨f10sig, none, fun X => ((laws_markIntS.g X.1 X.2.1).1, ((laws_markIntS.g X.1 X.2.1).2, ()))⟩
noncomputable def f10G : Gm := emptyG
theorem f10GOk : GOk Tryd.prog f10G := GOk.nil
noncomputable def f10lE : Clean := ⟨[], [], [], [], []⟩
noncomputable def f10s0 (v0 : LI) (v1 : Int) : St := initSt f10sig.ps (v0, (v1, ()))
noncomputable def f10s1 (v0 : LI) (v1 : Int) : St := stOf [(0, xo 1000000), (1, xi v1), (100000, xo 1000000)] [] [(1000000, (⟨3, .int .i64, v0, true, false⟩ : Row))]
noncomputable def f10l1 : Clean := ⟨[0, 1, 100000], [], [], [], [(⟨false, 0, 0⟩, 1000000)]⟩
noncomputable def f10s2 (v0 : LI) (v1 v5 : Int) : St := stOf [(0, xo 1000000), (1, xi v1), (5, xi v5), (100000, xo 1000000)] [] [(1000000, (⟨3, .int .i64, v0, true, false⟩ : Row))]
noncomputable def f10l2 : Clean := ⟨[0, 1, 5, 100000], [], [], [], [(⟨false, 0, 0⟩, 1000000)]⟩
noncomputable def f10s3 (io100000 : LI) (v1 : Int) : St := stOf [(1, xi v1), (100000, xo 7400000)] [] [(7400000, (⟨3, .int .i64, io100000, true, false⟩ : Row))]
noncomputable def f10l3 : Clean := ⟨[1, 100000], [], [], [], [(⟨false, 100000, 0⟩, 7400000)]⟩
noncomputable def f10s4 (io100000 : LI) (v4 : Int) : St := stOf [(4, xi v4), (100000, xo 7400000)] [] [(7400000, (⟨3, .int .i64, io100000, true, false⟩ : Row))]
noncomputable def f10l4 : Clean := ⟨[4, 100000], [], [], [], [(⟨false, 100000, 0⟩, 7400000)]⟩
noncomputable def f10B : Nat → Option Clean := lookL [(0, f10l3), (1000000, f10l4)]
noncomputable abbrev f10i {ρ : Type} (N : Nat) (c : Code) (p : Plan) (σ : St) (K : KT ρ) : Option ρ := iCode f10G tab f10B N c p σ K
noncomputable def f10c (n : Nat) : Code := codeN 99 (bodyOf Tryd.f10) n
theorem f10t1 N v0 v1 (K : KT ρ) : f10i N (f10c 2) .n (f10s0 v0 v1) (joinK (some f10l1) K) =
  laws_markIntS.Z1 N v0 v1 (fun v0 v1 => K .nrm (f10s1 v0 v1)) := by kernel_rfl
theorem f10t4 N v0 v1 (K : KT ρ) : f10i N (f10c 9) .n (f10s1 v0 v1) (joinK (some f10l2) K) =
  laws_markIntS.Z4 N v0 v1 (fun v0 v1 v5 => K .nrm (f10s2 v0 v1 v5)) := by kernel_rfl
theorem f10t7 N v0 v1 v5 (K : KT ρ) : f10i N (f10c 37) .n (f10s2 v0 v1 v5) (joinK (some f10l2) K) =
  laws_markIntS.Z7 N v0 v1 v5 (fun v0 v1 v5 => K .nrm (f10s2 v0 v1 v5)) (fun io100000 v1 => K (.exit 0) (f10s3 io100000 v1)) := by kernel_rfl
noncomputable def f10p6 : Plan := .mk none (some f10l2) .n .n
noncomputable abbrev f10w6 {ρ : Type} (N M : Nat) (σ : St) (K : KT ρ) : Option ρ := loopC (fun σ K => f10i N (f10c 37) .n σ K) f10l2 M σ K
theorem f10t6L {ρ : Type} (N : Nat) (K : KT ρ) : ∀ (M : Nat) (v0 : LI) (v1 v5 : Int), f10w6 N M (f10s2 v0 v1 v5) K =
  laws_markIntS.Z6L N (fun io100000 v1 => K (.exit 0) (f10s3 io100000 v1)) M v0 v1 v5
  | 0, _, _, _ => rfl
  | M + 1, v0, v1, v5 => viaRoundS (fun k => laws_markIntS.Z7 N v0 v1 v5 k (fun io100000 v1 => K (.exit 0) (f10s3 io100000 v1))) (f10t7 N (K := seqK (fun σ => f10w6 N M σ K) K) ..) (fx3 fun v0 v1 v5 => f10t6L N K M v0 v1 v5) (by kernel_rfl)
theorem f10t6 N v0 v1 v5 (K : KT ρ) : f10i N (f10c 21) f10p6 (f10s2 v0 v1 v5) (joinK (some f10l3) K) =
  laws_markIntS.Z6 N v0 v1 v5 (fun io100000 v1 => K (.exit 0) (f10s3 io100000 v1)) :=
 viaLoopS (by kernel_rfl) (f10t6L N (joinK (some f10l3) K) N v0 v1 v5) (by kernel_rfl)
noncomputable def f10p5 : Plan := .mk (some f10l3) none f10p6 .n
theorem f10t5 N v0 v1 v5 (K : KT ρ) : f10i N (f10c 13) f10p5 (f10s2 v0 v1 v5) (joinK (some f10l3) K) =
  laws_markIntS.Z5 N v0 v1 v5 (fun io100000 v1 => K .nrm (f10s3 io100000 v1)) :=
 viaBlockS (by kernel_rfl) (f10t6 N (K := blockK 0 (joinK (some f10l3) K)) ..) (by kernel_rfl)
noncomputable def f10p3 : Plan := .mk (some f10l2) none .n f10p5
theorem f10t3 N v0 v1 (K : KT ρ) : f10i N (f10c 5) f10p3 (f10s1 v0 v1) (joinK (some f10l3) K) =
  laws_markIntS.Z3 N v0 v1 (fun io100000 v1 => K .nrm (f10s3 io100000 v1)) :=
 viaSeqS (fun k => laws_markIntS.Z4 N v0 v1 k) (by kernel_rfl) (f10t4 N (K := seqK (fun σ => f10i N (f10c 13) f10p5 σ (joinK (some f10l3) K)) (joinK (some f10l3) K)) ..) (fx3 fun v0 v1 v5 => f10t5 N v0 v1 v5 K) (by kernel_rfl)
theorem f10t8 N io100000 v1 (K : KT ρ) : f10i N (f10c 7) .n (f10s3 io100000 v1) (joinK (some f10lE) K) =
  laws_markIntS.Z8 N io100000 v1 (fun io100000 v4 => K .ret (f10s4 io100000 v4)) := by kernel_rfl
noncomputable def f10p2 : Plan := .mk (some f10l3) none f10p3 .n
theorem f10t2 N v0 v1 (K : KT ρ) : f10i N (f10c 3) f10p2 (f10s1 v0 v1) (joinK (some f10lE) K) =
  laws_markIntS.Z2 N v0 v1 (fun io100000 v4 => K .ret (f10s4 io100000 v4)) :=
 viaSeqS (fun k => laws_markIntS.Z3 N v0 v1 k) (by kernel_rfl) (f10t3 N (K := seqK (fun σ => f10i N (f10c 7) .n σ (joinK (some f10lE) K)) (joinK (some f10lE) K)) ..) (fx2 fun io100000 v1 => f10t8 N io100000 v1 K) (by kernel_rfl)
noncomputable def f10p0 : Plan := .mk (some f10l1) none .n f10p2
theorem f10t0 N v0 v1 (K : KT ρ) : f10i N (f10c 1) f10p0 (f10s0 v0 v1) (joinK (some f10lE) K) =
  laws_markIntS.Z0 N v0 v1 (fun io100000 v4 => K .ret (f10s4 io100000 v4)) :=
 viaSeqS (fun k => laws_markIntS.Z1 N v0 v1 k) (by kernel_rfl) (f10t1 N (K := seqK (fun σ => f10i N (f10c 3) f10p2 σ (joinK (some f10lE) K)) (joinK (some f10lE) K)) ..) (fx2 fun v0 v1 => f10t2 N v0 v1 K) (by kernel_rfl)
theorem f10m (N : Nat) (v0 : LI) (v1 : Int) : f10i N (f10c 1) f10p0 (f10s0 v0 v1) (joinK (some f10lE) (finK tab f10sig Tryd.f10.results.toList)) = laws_markIntS.Z0 N v0 v1 (fun io100000 v4 => some (io100000, (v4, ()))) :=
  (f10t0 N v0 v1 (finK tab f10sig Tryd.f10.results.toList)).trans (by kernel_rfl)
theorem f10ok (h : laws_markIntS.Spec) : EntryOk Tryd.prog 10 e10 :=
  entry_of_code (sig := f10sig) (c := (f10c 1)) (pl := f10p0) (je := (some f10lE)) (B := f10B) Tryd.func10 (by kernel_rfl) (by kernel_rfl) (by kernel_rfl) tabOk f10GOk (by kernel_rfl) (by kernel_rfl) (by kernel_rfl) (by kernel_rfl) fun X hb hp => by
    obtain ⟨v0, v1, _⟩ := X
    obtain ⟨N, h⟩ := h v0 v1 hb.1
    exact ⟨N, (f10m N v0 v1).trans (h N (Nat.le_refl N))⟩
theorem e10ok : EntryOk Tryd.prog 10 e10 := f10ok laws_markIntS.ok
end Go.Fw
namespace Go.Fw
variable {ρ : Type}
open Go.Proofs
noncomputable def f41sig : Sig := ⟨[⟨.sl 61 (.pair (.sl 3 (.int .i64)) (.int .i64)), false, true⟩, ⟨.int .i64, false, false⟩], [⟨.int .i64, false, false⟩]⟩
noncomputable def e41 : Entry := ⟨f41sig, none, fun X => ((laws_markTermS.g X.1 X.2.1).1, ((laws_markTermS.g X.1 X.2.1).2, ()))⟩
noncomputable def f41G : Gm := addG emptyG 10 e10
theorem f41GOk : GOk Tryd.prog f41G := (GOk.nil).add e10ok (by kernel_rfl)
noncomputable def f41lE : Clean := ⟨[], [], [], [], []⟩
noncomputable def f41s0 (v0 : List (LI × Int)) (v1 : Int) : St := initSt f41sig.ps (v0, (v1, ()))
noncomputable def f41s1 (v0 : List (LI × Int)) (v1 : Int) : St := stOf [(0, xo 1000000), (1, xi v1), (100000, xo 1000000)] [] [(1000000, (⟨61, .pair (.sl 3 tI) tI, v0, true, false⟩ : Row))]
noncomputable def f41l1 : Clean := ⟨[0, 1, 100000], [], [], [], [(⟨false, 0, 0⟩, 1000000)]⟩
noncomputable def f41s2 (v0 : List (LI × Int)) (v1 v5 : Int) : St := stOf [(0, xo 1000000), (1, xi v1), (5, xi v5), (100000, xo 1000000)] [] [(1000000, (⟨61, .pair (.sl 3 tI) tI, v0, true, false⟩ : Row))]
noncomputable def f41l2 : Clean := ⟨[0, 1, 5, 100000], [], [], [], [(⟨false, 0, 0⟩, 1000000)]⟩
noncomputable def f41s3 (io100000 : List (LI × Int)) (v1 : Int) : St := stOf [(1, xi v1), (100000, xo 7400000)] [] [(7400000, (⟨61, .pair (.sl 3 tI) tI, io100000, true, false⟩ : Row))]
noncomputable def f41l3 : Clean := ⟨[1, 100000], [], [], [], [(⟨false, 100000, 0⟩, 7400000)]⟩
noncomputable def f41s4 (io100000 : List (LI × Int)) (v4 : Int) : St := stOf [(4, xi v4), (100000, xo 7400000)] [] [(7400000, (⟨61, .pair (.sl 3 tI) tI, io100000, true, false⟩ : Row))]
noncomputable def f41l4 : Clean := ⟨[4, 100000], [], [], [], [(⟨false, 100000, 0⟩, 7400000)]⟩
noncomputable def f41B : Nat → Option Clean := lookL [(0, f41l3), (1000000, f41l4)]
noncomputable abbrev f41i {ρ : Type} (N : Nat) (c : Code) (p : Plan) (σ : St) (K : KT ρ) : Option ρ := iCode f41G tab f41B N c p σ K
noncomputable def f41c (n : Nat) : Code := codeN 99 (bodyOf Tryd.f41) n
theorem f41t1 N v0 v1 (K : KT ρ) : f41i N (f41c 2) .n (f41s0 v0 v1) (joinK (some f41l1) K) =
  laws_markTermS.Z1 N v0 v1 (fun v0 v1 => K .nrm (f41s1 v0 v1)) := by kernel_rfl
theorem f41t4 N v0 v1 (K : KT ρ) : f41i N (f41c 9) .n (f41s1 v0 v1) (joinK (some f41l2) K) =
  laws_markTermS.Z4 N v0 v1 (fun v0 v1 v5 => K .nrm (f41s2 v0 v1 v5)) := by kernel_rfl
theorem f41t7 N v0 v1 v5 (K : KT ρ) : f41i N (f41c 37) .n (f41s2 v0 v1 v5) (joinK (some f41l2) K) =
  laws_markTermS.Z7 N v0 v1 v5 (fun v0 v1 v5 => K .nrm (f41s2 v0 v1 v5)) (fun io100000 v1 => K (.exit 0) (f41s3 io100000 v1)) := by kernel_rfl
noncomputable def f41p6 : Plan := .mk none (some f41l2) .n .n
noncomputable abbrev f41w6 {ρ : Type} (N M : Nat) (σ : St) (K : KT ρ) : Option ρ := loopC (fun σ K => f41i N (f41c 37) .n σ K) f41l2 M σ K
theorem f41t6L {ρ : Type} (N : Nat) (K : KT ρ) : ∀ (M : Nat) (v0 : List (LI × Int)) (v1 v5 : Int), f41w6 N M (f41s2 v0 v1 v5) K =
  laws_markTermS.Z6L N (fun io100000 v1 => K (.exit 0) (f41s3 io100000 v1)) M v0 v1 v5
  | 0, _, _, _ => rfl
  | M + 1, v0, v1, v5 => viaRoundS (fun k => laws_markTermS.Z7 N v0 v1 v5 k (fun io100000 v1 => K (.exit 0) (f41s3 io100000 v1))) (f41t7 N (K := seqK (fun σ => f41w6 N M σ K) K) ..) (fx3 fun v0 v1 v5 => f41t6L N K M v0 v1 v5) (by kernel_rfl)
theorem f41t6 N v0 v1 v5 (K : KT ρ) : f41i N (f41c 21) f41p6 (f41s2 v0 v1 v5) (joinK (some f41l3) K) =
  laws_markTermS.Z6 N v0 v1 v5 (fun io100000 v1 => K (.exit 0) (f41s3 io100000 v1)) :=
 viaLoopS (by kernel_rfl) (f41t6L N (joinK (some f41l3) K) N v0 v1 v5) (by kernel_rfl)
noncomputable def f41p5 : Plan := .mk (some f41l3) none f41p6 .n
theorem f41t5 N v0 v1 v5 (K : KT ρ) : f41i N (f41c 13) f41p5 (f41s2 v0 v1 v5) (joinK (some f41l3) K) =
  laws_markTermS.Z5 N v0 v1 v5 (fun io100000 v1 => K .nrm (f41s3 io100000 v1)) :=
 viaBlockS (by kernel_rfl) (f41t6 N (K := blockK 0 (joinK (some f41l3) K)) ..) (by kernel_rfl)
noncomputable def f41p3 : Plan := .mk (some f41l2) none .n f41p5
theorem f41t3 N v0 v1 (K : KT ρ) : f41i N (f41c 5) f41p3 (f41s1 v0 v1) (joinK (some f41l3) K) =
  laws_markTermS.Z3 N v0 v1 (fun io100000 v1 => K .nrm (f41s3 io100000 v1)) :=
 viaSeqS (fun k => laws_markTermS.Z4 N v0 v1 k) (by kernel_rfl) (f41t4 N (K := seqK (fun σ => f41i N (f41c 13) f41p5 σ (joinK (some f41l3) K)) (joinK (some f41l3) K)) ..) (fx3 fun v0 v1 v5 => f41t5 N v0 v1 v5 K) (by kernel_rfl)
theorem f41t8 N io100000 v1 (K : KT ρ) : f41i N (f41c 7) .n (f41s3 io100000 v1) (joinK (some f41lE) K) =
  laws_markTermS.Z8 N io100000 v1 (fun io100000 v4 => K .ret (f41s4 io100000 v4)) := by kernel_rfl
noncomputable def f41p2 : Plan := .mk (some f41l3) none f41p3 .n
theorem f41t2 N v0 v1 (K : KT ρ) : f41i N (f41c 3) f41p2 (f41s1 v0 v1) (joinK (some f41lE) K) =
  laws_markTermS.Z2 N v0 v1 (fun io100000 v4 => K .ret (f41s4 io100000 v4)) :=
 viaSeqS (fun k => laws_markTermS.Z3 N v0 v1 k) (by kernel_rfl) (f41t3 N (K := seqK (fun σ => f41i N (f41c 7) .n σ (joinK (some f41lE) K)) (joinK (some f41lE) K)) ..) (fx2 fun io100000 v1 => f41t8 N io100000 v1 K) (by kernel_rfl)
noncomputable def f41p0 : Plan := .mk (some f41l1) none .n f41p2
theorem f41t0 N v0 v1 (K : KT ρ) : f41i N (f41c 1) f41p0 (f41s0 v0 v1) (joinK (some f41lE) K) =
  laws_markTermS.Z0 N v0 v1 (fun io100000 v4 => K .ret (f41s4 io100000 v4)) :=
 viaSeqS (fun k => laws_markTermS.Z1 N v0 v1 k) (by kernel_rfl) (f41t1 N (K := seqK (fun σ => f41i N (f41c 3) f41p2 σ (joinK (some f41lE) K)) (joinK (some f41lE) K)) ..) (fx2 fun v0 v1 => f41t2 N v0 v1 K) (by kernel_rfl)
theorem f41m (N : Nat) (v0 : List (LI × Int)) (v1 : Int) : f41i N (f41c 1) f41p0 (f41s0 v0 v1) (joinK (some f41lE) (finK tab f41sig Tryd.f41.results.toList)) = laws_markTermS.Z0 N v0 v1 (fun io100000 v4 => some (io100000, (v4, ()))) :=
  (f41t0 N v0 v1 (finK tab f41sig Tryd.f41.results.toList)).trans (by kernel_rfl)
theorem f41ok (h : laws_markTermS.Spec) : EntryOk Tryd.prog 41 e41 :=
  entry_of_code (sig := f41sig) (c := (f41c 1)) (pl := f41p0) (je := (some f41lE)) (B := f41B) Tryd.func41 (by kernel_rfl) (by kernel_rfl) (by kernel_rfl) tabOk f41GOk (by kernel_rfl) (by kernel_rfl) (by kernel_rfl) (by kernel_rfl) fun X hb hp => by
    obtain ⟨v0, v1, _⟩ := X
    obtain ⟨N, h⟩ := h v0 v1 hb.1
    exact ⟨N, (f41m N v0 v1).trans (h N (Nat.le_refl N))⟩
theorem e41ok : EntryOk Tryd.prog 41 e41 := f41ok laws_markTermS.ok
end Go.Fw
namespace Go.Fw
variable {ρ : Type}
open Go.Proofs
noncomputable def f20sig : Sig := ⟨[⟨.pair (.int .i64) (.sl 61 (.pair (.sl 3 (.int .i64)) (.int .i64))), true, true⟩, ⟨.int .i64, false, false⟩], [⟨.int .i64, false, false⟩]⟩
noncomputable def e20 : Entry := ⟨f20sig, none, fun X => ((laws_markLaurent.g X.1 X.2.1).1, ((laws_markLaurent.g X.1 X.2.1).2, ()))⟩
noncomputable def f20G : Gm := addG emptyG 41 e41
theorem f20GOk : GOk Tryd.prog f20G := (GOk.nil).add e41ok (by kernel_rfl)
noncomputable def f20lE : Clean := ⟨[], [], [], [], []⟩
noncomputable def f20s0 (v0 : Int × List (LI × Int)) (v1 : Int) : St := initSt f20sig.ps (v0, (v1, ()))
noncomputable def f20s1 (io100000_1 : List (LI × Int)) (v4 io100000_0 : Int) : St := stOf [(4, xi v4), (100000, .agg [yi io100000_0, .own 7400001])] [] [(7400001, (⟨61, .pair (.sl 3 tI) tI, io100000_1, true, false⟩ : Row))]
noncomputable def f20l1 : Clean := ⟨[4, 100000], [], [], [], [(⟨false, 100000, 1⟩, 7400001)]⟩
noncomputable def f20B : Nat → Option Clean := lookL [(1000000, f20l1)]
noncomputable abbrev f20i {ρ : Type} (N : Nat) (c : Code) (p : Plan) (σ : St) (K : KT ρ) : Option ρ := iCode f20G tab f20B N c p σ K
noncomputable def f20c (n : Nat) : Code := codeN 99 (bodyOf Tryd.f20) n
theorem f20t0 N v0 v1 (K : KT ρ) : f20i N (f20c 1) .n (f20s0 v0 v1) (joinK (some f20lE) K) =
  laws_markLaurent.Z0 N v0 v1 (fun io100000_1 v4 io100000_0 => K .ret (f20s1 io100000_1 v4 io100000_0)) := by kernel_rfl
theorem f20m (N : Nat) (v0 : Int × List (LI × Int)) (v1 : Int) : f20i N (f20c 1) .n (f20s0 v0 v1) (joinK (some f20lE) (finK tab f20sig Tryd.f20.results.toList)) = laws_markLaurent.Z0 N v0 v1 (fun io100000_1 v4 io100000_0 => some ((io100000_0, io100000_1), (v4, ()))) :=
  (f20t0 N v0 v1 (finK tab f20sig Tryd.f20.results.toList)).trans (by kernel_rfl)
theorem f20ok (h : laws_markLaurent.Spec) : EntryOk Tryd.prog 20 e20 :=
  entry_of_code (sig := f20sig) (c := (f20c 1)) (pl := .n) (je := (some f20lE)) (B := f20B) Tryd.func20 (by kernel_rfl) (by kernel_rfl) (by kernel_rfl) tabOk f20GOk (by kernel_rfl) (by kernel_rfl) (by kernel_rfl) (by kernel_rfl) fun X hb hp => by
    obtain ⟨v0, v1, _⟩ := X
    obtain ⟨N, h⟩ := h v0 v1 hb.1
    exact ⟨N, (f20m N v0 v1).trans (h N (Nat.le_refl N))⟩
theorem e20ok : EntryOk Tryd.prog 20 e20 := f20ok laws_markLaurent.ok
end Go.Fw
namespace Go.Fw
variable {ρ : Type}
open Go.Proofs
noncomputable def f11sig : Sig := ⟨[⟨.sl 3 (.int .i64), false, false⟩, ⟨.int .i64, false, false⟩], [⟨.int .i64, false, false⟩]⟩
noncomputable def e11 : Entry := ⟨f11sig, none, fun X => ((), ((laws_heldIntS.g X.1 X.2.1), ()))⟩
noncomputable def f11G : Gm := emptyG
theorem f11GOk : GOk Tryd.prog f11G := GOk.nil
noncomputable def f11lE : Clean := ⟨[], [], [], [], []⟩
noncomputable def f11s0 (v0 : LI) (v1 : Int) : St := initSt f11sig.ps (v0, (v1, ()))
noncomputable def f11s1 (v0 : LI) (v1 : Int) : St := stOf [(0, .c (.sn 3 tI v0 none)), (1, xi v1)] [] []
noncomputable def f11l1 : Clean := ⟨[0, 1], [], [], [], []⟩
noncomputable def f11s2 (v0 : LI) (v1 v5 : Int) : St := stOf [(0, .c (.sn 3 tI v0 none)), (1, xi v1), (5, xi v5)] [] []
noncomputable def f11l2 : Clean := ⟨[0, 1, 5], [], [], [], []⟩
noncomputable def f11s3 (v1 : Int) : St := stOf [(1, xi v1)] [] []
noncomputable def f11l3 : Clean := ⟨[1], [], [], [], []⟩
noncomputable def f11s4 (v4 : Int) : St := stOf [(4, xi v4)] [] []
noncomputable def f11l4 : Clean := ⟨[4], [], [], [], []⟩
noncomputable def f11B : Nat → Option Clean := lookL [(0, f11l3), (1000000, f11l4)]
noncomputable abbrev f11i {ρ : Type} (N : Nat) (c : Code) (p : Plan) (σ : St) (K : KT ρ) : Option ρ := iCode f11G tab f11B N c p σ K
noncomputable def f11c (n : Nat) : Code := codeN 99 (bodyOf Tryd.f11) n
theorem f11t1 N v0 v1 (K : KT ρ) : f11i N (f11c 2) .n (f11s0 v0 v1) (joinK (some f11l1) K) =
  laws_heldIntS.Z1 N v0 v1 (fun v0 v1 => K .nrm (f11s1 v0 v1)) := by kernel_rfl
theorem f11t4 N v0 v1 (K : KT ρ) : f11i N (f11c 9) .n (f11s1 v0 v1) (joinK (some f11l2) K) =
  laws_heldIntS.Z4 N v0 v1 (fun v0 v1 v5 => K .nrm (f11s2 v0 v1 v5)) := by kernel_rfl
theorem f11t7 N v0 v1 v5 (K : KT ρ) : f11i N (f11c 37) .n (f11s2 v0 v1 v5) (joinK (some f11l2) K) =
  laws_heldIntS.Z7 N v0 v1 v5 (fun v0 v1 v5 => K .nrm (f11s2 v0 v1 v5)) (fun v1 => K (.exit 0) (f11s3 v1)) (fun v4 => K .ret (f11s4 v4)) := by kernel_rfl
noncomputable def f11p6 : Plan := .mk none (some f11l2) .n .n
noncomputable abbrev f11w6 {ρ : Type} (N M : Nat) (σ : St) (K : KT ρ) : Option ρ := loopC (fun σ K => f11i N (f11c 37) .n σ K) f11l2 M σ K
theorem f11t6L {ρ : Type} (N : Nat) (K : KT ρ) : ∀ (M : Nat) (v0 : LI) (v1 v5 : Int), f11w6 N M (f11s2 v0 v1 v5) K =
  laws_heldIntS.Z6L N (fun v1 => K (.exit 0) (f11s3 v1)) (fun v4 => K .ret (f11s4 v4)) M v0 v1 v5
  | 0, _, _, _ => rfl
  | M + 1, v0, v1, v5 => viaRoundS (fun k => laws_heldIntS.Z7 N v0 v1 v5 k (fun v1 => K (.exit 0) (f11s3 v1)) (fun v4 => K .ret (f11s4 v4))) (f11t7 N (K := seqK (fun σ => f11w6 N M σ K) K) ..) (fx3 fun v0 v1 v5 => f11t6L N K M v0 v1 v5) (by kernel_rfl)
theorem f11t6 N v0 v1 v5 (K : KT ρ) : f11i N (f11c 21) f11p6 (f11s2 v0 v1 v5) (joinK (some f11l3) K) =
  laws_heldIntS.Z6 N v0 v1 v5 (fun v1 => K (.exit 0) (f11s3 v1)) (fun v4 => K .ret (f11s4 v4)) :=
 viaLoopS (by kernel_rfl) (f11t6L N (joinK (some f11l3) K) N v0 v1 v5) (by kernel_rfl)
noncomputable def f11p5 : Plan := .mk (some f11l3) none f11p6 .n
theorem f11t5 N v0 v1 v5 (K : KT ρ) : f11i N (f11c 13) f11p5 (f11s2 v0 v1 v5) (joinK (some f11l3) K) =
  laws_heldIntS.Z5 N v0 v1 v5 (fun v1 => K .nrm (f11s3 v1)) (fun v4 => K .ret (f11s4 v4)) :=
 viaBlockS (by kernel_rfl) (f11t6 N (K := blockK 0 (joinK (some f11l3) K)) ..) (by kernel_rfl)
noncomputable def f11p3 : Plan := .mk (some f11l2) none .n f11p5
theorem f11t3 N v0 v1 (K : KT ρ) : f11i N (f11c 5) f11p3 (f11s1 v0 v1) (joinK (some f11l3) K) =
  laws_heldIntS.Z3 N v0 v1 (fun v1 => K .nrm (f11s3 v1)) (fun v4 => K .ret (f11s4 v4)) :=
 viaSeqS (fun k => laws_heldIntS.Z4 N v0 v1 k) (by kernel_rfl) (f11t4 N (K := seqK (fun σ => f11i N (f11c 13) f11p5 σ (joinK (some f11l3) K)) (joinK (some f11l3) K)) ..) (fx3 fun v0 v1 v5 => f11t5 N v0 v1 v5 K) (by kernel_rfl)
theorem f11t8 N v1 (K : KT ρ) : f11i N (f11c 7) .n (f11s3 v1) (joinK (some f11lE) K) =
  laws_heldIntS.Z8 N v1 (fun v4 => K .ret (f11s4 v4)) := by kernel_rfl
noncomputable def f11p2 : Plan := .mk (some f11l3) none f11p3 .n
theorem f11t2 N v0 v1 (K : KT ρ) : f11i N (f11c 3) f11p2 (f11s1 v0 v1) (joinK (some f11lE) K) =
  laws_heldIntS.Z2 N v0 v1 (fun v4 => K .ret (f11s4 v4)) :=
 viaSeqS (fun k => laws_heldIntS.Z3 N v0 v1 k (fun v4 => K .ret (f11s4 v4))) (by kernel_rfl) (f11t3 N (K := seqK (fun σ => f11i N (f11c 7) .n σ (joinK (some f11lE) K)) (joinK (some f11lE) K)) ..) (funext fun v1 => f11t8 N v1 K) (by kernel_rfl)
noncomputable def f11p0 : Plan := .mk (some f11l1) none .n f11p2
theorem f11t0 N v0 v1 (K : KT ρ) : f11i N (f11c 1) f11p0 (f11s0 v0 v1) (joinK (some f11lE) K) =
  laws_heldIntS.Z0 N v0 v1 (fun v4 => K .ret (f11s4 v4)) :=
 viaSeqS (fun k => laws_heldIntS.Z1 N v0 v1 k) (by kernel_rfl) (f11t1 N (K := seqK (fun σ => f11i N (f11c 3) f11p2 σ (joinK (some f11lE) K)) (joinK (some f11lE) K)) ..) (fx2 fun v0 v1 => f11t2 N v0 v1 K) (by kernel_rfl)
theorem f11m (N : Nat) (v0 : LI) (v1 : Int) : f11i N (f11c 1) f11p0 (f11s0 v0 v1) (joinK (some f11lE) (finK tab f11sig Tryd.f11.results.toList)) = laws_heldIntS.Z0 N v0 v1 (fun v4 => some ((), (v4, ()))) :=
  (f11t0 N v0 v1 (finK tab f11sig Tryd.f11.results.toList)).trans (by kernel_rfl)
theorem f11ok (h : laws_heldIntS.Spec) : EntryOk Tryd.prog 11 e11 :=
  entry_of_code (sig := f11sig) (c := (f11c 1)) (pl := f11p0) (je := (some f11lE)) (B := f11B) Tryd.func11 (by kernel_rfl) (by kernel_rfl) (by kernel_rfl) tabOk f11GOk (by kernel_rfl) (by kernel_rfl) (by kernel_rfl) (by kernel_rfl) fun X hb hp => by
    obtain ⟨v0, v1, _⟩ := X
    obtain ⟨N, h⟩ := h v0 v1 hb.1
    exact ⟨N, (f11m N v0 v1).trans (h N (Nat.le_refl N))⟩
theorem e11ok : EntryOk Tryd.prog 11 e11 := f11ok laws_heldIntS.ok
end Go.Fw
namespace Go.Fw
variable {ρ : Type}
open Go.Proofs
noncomputable def f42sig : Sig := ⟨[⟨.sl 61 (.pair (.sl 3 (.int .i64)) (.int .i64)), false, false⟩, ⟨.int .i64, false, false⟩], [⟨.int .i64, false, false⟩]⟩
noncomputable def e42 : Entry := ⟨f42sig, none, fun X => ((), ((laws_heldTermS.g X.1 X.2.1), ()))⟩
noncomputable def f42G : Gm := addG emptyG 11 e11
theorem f42GOk : GOk Tryd.prog f42G := (GOk.nil).add e11ok (by kernel_rfl)
noncomputable def f42lE : Clean := ⟨[], [], [], [], []⟩
noncomputable def f42s0 (v0 : List (LI × Int)) (v1 : Int) : St := initSt f42sig.ps (v0, (v1, ()))
noncomputable def f42s1 (v0 : List (LI × Int)) (v1 : Int) : St := stOf [(0, .c (.sn 61 (.pair (.sl 3 tI) tI) v0 none)), (1, xi v1)] [] []
noncomputable def f42l1 : Clean := ⟨[0, 1], [], [], [], []⟩
noncomputable def f42s2 (v0 : List (LI × Int)) (v1 v5 : Int) : St := stOf [(0, .c (.sn 61 (.pair (.sl 3 tI) tI) v0 none)), (1, xi v1), (5, xi v5)] [] []
noncomputable def f42l2 : Clean := ⟨[0, 1, 5], [], [], [], []⟩
noncomputable def f42s3 (v1 : Int) : St := stOf [(1, xi v1)] [] []
noncomputable def f42l3 : Clean := ⟨[1], [], [], [], []⟩
noncomputable def f42s4 (v4 : Int) : St := stOf [(4, xi v4)] [] []
noncomputable def f42l4 : Clean := ⟨[4], [], [], [], []⟩
noncomputable def f42B : Nat → Option Clean := lookL [(0, f42l3), (1000000, f42l4)]
noncomputable abbrev f42i {ρ : Type} (N : Nat) (c : Code) (p : Plan) (σ : St) (K : KT ρ) : Option ρ := iCode f42G tab f42B N c p σ K
noncomputable def f42c (n : Nat) : Code := codeN 99 (bodyOf Tryd.f42) n
theorem f42t1 N v0 v1 (K : KT ρ) : f42i N (f42c 2) .n (f42s0 v0 v1) (joinK (some f42l1) K) =
  laws_heldTermS.Z1 N v0 v1 (fun v0 v1 => K .nrm (f42s1 v0 v1)) := by kernel_rfl
theorem f42t4 N v0 v1 (K : KT ρ) : f42i N (f42c 9) .n (f42s1 v0 v1) (joinK (some f42l2) K) =
  laws_heldTermS.Z4 N v0 v1 (fun v0 v1 v5 => K .nrm (f42s2 v0 v1 v5)) := by kernel_rfl
theorem f42t7 N v0 v1 v5 (K : KT ρ) : f42i N (f42c 37) .n (f42s2 v0 v1 v5) (joinK (some f42l2) K) =
  laws_heldTermS.Z7 N v0 v1 v5 (fun v0 v1 v5 => K .nrm (f42s2 v0 v1 v5)) (fun v1 => K (.exit 0) (f42s3 v1)) (fun v4 => K .ret (f42s4 v4)) := by kernel_rfl
noncomputable def f42p6 : Plan := .mk none (some f42l2) .n .n
noncomputable abbrev f42w6 {ρ : Type} (N M : Nat) (σ : St) (K : KT ρ) : Option ρ := loopC (fun σ K => f42i N (f42c 37) .n σ K) f42l2 M σ K
theorem f42t6L {ρ : Type} (N : Nat) (K : KT ρ) : ∀ (M : Nat) (v0 : List (LI × Int)) (v1 v5 : Int), f42w6 N M (f42s2 v0 v1 v5) K =
  laws_heldTermS.Z6L N (fun v1 => K (.exit 0) (f42s3 v1)) (fun v4 => K .ret (f42s4 v4)) M v0 v1 v5
  | 0, _, _, _ => rfl
  | M + 1, v0, v1, v5 => viaRoundS (fun k => laws_heldTermS.Z7 N v0 v1 v5 k (fun v1 => K (.exit 0) (f42s3 v1)) (fun v4 => K .ret (f42s4 v4))) (f42t7 N (K := seqK (fun σ => f42w6 N M σ K) K) ..) (fx3 fun v0 v1 v5 => f42t6L N K M v0 v1 v5) (by kernel_rfl)
theorem f42t6 N v0 v1 v5 (K : KT ρ) : f42i N (f42c 21) f42p6 (f42s2 v0 v1 v5) (joinK (some f42l3) K) =
  laws_heldTermS.Z6 N v0 v1 v5 (fun v1 => K (.exit 0) (f42s3 v1)) (fun v4 => K .ret (f42s4 v4)) :=
 viaLoopS (by kernel_rfl) (f42t6L N (joinK (some f42l3) K) N v0 v1 v5) (by kernel_rfl)
noncomputable def f42p5 : Plan := .mk (some f42l3) none f42p6 .n
theorem f42t5 N v0 v1 v5 (K : KT ρ) : f42i N (f42c 13) f42p5 (f42s2 v0 v1 v5) (joinK (some f42l3) K) =
  laws_heldTermS.Z5 N v0 v1 v5 (fun v1 => K .nrm (f42s3 v1)) (fun v4 => K .ret (f42s4 v4)) :=
 viaBlockS (by kernel_rfl) (f42t6 N (K := blockK 0 (joinK (some f42l3) K)) ..) (by kernel_rfl)
noncomputable def f42p3 : Plan := .mk (some f42l2) none .n f42p5
theorem f42t3 N v0 v1 (K : KT ρ) : f42i N (f42c 5) f42p3 (f42s1 v0 v1) (joinK (some f42l3) K) =
  laws_heldTermS.Z3 N v0 v1 (fun v1 => K .nrm (f42s3 v1)) (fun v4 => K .ret (f42s4 v4)) :=
 viaSeqS (fun k => laws_heldTermS.Z4 N v0 v1 k) (by kernel_rfl) (f42t4 N (K := seqK (fun σ => f42i N (f42c 13) f42p5 σ (joinK (some f42l3) K)) (joinK (some f42l3) K)) ..) (fx3 fun v0 v1 v5 => f42t5 N v0 v1 v5 K) (by kernel_rfl)
theorem f42t8 N v1 (K : KT ρ) : f42i N (f42c 7) .n (f42s3 v1) (joinK (some f42lE) K) =
  laws_heldTermS.Z8 N v1 (fun v4 => K .ret (f42s4 v4)) := by kernel_rfl
noncomputable def f42p2 : Plan := .mk (some f42l3) none f42p3 .n
theorem f42t2 N v0 v1 (K : KT ρ) : f42i N (f42c 3) f42p2 (f42s1 v0 v1) (joinK (some f42lE) K) =
  laws_heldTermS.Z2 N v0 v1 (fun v4 => K .ret (f42s4 v4)) :=
 viaSeqS (fun k => laws_heldTermS.Z3 N v0 v1 k (fun v4 => K .ret (f42s4 v4))) (by kernel_rfl) (f42t3 N (K := seqK (fun σ => f42i N (f42c 7) .n σ (joinK (some f42lE) K)) (joinK (some f42lE) K)) ..) (funext fun v1 => f42t8 N v1 K) (by kernel_rfl)
noncomputable def f42p0 : Plan := .mk (some f42l1) none .n f42p2
theorem f42t0 N v0 v1 (K : KT ρ) : f42i N (f42c 1) f42p0 (f42s0 v0 v1) (joinK (some f42lE) K) =
  laws_heldTermS.Z0 N v0 v1 (fun v4 => K .ret (f42s4 v4)) :=
 viaSeqS (fun k => laws_heldTermS.Z1 N v0 v1 k) (by kernel_rfl) (f42t1 N (K := seqK (fun σ => f42i N (f42c 3) f42p2 σ (joinK (some f42lE) K)) (joinK (some f42lE) K)) ..) (fx2 fun v0 v1 => f42t2 N v0 v1 K) (by kernel_rfl)
theorem f42m (N : Nat) (v0 : List (LI × Int)) (v1 : Int) : f42i N (f42c 1) f42p0 (f42s0 v0 v1) (joinK (some f42lE) (finK tab f42sig Tryd.f42.results.toList)) = laws_heldTermS.Z0 N v0 v1 (fun v4 => some ((), (v4, ()))) :=
  (f42t0 N v0 v1 (finK tab f42sig Tryd.f42.results.toList)).trans (by kernel_rfl)
theorem f42ok (h : laws_heldTermS.Spec) : EntryOk Tryd.prog 42 e42 :=
  entry_of_code (sig := f42sig) (c := (f42c 1)) (pl := f42p0) (je := (some f42lE)) (B := f42B) Tryd.func42 (by kernel_rfl) (by kernel_rfl) (by kernel_rfl) tabOk f42GOk (by kernel_rfl) (by kernel_rfl) (by kernel_rfl) (by kernel_rfl) fun X hb hp => by
    obtain ⟨v0, v1, _⟩ := X
    obtain ⟨N, h⟩ := h v0 v1 hb.1
    exact ⟨N, (f42m N v0 v1).trans (h N (Nat.le_refl N))⟩
theorem e42ok : EntryOk Tryd.prog 42 e42 := f42ok laws_heldTermS.ok
end Go.Fw
namespace Go.Fw
variable {ρ : Type}
open Go.Proofs
noncomputable def f21sig : Sig := ⟨[⟨.pair (.int .i64) (.sl 61 (.pair (.sl 3 (.int .i64)) (.int .i64))), true, false⟩, ⟨.int .i64, false, false⟩], [⟨.int .i64, false, false⟩]⟩
noncomputable def e21 : Entry := ⟨f21sig, none, fun X => ((), ((laws_heldLaurent.g X.1 X.2.1), ()))⟩
noncomputable def f21G : Gm := addG emptyG 42 e42
theorem f21GOk : GOk Tryd.prog f21G := (GOk.nil).add e42ok (by kernel_rfl)
noncomputable def f21lE : Clean := ⟨[], [], [], [], []⟩
noncomputable def f21s0 (v0 : Int × List (LI × Int)) (v1 : Int) : St := initSt f21sig.ps (v0, (v1, ()))
noncomputable def f21s1 (v4 : Int) : St := stOf [(4, xi v4)] [] []
noncomputable def f21l1 : Clean := ⟨[4], [], [], [], []⟩
noncomputable def f21B : Nat → Option Clean := lookL [(1000000, f21l1)]
noncomputable abbrev f21i {ρ : Type} (N : Nat) (c : Code) (p : Plan) (σ : St) (K : KT ρ) : Option ρ := iCode f21G tab f21B N c p σ K
noncomputable def f21c (n : Nat) : Code := codeN 99 (bodyOf Tryd.f21) n
theorem f21t0 N v0 v1 (K : KT ρ) : f21i N (f21c 1) .n (f21s0 v0 v1) (joinK (some f21lE) K) =
  laws_heldLaurent.Z0 N v0 v1 (fun v4 => K .ret (f21s1 v4)) := by kernel_rfl
theorem f21m (N : Nat) (v0 : Int × List (LI × Int)) (v1 : Int) : f21i N (f21c 1) .n (f21s0 v0 v1) (joinK (some f21lE) (finK tab f21sig Tryd.f21.results.toList)) = laws_heldLaurent.Z0 N v0 v1 (fun v4 => some ((), (v4, ()))) :=
  (f21t0 N v0 v1 (finK tab f21sig Tryd.f21.results.toList)).trans (by kernel_rfl)
theorem f21ok (h : laws_heldLaurent.Spec) : EntryOk Tryd.prog 21 e21 :=
  entry_of_code (sig := f21sig) (c := (f21c 1)) (pl := .n) (je := (some f21lE)) (B := f21B) Tryd.func21 (by kernel_rfl) (by kernel_rfl) (by kernel_rfl) tabOk f21GOk (by kernel_rfl) (by kernel_rfl) (by kernel_rfl) (by kernel_rfl) fun X hb hp => by
    obtain ⟨v0, v1, _⟩ := X
    obtain ⟨N, h⟩ := h v0 v1 hb.1
    exact ⟨N, (f21m N v0 v1).trans (h N (Nat.le_refl N))⟩
theorem e21ok : EntryOk Tryd.prog 21 e21 := f21ok laws_heldLaurent.ok
end Go.Fw
namespace Go.Fw
variable {ρ : Type}
open Go.Proofs
noncomputable def f5sig : Sig := ⟨[⟨.str, false, false⟩], [⟨.bool, false, false⟩]⟩
noncomputable def e5 : Entry := ⟨f5sig, none, fun X => ((), ((laws_FnExactParseLaurent.g X.1), ()))⟩
noncomputable def f5G : Gm := addG (addG (addG (addG (addG emptyG 17 e17) 18 e18) 19 e19) 20 e20) 21 e21
theorem f5GOk : GOk Tryd.prog f5G := (((((GOk.nil).add e17ok (by kernel_rfl)).add e18ok (by kernel_rfl)).add e19ok (by kernel_rfl)).add e20ok (by kernel_rfl)).add e21ok (by kernel_rfl)
noncomputable def f5lE : Clean := ⟨[], [], [], [], []⟩
noncomputable def f5s0 (v0 : ByteArray) : St := initSt f5sig.ps (v0, ())
noncomputable def f5s1 (v0 : ByteArray) : St := stOf [(0, .c (.str v0))] [] []
noncomputable def f5l1 : Clean := ⟨[0], [], [], [], []⟩
noncomputable def f5s2 (v3_1 : List (LI × Int)) (v0 : ByteArray) (v4 : Bool) (v3_0 : Int) : St := stOf [(0, .c (.str v0)), (3, xb 3), (4, xB v4)] [(3, (36, [yi v3_0, .own 20000193]))] [(20000193, (⟨61, .pair (.sl 3 tI) tI, v3_1, true, false⟩ : Row))]
noncomputable def f5l2 : Clean := ⟨[0, 3, 4], [3], [], [], [(⟨true, 3, 1⟩, 20000193)]⟩
noncomputable def f5s3 (v3_1 v5_1 : List (LI × Int)) (v0 : ByteArray) (v4 v6 : Bool) (v3_0 v5_0 : Int) : St := stOf [(0, .c (.str v0)), (3, xb 3), (4, xB v4), (5, xb 5), (6, xB v6)] [(3, (36, [yi v3_0, .own 20000193])), (5, (36, [yi v5_0, .own 20000321]))] [(20000193, (⟨61, .pair (.sl 3 tI) tI, v3_1, true, false⟩ : Row)), (20000321, (⟨61, .pair (.sl 3 tI) tI, v5_1, true, false⟩ : Row))]
noncomputable def f5l3 : Clean := ⟨[0, 3, 4, 5, 6], [3, 5], [], [], [(⟨true, 3, 1⟩, 20000193), (⟨true, 5, 1⟩, 20000321)]⟩
noncomputable def f5s4 (v3_1 v5_1 : List (LI × Int)) (v0 : ByteArray) (v4 : Bool) (v3_0 v5_0 : Int) : St := stOf [(0, .c (.str v0)), (3, xb 3), (4, xB v4), (5, xb 5)] [(3, (36, [yi v3_0, .own 20000193])), (5, (36, [yi v5_0, .own 20000321]))] [(20000193, (⟨61, .pair (.sl 3 tI) tI, v3_1, true, false⟩ : Row)), (20000321, (⟨61, .pair (.sl 3 tI) tI, v5_1, true, false⟩ : Row))]
noncomputable def f5l4 : Clean := ⟨[0, 3, 4, 5], [3, 5], [], [], [(⟨true, 3, 1⟩, 20000193), (⟨true, 5, 1⟩, 20000321)]⟩
noncomputable def f5s5 (v2 : Bool) : St := stOf [(2, xB v2)] [] []
noncomputable def f5l5 : Clean := ⟨[2], [], [], [], []⟩
noncomputable def f5B : Nat → Option Clean := lookL [(1000000, f5l5)]
noncomputable abbrev f5i {ρ : Type} (N : Nat) (c : Code) (p : Plan) (σ : St) (K : KT ρ) : Option ρ := iCode f5G tab f5B N c p σ K
noncomputable def f5c (n : Nat) : Code := codeN 99 (bodyOf Tryd.f5) n
theorem f5t1 N v0 (K : KT ρ) : f5i N (f5c 2) .n (f5s0 v0) (joinK (some f5l1) K) =
  laws_FnExactParseLaurent.Z1 N v0 (fun v0 => K .nrm (f5s1 v0)) := by kernel_rfl
theorem f5t3 N v0 (K : KT ρ) : f5i N (f5c 5) .n (f5s1 v0) (joinK (some f5l1) K) =
  laws_FnExactParseLaurent.Z3 N v0 (fun v0 => K .nrm (f5s1 v0)) (fun v2 => K .ret (f5s5 v2)) := by kernel_rfl
theorem f5t5 N v0 (K : KT ρ) : f5i N (f5c 11) .n (f5s1 v0) (joinK (some f5l2) K) =
  laws_FnExactParseLaurent.Z5 N v0 (fun v3_1 v0 v4 v3_0 => K .nrm (f5s2 v3_1 v0 v4 v3_0)) := by kernel_rfl
theorem f5t7 N v3_1 v0 v4 v3_0 (K : KT ρ) : f5i N (f5c 23) .n (f5s2 v3_1 v0 v4 v3_0) (joinK (some f5l3) K) =
  laws_FnExactParseLaurent.Z7 N v3_1 v0 v4 v3_0 (fun v3_1 v5_1 v0 v4 v6 v3_0 v5_0 => K .nrm (f5s3 v3_1 v5_1 v0 v4 v6 v3_0 v5_0)) := by kernel_rfl
theorem f5t9 N v3_1 v5_1 v0 v4 v6 v3_0 v5_0 (K : KT ρ) : f5i N (f5c 47) .n (f5s3 v3_1 v5_1 v0 v4 v6 v3_0 v5_0) (joinK (some f5l4) K) =
  laws_FnExactParseLaurent.Z9 N v3_1 v5_1 v0 v4 v6 v3_0 v5_0 (fun v3_1 v5_1 v0 v4 v3_0 v5_0 => K .nrm (f5s4 v3_1 v5_1 v0 v4 v3_0 v5_0)) (fun v2 => K .ret (f5s5 v2)) := by kernel_rfl
theorem f5t10 N v3_1 v5_1 v0 v4 v3_0 v5_0 (K : KT ρ) : f5i N (f5c 63) .n (f5s4 v3_1 v5_1 v0 v4 v3_0 v5_0) (joinK (some f5lE) K) =
  laws_FnExactParseLaurent.Z10 N v3_1 v5_1 v0 v4 v3_0 v5_0 (fun v2 => K .ret (f5s5 v2)) := by kernel_rfl
noncomputable def f5p8 : Plan := .mk (some f5l4) none .n .n
theorem f5t8 N v3_1 v5_1 v0 v4 v6 v3_0 v5_0 (K : KT ρ) : f5i N (f5c 31) f5p8 (f5s3 v3_1 v5_1 v0 v4 v6 v3_0 v5_0) (joinK (some f5lE) K) =
  laws_FnExactParseLaurent.Z8 N v3_1 v5_1 v0 v4 v6 v3_0 v5_0 (fun v2 => K .ret (f5s5 v2)) :=
 viaSeqS (fun k => laws_FnExactParseLaurent.Z9 N v3_1 v5_1 v0 v4 v6 v3_0 v5_0 k (fun v2 => K .ret (f5s5 v2))) (by kernel_rfl) (f5t9 N (K := seqK (fun σ => f5i N (f5c 63) .n σ (joinK (some f5lE) K)) (joinK (some f5lE) K)) ..) (fx6 fun v3_1 v5_1 v0 v4 v3_0 v5_0 => f5t10 N v3_1 v5_1 v0 v4 v3_0 v5_0 K) (by kernel_rfl)
noncomputable def f5p6 : Plan := .mk (some f5l3) none .n f5p8
theorem f5t6 N v3_1 v0 v4 v3_0 (K : KT ρ) : f5i N (f5c 15) f5p6 (f5s2 v3_1 v0 v4 v3_0) (joinK (some f5lE) K) =
  laws_FnExactParseLaurent.Z6 N v3_1 v0 v4 v3_0 (fun v2 => K .ret (f5s5 v2)) :=
 viaSeqS (fun k => laws_FnExactParseLaurent.Z7 N v3_1 v0 v4 v3_0 k) (by kernel_rfl) (f5t7 N (K := seqK (fun σ => f5i N (f5c 31) f5p8 σ (joinK (some f5lE) K)) (joinK (some f5lE) K)) ..) (fx7 fun v3_1 v5_1 v0 v4 v6 v3_0 v5_0 => f5t8 N v3_1 v5_1 v0 v4 v6 v3_0 v5_0 K) (by kernel_rfl)
noncomputable def f5p4 : Plan := .mk (some f5l2) none .n f5p6
theorem f5t4 N v0 (K : KT ρ) : f5i N (f5c 7) f5p4 (f5s1 v0) (joinK (some f5lE) K) =
  laws_FnExactParseLaurent.Z4 N v0 (fun v2 => K .ret (f5s5 v2)) :=
 viaSeqS (fun k => laws_FnExactParseLaurent.Z5 N v0 k) (by kernel_rfl) (f5t5 N (K := seqK (fun σ => f5i N (f5c 15) f5p6 σ (joinK (some f5lE) K)) (joinK (some f5lE) K)) ..) (fx4 fun v3_1 v0 v4 v3_0 => f5t6 N v3_1 v0 v4 v3_0 K) (by kernel_rfl)
noncomputable def f5p2 : Plan := .mk (some f5l1) none .n f5p4
theorem f5t2 N v0 (K : KT ρ) : f5i N (f5c 3) f5p2 (f5s1 v0) (joinK (some f5lE) K) =
  laws_FnExactParseLaurent.Z2 N v0 (fun v2 => K .ret (f5s5 v2)) :=
 viaSeqS (fun k => laws_FnExactParseLaurent.Z3 N v0 k (fun v2 => K .ret (f5s5 v2))) (by kernel_rfl) (f5t3 N (K := seqK (fun σ => f5i N (f5c 7) f5p4 σ (joinK (some f5lE) K)) (joinK (some f5lE) K)) ..) (funext fun v0 => f5t4 N v0 K) (by kernel_rfl)
noncomputable def f5p0 : Plan := .mk (some f5l1) none .n f5p2
theorem f5t0 N v0 (K : KT ρ) : f5i N (f5c 1) f5p0 (f5s0 v0) (joinK (some f5lE) K) =
  laws_FnExactParseLaurent.Z0 N v0 (fun v2 => K .ret (f5s5 v2)) :=
 viaSeqS (fun k => laws_FnExactParseLaurent.Z1 N v0 k) (by kernel_rfl) (f5t1 N (K := seqK (fun σ => f5i N (f5c 3) f5p2 σ (joinK (some f5lE) K)) (joinK (some f5lE) K)) ..) (funext fun v0 => f5t2 N v0 K) (by kernel_rfl)
theorem f5m (N : Nat) (v0 : ByteArray) : f5i N (f5c 1) f5p0 (f5s0 v0) (joinK (some f5lE) (finK tab f5sig Tryd.f5.results.toList)) = laws_FnExactParseLaurent.Z0 N v0 (fun v2 => some ((), (v2, ()))) :=
  (f5t0 N v0 (finK tab f5sig Tryd.f5.results.toList)).trans (by kernel_rfl)
theorem f5ok (h : laws_FnExactParseLaurent.Spec) : EntryOk Tryd.prog 5 e5 :=
  entry_of_code (sig := f5sig) (c := (f5c 1)) (pl := f5p0) (je := (some f5lE)) (B := f5B) Tryd.func5 (by kernel_rfl) (by kernel_rfl) (by kernel_rfl) tabOk f5GOk (by kernel_rfl) (by kernel_rfl) (by kernel_rfl) (by kernel_rfl) fun X hb hp => by
    obtain ⟨v0, _⟩ := X
    obtain ⟨N, h⟩ := h v0
    exact ⟨N, (f5m N v0).trans (h N (Nat.le_refl N))⟩
theorem e5ok : EntryOk Tryd.prog 5 e5 := f5ok laws_FnExactParseLaurent.ok
end Go.Fw
