/- The ties: the program's text comes to the plain functions. Nothing is assumed. -/
import Derived.Test.YtkjnhmjfdfiklaaDoorFza
import Derived.Test.YtkjnhmjfdfiklaaDoorProg
import Derived.Test.YtkjnhmjfdfiklaaDoorPuFnExactParseIntsa
import Derived.Test.YtkjnhmjfdfiklaaDoorChecked
set_option linter.unusedVariables false
set_option linter.unusedSimpArgs false
set_option maxRecDepth 100000
namespace Go.Fw
open Go.Proofs
def tab : Tab := lookTab [
  (2, ⟨false, .int .i64, [.int .i64 0], [], none, 8⟩),
  (3, ⟨false, .int .i64, [.int .i64 0], [], none, 8⟩),
  (4, ⟨false, .bool, [.bool false], [], none, 1⟩),
  (5, ⟨false, .int .u8, [.int .u8 0], [], none, 1⟩),
  (6, ⟨false, .int .u8, [.int .u8 0], [], none, 1⟩),
  (7, ⟨true, .pair (.int .i64) (.pair (.int .i64) (.pair (.bool) (.int .u8))), [.int .i64 0, .int .i64 0, .bool false, .int .u8 0], [(0, 1, false), (1, 1, false), (2, 1, false), (3, 1, false)], none, 24⟩),
  (8, ⟨true, .pair (.int .i64) (.pair (.int .i64) (.pair (.bool) (.int .u8))), [.int .i64 0, .int .i64 0, .bool false, .int .u8 0], [(0, 1, false), (1, 1, false), (2, 1, false), (3, 1, false)], none, 24⟩),
  (9, ⟨false, .str, [.str ByteArray.empty], [], none, 16⟩),
  (10, ⟨false, .str, [.str ByteArray.empty], [], none, 16⟩),
  (11, ⟨false, .str, [.str ByteArray.empty], [], none, 16⟩),
  (12, ⟨false, .int .u64, [.int .u64 0], [], none, 8⟩),
  (13, ⟨true, .pair (.str) (.int .u64), [.str ByteArray.empty, .int .u64 0], [(0, 1, false), (1, 1, false)], none, 24⟩),
  (14, ⟨true, .pair (.str) (.int .u64), [.str ByteArray.empty, .int .u64 0], [(0, 1, false), (1, 1, false)], none, 24⟩),
  (20, ⟨false, .err, [.err false], [], none, 16⟩),
  (21, ⟨false, .int .i32, [.int .i32 0], [], none, 4⟩),
  (22, ⟨false, .sl 3 (.int .i64), [.nil], [], some 3, 24⟩),
  (28, ⟨true, .pair (.int .i64) (.pair (.int .i64) (.sl 3 (.int .i64))), [.int .i64 0, .int .i64 0, .nil], [(0, 1, false), (1, 1, false), (2, 1, false)], none, 40⟩),
  (29, ⟨true, .pair (.int .i64) (.pair (.int .i64) (.sl 3 (.int .i64))), [.int .i64 0, .int .i64 0, .nil], [(0, 1, false), (1, 1, false), (2, 1, false)], none, 40⟩),
  (34, ⟨false, .sl 61 (.pair (.sl 3 (.int .i64)) (.int .i64)), [.nil], [], some 61, 24⟩),
  (35, ⟨true, .pair (.int .i64) (.sl 61 (.pair (.sl 3 (.int .i64)) (.int .i64))), [.int .i64 0, .nil], [(0, 1, false), (1, 1, false)], none, 32⟩),
  (36, ⟨true, .pair (.int .i64) (.sl 61 (.pair (.sl 3 (.int .i64)) (.int .i64))), [.int .i64 0, .nil], [(0, 1, false), (1, 1, false)], none, 32⟩),
  (41, ⟨false, .sl 5 (.int .u8), [.nil], [], some 5, 24⟩),
  (47, ⟨false, .sl 9 (.str), [.nil], [], some 9, 24⟩),
  (52, ⟨false, .err, [.err false], [], none, 16⟩),
  (53, ⟨false, .err, [.err false], [], none, 16⟩),
  (60, ⟨true, .pair (.sl 3 (.int .i64)) (.int .i64), [.nil, .int .i64 0], [(0, 1, false), (1, 1, false)], none, 32⟩),
  (61, ⟨true, .pair (.sl 3 (.int .i64)) (.int .i64), [.nil, .int .i64 0], [(0, 1, false), (1, 1, false)], none, 32⟩),
  (80, ⟨false, .sl 22 (.sl 3 (.int .i64)), [.nil], [], some 22, 24⟩),
  (83, ⟨true, .pair (.sl 5 (.int .u8)) (.pair (.int .i64) (.int .i64)), [.nil, .int .i64 0, .int .i64 0], [(0, 1, false), (1, 1, false), (2, 1, false)], none, 40⟩),
  (84, ⟨true, .pair (.sl 5 (.int .u8)) (.pair (.int .i64) (.int .i64)), [.nil, .int .i64 0, .int .i64 0], [(0, 1, false), (1, 1, false), (2, 1, false)], none, 40⟩),
  (87, ⟨false, .sl 91 (.pair (.int .i64) (.int .i64)), [.nil], [], some 91, 24⟩),
  (90, ⟨true, .pair (.int .i64) (.int .i64), [.int .i64 0, .int .i64 0], [(0, 1, false), (1, 1, false)], none, 16⟩),
  (91, ⟨true, .pair (.int .i64) (.int .i64), [.int .i64 0, .int .i64 0], [(0, 1, false), (1, 1, false)], none, 16⟩),
  (103, ⟨false, .int .i64, [.int .i64 0], [], none, 8⟩),
  (110, ⟨false, .int .u64, [.int .u64 0], [], none, 8⟩),
  (118, ⟨false, .int .u64, [.int .u64 0], [], none, 8⟩),
  (122, ⟨true, .pair (.str) (.pair (.str) (.err)), [.str ByteArray.empty, .str ByteArray.empty, .err false], [(0, 1, false), (1, 1, false), (2, 1, false)], none, 48⟩),
  (123, ⟨true, .pair (.str) (.pair (.str) (.err)), [.str ByteArray.empty, .str ByteArray.empty, .err false], [(0, 1, false), (1, 1, false), (2, 1, false)], none, 48⟩),
  (135, ⟨true, .str, [.str ByteArray.empty], [(0, 1, false)], none, 16⟩),
  (136, ⟨true, .str, [.str ByteArray.empty], [(0, 1, false)], none, 16⟩),
  (137, ⟨false, .int .u32, [.int .u32 0], [], none, 4⟩),
  (146, ⟨true, .pair (.int .u8) (.int .u8), [.int .u8 0, .int .u8 0], [(0, 1, false), (1, 1, false)], none, 2⟩),
  (147, ⟨true, .pair (.int .u8) (.int .u8), [.int .u8 0, .int .u8 0], [(0, 1, false), (1, 1, false)], none, 2⟩),
  (162, ⟨false, .int .u8, [.int .u8 0], [], none, 1⟩),
  (163, ⟨false, .int .u8, [.int .u8 0], [], none, 1⟩),
  (165, ⟨false, .int .i32, [.int .i32 0], [], none, 4⟩),
  (166, ⟨false, .int .i32, [.int .i32 0], [], none, 4⟩)]
theorem tabOk : TOk Tryd.prog tab := TOk.of (by kernel_rfl)
noncomputable def tabl : List (String × IntKind × List Int) := [("internal/strconv.uint64pow10", .u64, Lib.pow10Tab)]
noncomputable def intl : List (String × IntKind) := [("internal/bytealg.MaxLen", .i64)]
noncomputable def errl : List String := ["strconv.ErrSyntax", "strconv.ErrRange"]
noncomputable instance : Inv Tryd.prog := Inv.tabs _ tabl intl errl
theorem tab0 (w : World) (h : Inv.I Tryd.prog w) : Lib.TabIs Tryd.prog w "internal/strconv.uint64pow10" .u64 Lib.pow10Tab := Inv.tab_mem (q := intl) (es := errl) ("internal/strconv.uint64pow10", .u64, Lib.pow10Tab) (List.mem_of_getElem? (i := 0) rfl) w h
theorem int0 (w : World) (h : Inv.I Tryd.prog w) : ∃ g, Tryd.prog.globalNamed "internal/bytealg.MaxLen" = some g ∧ ∃ m, w.cell? ⟨g, 0, none⟩ = some (.int .i64 m) := Inv.int_mem (l := tabl) (es := errl) ("internal/bytealg.MaxLen", .i64) (List.mem_of_getElem? (i := 0) rfl) w h
theorem err0 (w : World) (h : Inv.I Tryd.prog w) : ∃ g, Tryd.prog.globalNamed "strconv.ErrSyntax" = some g ∧ ∃ v b, w.cell? ⟨g, 0, none⟩ = some v ∧ ErrV v b := Inv.err_mem (l := tabl) (q := intl) "strconv.ErrSyntax" (List.mem_of_getElem? (i := 0) rfl) w h
theorem err1 (w : World) (h : Inv.I Tryd.prog w) : ∃ g, Tryd.prog.globalNamed "strconv.ErrRange" = some g ∧ ∃ v b, w.cell? ⟨g, 0, none⟩ = some v ∧ ErrV v b := Inv.err_mem (l := tabl) (q := intl) "strconv.ErrRange" (List.mem_of_getElem? (i := 1) rfl) w h
end Go.Fw
namespace Go.Fw
variable {ρ : Type}
open Go.Proofs
noncomputable def f29sig : Sig := ⟨[⟨.str, false, false⟩, ⟨.int .u8, false, false⟩], [⟨.sl 9 (.str), false, false⟩]⟩
noncomputable def e29 : Entry := ⟨f29sig, (some fun X => spec_l1Split.P X.1 X.2.1), fun X => ((), ((spec_l1Split.g X.1 X.2.1), ()))⟩
noncomputable def f29G : Gm := emptyG
theorem f29GOk : GOk Tryd.prog f29G := GOk.nil
noncomputable def f29lE : Clean := ⟨[], [], [], [], []⟩
noncomputable def f29s0 (v0 : ByteArray) (v1 : Int) : St := initSt f29sig.ps (v0, (v1, ()))
noncomputable def f29s1 (v0 : ByteArray) (v1 : Int) : St := stOf [(0, .c (.str v0)), (1, .c (.int .u8 v1))] [] []
noncomputable def f29l1 : Clean := ⟨[0, 1], [], [], [], []⟩
noncomputable def f29s2 (v5 : List ByteArray) (v0 : ByteArray) (v1 : Int) : St := stOf [(0, .c (.str v0)), (1, .c (.int .u8 v1)), (5, xo 1000320)] [] [(1000320, (⟨9, .str, v5, true, false⟩ : Row))]
noncomputable def f29l2 : Clean := ⟨[0, 1, 5], [], [], [], [(⟨false, 5, 0⟩, 1000320)]⟩
noncomputable def f29s3 (v5 : List ByteArray) (v0 : ByteArray) (v1 v6 : Int) : St := stOf [(0, .c (.str v0)), (1, .c (.int .u8 v1)), (5, xo 1000320), (6, xi v6)] [] [(1000320, (⟨9, .str, v5, true, false⟩ : Row))]
noncomputable def f29l3 : Clean := ⟨[0, 1, 5, 6], [], [], [], [(⟨false, 5, 0⟩, 1000320)]⟩
noncomputable def f29s4 (v5 : List ByteArray) (v0 : ByteArray) (v1 v6 v7 : Int) : St := stOf [(0, .c (.str v0)), (1, .c (.int .u8 v1)), (5, xo 1000320), (6, xi v6), (7, xi v7)] [] [(1000320, (⟨9, .str, v5, true, false⟩ : Row))]
noncomputable def f29l4 : Clean := ⟨[0, 1, 5, 6, 7], [], [], [], [(⟨false, 5, 0⟩, 1000320)]⟩
noncomputable def f29s5 (v5 : List ByteArray) : St := stOf [(5, xo 1000320)] [] [(1000320, (⟨9, .str, v5, true, false⟩ : Row))]
noncomputable def f29l5 : Clean := ⟨[5], [], [], [], [(⟨false, 5, 0⟩, 1000320)]⟩
noncomputable def f29s6 (v4 : List ByteArray) : St := stOf [(4, xo 1000256)] [] [(1000256, (⟨9, .str, v4, true, false⟩ : Row))]
noncomputable def f29l6 : Clean := ⟨[4], [], [], [], [(⟨false, 4, 0⟩, 1000256)]⟩
noncomputable def f29B : Nat → Option Clean := lookL [(0, f29l5), (1000000, f29l6)]
noncomputable abbrev f29i {ρ : Type} (N : Nat) (c : Code) (p : Plan) (σ : St) (K : KT ρ) : Option ρ := iCode f29G tab f29B N c p σ K
noncomputable def f29c (n : Nat) : Code := codeN 99 (bodyOf Tryd.f29) n
theorem f29t1 N v0 v1 (K : KT ρ) : f29i N (f29c 2) .n (f29s0 v0 v1) (joinK (some f29l1) K) =
  spec_l1Split.Z1 N v0 v1 (fun v0 v1 => K .nrm (f29s1 v0 v1)) := by kernel_rfl
theorem f29t3 N v0 v1 (K : KT ρ) : f29i N (f29c 5) .n (f29s1 v0 v1) (joinK (some f29l2) K) =
  spec_l1Split.Z3 N v0 v1 (fun v5 v0 v1 => K .nrm (f29s2 v5 v0 v1)) := by kernel_rfl
theorem f29t5 N v5 v0 v1 (K : KT ρ) : f29i N (f29c 11) .n (f29s2 v5 v0 v1) (joinK (some f29l3) K) =
  spec_l1Split.Z5 N v5 v0 v1 (fun v5 v0 v1 v6 => K .nrm (f29s3 v5 v0 v1 v6)) := by kernel_rfl
theorem f29t8 N v5 v0 v1 v6 (K : KT ρ) : f29i N (f29c 39) .n (f29s3 v5 v0 v1 v6) (joinK (some f29l4) K) =
  spec_l1Split.Z8 N v5 v0 v1 v6 (fun v5 v0 v1 v6 v7 => K .nrm (f29s4 v5 v0 v1 v6 v7)) := by kernel_rfl
theorem f29t11 N v5 v0 v1 v6 v7 (K : KT ρ) : f29i N (f29c 151) .n (f29s4 v5 v0 v1 v6 v7) (joinK (some f29l4) K) =
  spec_l1Split.Z11 N v5 v0 v1 v6 v7 (fun v5 v0 v1 v6 v7 => K .nrm (f29s4 v5 v0 v1 v6 v7)) (fun v5 => K (.exit 0) (f29s5 v5)) := by kernel_rfl
noncomputable def f29p10 : Plan := .mk none (some f29l4) .n .n
noncomputable abbrev f29w10 {ρ : Type} (N M : Nat) (σ : St) (K : KT ρ) : Option ρ := loopC (fun σ K => f29i N (f29c 151) .n σ K) f29l4 M σ K
theorem f29t10L {ρ : Type} (N : Nat) (K : KT ρ) : ∀ (M : Nat) (v5 : List ByteArray) (v0 : ByteArray) (v1 v6 v7 : Int), f29w10 N M (f29s4 v5 v0 v1 v6 v7) K =
  spec_l1Split.Z10L N (fun v5 => K (.exit 0) (f29s5 v5)) M v5 v0 v1 v6 v7
  | 0, _, _, _, _, _ => rfl
  | M + 1, v5, v0, v1, v6, v7 => viaRoundS (fun k => spec_l1Split.Z11 N v5 v0 v1 v6 v7 k (fun v5 => K (.exit 0) (f29s5 v5))) (f29t11 N (K := seqK (fun σ => f29w10 N M σ K) K) ..) (fx5 fun v5 v0 v1 v6 v7 => f29t10L N K M v5 v0 v1 v6 v7) (by kernel_rfl)
theorem f29t10 N v5 v0 v1 v6 v7 (K : KT ρ) : f29i N (f29c 87) f29p10 (f29s4 v5 v0 v1 v6 v7) (joinK (some f29l5) K) =
  spec_l1Split.Z10 N v5 v0 v1 v6 v7 (fun v5 => K (.exit 0) (f29s5 v5)) :=
 viaLoopS (by kernel_rfl) (f29t10L N (joinK (some f29l5) K) N v5 v0 v1 v6 v7) (by kernel_rfl)
noncomputable def f29p9 : Plan := .mk (some f29l5) none f29p10 .n
theorem f29t9 N v5 v0 v1 v6 v7 (K : KT ρ) : f29i N (f29c 55) f29p9 (f29s4 v5 v0 v1 v6 v7) (joinK (some f29l5) K) =
  spec_l1Split.Z9 N v5 v0 v1 v6 v7 (fun v5 => K .nrm (f29s5 v5)) :=
 viaBlockS (by kernel_rfl) (f29t10 N (K := blockK 0 (joinK (some f29l5) K)) ..) (by kernel_rfl)
noncomputable def f29p7 : Plan := .mk (some f29l4) none .n f29p9
theorem f29t7 N v5 v0 v1 v6 (K : KT ρ) : f29i N (f29c 23) f29p7 (f29s3 v5 v0 v1 v6) (joinK (some f29l5) K) =
  spec_l1Split.Z7 N v5 v0 v1 v6 (fun v5 => K .nrm (f29s5 v5)) :=
 viaSeqS (fun k => spec_l1Split.Z8 N v5 v0 v1 v6 k) (by kernel_rfl) (f29t8 N (K := seqK (fun σ => f29i N (f29c 55) f29p9 σ (joinK (some f29l5) K)) (joinK (some f29l5) K)) ..) (fx5 fun v5 v0 v1 v6 v7 => f29t9 N v5 v0 v1 v6 v7 K) (by kernel_rfl)
theorem f29t12 N v5 (K : KT ρ) : f29i N (f29c 31) .n (f29s5 v5) (joinK (some f29lE) K) =
  spec_l1Split.Z12 N v5 (fun v4 => K .ret (f29s6 v4)) := by kernel_rfl
noncomputable def f29p6 : Plan := .mk (some f29l5) none f29p7 .n
theorem f29t6 N v5 v0 v1 v6 (K : KT ρ) : f29i N (f29c 15) f29p6 (f29s3 v5 v0 v1 v6) (joinK (some f29lE) K) =
  spec_l1Split.Z6 N v5 v0 v1 v6 (fun v4 => K .ret (f29s6 v4)) :=
 viaSeqS (fun k => spec_l1Split.Z7 N v5 v0 v1 v6 k) (by kernel_rfl) (f29t7 N (K := seqK (fun σ => f29i N (f29c 31) .n σ (joinK (some f29lE) K)) (joinK (some f29lE) K)) ..) (funext fun v5 => f29t12 N v5 K) (by kernel_rfl)
noncomputable def f29p4 : Plan := .mk (some f29l3) none .n f29p6
theorem f29t4 N v5 v0 v1 (K : KT ρ) : f29i N (f29c 7) f29p4 (f29s2 v5 v0 v1) (joinK (some f29lE) K) =
  spec_l1Split.Z4 N v5 v0 v1 (fun v4 => K .ret (f29s6 v4)) :=
 viaSeqS (fun k => spec_l1Split.Z5 N v5 v0 v1 k) (by kernel_rfl) (f29t5 N (K := seqK (fun σ => f29i N (f29c 15) f29p6 σ (joinK (some f29lE) K)) (joinK (some f29lE) K)) ..) (fx4 fun v5 v0 v1 v6 => f29t6 N v5 v0 v1 v6 K) (by kernel_rfl)
noncomputable def f29p2 : Plan := .mk (some f29l2) none .n f29p4
theorem f29t2 N v0 v1 (K : KT ρ) : f29i N (f29c 3) f29p2 (f29s1 v0 v1) (joinK (some f29lE) K) =
  spec_l1Split.Z2 N v0 v1 (fun v4 => K .ret (f29s6 v4)) :=
 viaSeqS (fun k => spec_l1Split.Z3 N v0 v1 k) (by kernel_rfl) (f29t3 N (K := seqK (fun σ => f29i N (f29c 7) f29p4 σ (joinK (some f29lE) K)) (joinK (some f29lE) K)) ..) (fx3 fun v5 v0 v1 => f29t4 N v5 v0 v1 K) (by kernel_rfl)
noncomputable def f29p0 : Plan := .mk (some f29l1) none .n f29p2
theorem f29t0 N v0 v1 (K : KT ρ) : f29i N (f29c 1) f29p0 (f29s0 v0 v1) (joinK (some f29lE) K) =
  spec_l1Split.Z0 N v0 v1 (fun v4 => K .ret (f29s6 v4)) :=
 viaSeqS (fun k => spec_l1Split.Z1 N v0 v1 k) (by kernel_rfl) (f29t1 N (K := seqK (fun σ => f29i N (f29c 3) f29p2 σ (joinK (some f29lE) K)) (joinK (some f29lE) K)) ..) (fx2 fun v0 v1 => f29t2 N v0 v1 K) (by kernel_rfl)
theorem f29m (N : Nat) (v0 : ByteArray) (v1 : Int) : f29i N (f29c 1) f29p0 (f29s0 v0 v1) (joinK (some f29lE) (finK tab f29sig Tryd.f29.results.toList)) = spec_l1Split.Z0 N v0 v1 (fun v4 => some ((), (v4, ()))) :=
  (f29t0 N v0 v1 (finK tab f29sig Tryd.f29.results.toList)).trans (by kernel_rfl)
theorem f29ok (h : spec_l1Split.Spec) : EntryOk Tryd.prog 29 e29 :=
  entry_of_code (sig := f29sig) (c := (f29c 1)) (pl := f29p0) (je := (some f29lE)) (B := f29B) Tryd.func29 (by kernel_rfl) (by kernel_rfl) (by kernel_rfl) tabOk f29GOk (by kernel_rfl) (by kernel_rfl) (by kernel_rfl) (by kernel_rfl) fun X hb hp => by
    obtain ⟨v0, v1, _⟩ := X
    obtain ⟨N, h⟩ := h v0 v1 hp
    exact ⟨N, (f29m N v0 v1).trans (h N (Nat.le_refl N))⟩
theorem e29ok : EntryOk Tryd.prog 29 e29 := f29ok spec_l1Split.ok
end Go.Fw
namespace Go.Fw
variable {ρ : Type}
open Go.Proofs
noncomputable def f56sig : Sig := ⟨[⟨.int .i64, false, false⟩], [⟨.str, false, false⟩]⟩
noncomputable def e56 : Entry := ⟨f56sig, (some fun X => spec_FormatInt.P X.1), fun X => ((), ((spec_FormatInt.g X.1), ()))⟩
noncomputable def f56G : Gm := emptyG
theorem f56GOk : GOk Tryd.prog f56G := GOk.nil
noncomputable def f56lE : Clean := ⟨[], [], [], [], []⟩
noncomputable def f56s0 (v0 : Int) : St := initSt f56sig.ps (v0, ())
noncomputable def f56s1 (v0 : Int) : St := stOf [(0, xi v0)] [] []
noncomputable def f56l1 : Clean := ⟨[0], [], [], [], []⟩
noncomputable def f56s2 (v3 : List Int) (v0 : Int) : St := stOf [(0, xi v0), (3, xo 1000192)] [] [(1000192, (⟨5, .int .u8, v3, true, false⟩ : Row))]
noncomputable def f56l2 : Clean := ⟨[0, 3], [], [], [], [(⟨false, 3, 0⟩, 1000192)]⟩
noncomputable def f56s3 (v3 : List Int) (v0 v4 : Int) : St := stOf [(0, xi v0), (3, xo 1000192), (4, xi v4)] [] [(1000192, (⟨5, .int .u8, v3, true, false⟩ : Row))]
noncomputable def f56l3 : Clean := ⟨[0, 3, 4], [], [], [], [(⟨false, 3, 0⟩, 1000192)]⟩
noncomputable def f56s4 (v3 v6 : List Int) (v0 : Int) : St := stOf [(0, xi v0), (3, xo 1000192), (6, xo 1000384)] [] [(1000192, (⟨5, .int .u8, v3, true, false⟩ : Row)), (1000384, (⟨5, .int .u8, v6, true, false⟩ : Row))]
noncomputable def f56l4 : Clean := ⟨[0, 3, 6], [], [], [], [(⟨false, 3, 0⟩, 1000192), (⟨false, 6, 0⟩, 1000384)]⟩
noncomputable def f56s5 (v3 v6 : List Int) : St := stOf [(3, xo 1000192), (6, xo 1000384)] [] [(1000192, (⟨5, .int .u8, v3, true, false⟩ : Row)), (1000384, (⟨5, .int .u8, v6, true, false⟩ : Row))]
noncomputable def f56l5 : Clean := ⟨[3, 6], [], [], [], [(⟨false, 3, 0⟩, 1000192), (⟨false, 6, 0⟩, 1000384)]⟩
noncomputable def f56s6 (v3 v6 : List Int) (v7 : Int) : St := stOf [(3, xo 1000192), (6, xo 1000384), (7, xi v7)] [] [(1000192, (⟨5, .int .u8, v3, true, false⟩ : Row)), (1000384, (⟨5, .int .u8, v6, true, false⟩ : Row))]
noncomputable def f56l6 : Clean := ⟨[3, 6, 7], [], [], [], [(⟨false, 3, 0⟩, 1000192), (⟨false, 6, 0⟩, 1000384)]⟩
noncomputable def f56s7 (v6 : List Int) : St := stOf [(6, xo 1000384)] [] [(1000384, (⟨5, .int .u8, v6, true, false⟩ : Row))]
noncomputable def f56l7 : Clean := ⟨[6], [], [], [], [(⟨false, 6, 0⟩, 1000384)]⟩
noncomputable def f56s8 (v2 : ByteArray) : St := stOf [(2, .c (.str v2))] [] []
noncomputable def f56l8 : Clean := ⟨[2], [], [], [], []⟩
noncomputable def f56B : Nat → Option Clean := lookL [(0, f56l2), (2, f56l7), (1000000, f56l8)]
noncomputable abbrev f56i {ρ : Type} (N : Nat) (c : Code) (p : Plan) (σ : St) (K : KT ρ) : Option ρ := iCode f56G tab f56B N c p σ K
noncomputable def f56c (n : Nat) : Code := codeN 99 (bodyOf Tryd.f56) n
theorem f56t1 N v0 (K : KT ρ) : f56i N (f56c 2) .n (f56s0 v0) (joinK (some f56l1) K) =
  spec_FormatInt.Z1 N v0 (fun v0 => K .nrm (f56s1 v0)) := by kernel_rfl
theorem f56t3 N v0 (K : KT ρ) : f56i N (f56c 5) .n (f56s1 v0) (joinK (some f56l2) K) =
  spec_FormatInt.Z3 N v0 (fun v3 v0 => K .nrm (f56s2 v3 v0)) := by kernel_rfl
theorem f56t5 N v3 v0 (K : KT ρ) : f56i N (f56c 11) .n (f56s2 v3 v0) (joinK (some f56l3) K) =
  spec_FormatInt.Z5 N v3 v0 (fun v3 v0 v4 => K .nrm (f56s3 v3 v0 v4)) := by kernel_rfl
theorem f56t9 N v3 v0 v4 (K : KT ρ) : f56i N (f56c 71) .n (f56s3 v3 v0 v4) (joinK (some f56l3) K) =
  spec_FormatInt.Z9 N v3 v0 v4 (fun v3 v0 v4 => K .nrm (f56s3 v3 v0 v4)) (fun v3 v0 => K (.exit 0) (f56s2 v3 v0)) := by kernel_rfl
noncomputable def f56p8 : Plan := .mk none (some f56l3) .n .n
noncomputable abbrev f56w8 {ρ : Type} (N M : Nat) (σ : St) (K : KT ρ) : Option ρ := loopC (fun σ K => f56i N (f56c 71) .n σ K) f56l3 M σ K
theorem f56t8L {ρ : Type} (N : Nat) (K : KT ρ) : ∀ (M : Nat) (v3 : List Int) (v0 v4 : Int), f56w8 N M (f56s3 v3 v0 v4) K =
  spec_FormatInt.Z8L N (fun v3 v0 => K (.exit 0) (f56s2 v3 v0)) M v3 v0 v4
  | 0, _, _, _ => rfl
  | M + 1, v3, v0, v4 => viaRoundS (fun k => spec_FormatInt.Z9 N v3 v0 v4 k (fun v3 v0 => K (.exit 0) (f56s2 v3 v0))) (f56t9 N (K := seqK (fun σ => f56w8 N M σ K) K) ..) (fx3 fun v3 v0 v4 => f56t8L N K M v3 v0 v4) (by kernel_rfl)
theorem f56t8 N v3 v0 v4 (K : KT ρ) : f56i N (f56c 39) f56p8 (f56s3 v3 v0 v4) (joinK (some f56l2) K) =
  spec_FormatInt.Z8 N v3 v0 v4 (fun v3 v0 => K (.exit 0) (f56s2 v3 v0)) :=
 viaLoopS (by kernel_rfl) (f56t8L N (joinK (some f56l2) K) N v3 v0 v4) (by kernel_rfl)
noncomputable def f56p7 : Plan := .mk (some f56l2) none f56p8 .n
theorem f56t7 N v3 v0 v4 (K : KT ρ) : f56i N (f56c 23) f56p7 (f56s3 v3 v0 v4) (joinK (some f56l2) K) =
  spec_FormatInt.Z7 N v3 v0 v4 (fun v3 v0 => K .nrm (f56s2 v3 v0)) :=
 viaBlockS (by kernel_rfl) (f56t8 N (K := blockK 0 (joinK (some f56l2) K)) ..) (by kernel_rfl)
theorem f56t11 N v3 v0 (K : KT ρ) : f56i N (f56c 47) .n (f56s2 v3 v0) (joinK (some f56l4) K) =
  spec_FormatInt.Z11 N v3 v0 (fun v3 v6 v0 => K .nrm (f56s4 v3 v6 v0)) := by kernel_rfl
theorem f56t13 N v3 v6 v0 (K : KT ρ) : f56i N (f56c 95) .n (f56s4 v3 v6 v0) (joinK (some f56l5) K) =
  spec_FormatInt.Z13 N v3 v6 v0 (fun v3 v6 => K .nrm (f56s5 v3 v6)) := by kernel_rfl
theorem f56t16 N v3 v6 (K : KT ρ) : f56i N (f56c 319) .n (f56s5 v3 v6) (joinK (some f56l6) K) =
  spec_FormatInt.Z16 N v3 v6 (fun v3 v6 v7 => K .nrm (f56s6 v3 v6 v7)) := by kernel_rfl
theorem f56t19 N v3 v6 v7 (K : KT ρ) : f56i N (f56c 1215) .n (f56s6 v3 v6 v7) (joinK (some f56l6) K) =
  spec_FormatInt.Z19 N v3 v6 v7 (fun v3 v6 v7 => K .nrm (f56s6 v3 v6 v7)) (fun v6 => K (.exit 2) (f56s7 v6)) := by kernel_rfl
noncomputable def f56p18 : Plan := .mk none (some f56l6) .n .n
noncomputable abbrev f56w18 {ρ : Type} (N M : Nat) (σ : St) (K : KT ρ) : Option ρ := loopC (fun σ K => f56i N (f56c 1215) .n σ K) f56l6 M σ K
theorem f56t18L {ρ : Type} (N : Nat) (K : KT ρ) : ∀ (M : Nat) (v3 v6 : List Int) (v7 : Int), f56w18 N M (f56s6 v3 v6 v7) K =
  spec_FormatInt.Z18L N (fun v6 => K (.exit 2) (f56s7 v6)) M v3 v6 v7
  | 0, _, _, _ => rfl
  | M + 1, v3, v6, v7 => viaRoundS (fun k => spec_FormatInt.Z19 N v3 v6 v7 k (fun v6 => K (.exit 2) (f56s7 v6))) (f56t19 N (K := seqK (fun σ => f56w18 N M σ K) K) ..) (fx3 fun v3 v6 v7 => f56t18L N K M v3 v6 v7) (by kernel_rfl)
theorem f56t18 N v3 v6 v7 (K : KT ρ) : f56i N (f56c 703) f56p18 (f56s6 v3 v6 v7) (joinK (some f56l7) K) =
  spec_FormatInt.Z18 N v3 v6 v7 (fun v6 => K (.exit 2) (f56s7 v6)) :=
 viaLoopS (by kernel_rfl) (f56t18L N (joinK (some f56l7) K) N v3 v6 v7) (by kernel_rfl)
noncomputable def f56p17 : Plan := .mk (some f56l7) none f56p18 .n
theorem f56t17 N v3 v6 v7 (K : KT ρ) : f56i N (f56c 447) f56p17 (f56s6 v3 v6 v7) (joinK (some f56l7) K) =
  spec_FormatInt.Z17 N v3 v6 v7 (fun v6 => K .nrm (f56s7 v6)) :=
 viaBlockS (by kernel_rfl) (f56t18 N (K := blockK 2 (joinK (some f56l7) K)) ..) (by kernel_rfl)
noncomputable def f56p15 : Plan := .mk (some f56l6) none .n f56p17
theorem f56t15 N v3 v6 (K : KT ρ) : f56i N (f56c 191) f56p15 (f56s5 v3 v6) (joinK (some f56l7) K) =
  spec_FormatInt.Z15 N v3 v6 (fun v6 => K .nrm (f56s7 v6)) :=
 viaSeqS (fun k => spec_FormatInt.Z16 N v3 v6 k) (by kernel_rfl) (f56t16 N (K := seqK (fun σ => f56i N (f56c 447) f56p17 σ (joinK (some f56l7) K)) (joinK (some f56l7) K)) ..) (fx3 fun v3 v6 v7 => f56t17 N v3 v6 v7 K) (by kernel_rfl)
theorem f56t20 N v6 (K : KT ρ) : f56i N (f56c 255) .n (f56s7 v6) (joinK (some f56lE) K) =
  spec_FormatInt.Z20 N v6 (fun v2 => K .ret (f56s8 v2)) := by kernel_rfl
noncomputable def f56p14 : Plan := .mk (some f56l7) none f56p15 .n
theorem f56t14 N v3 v6 (K : KT ρ) : f56i N (f56c 127) f56p14 (f56s5 v3 v6) (joinK (some f56lE) K) =
  spec_FormatInt.Z14 N v3 v6 (fun v2 => K .ret (f56s8 v2)) :=
 viaSeqS (fun k => spec_FormatInt.Z15 N v3 v6 k) (by kernel_rfl) (f56t15 N (K := seqK (fun σ => f56i N (f56c 255) .n σ (joinK (some f56lE) K)) (joinK (some f56lE) K)) ..) (funext fun v6 => f56t20 N v6 K) (by kernel_rfl)
noncomputable def f56p12 : Plan := .mk (some f56l5) none .n f56p14
theorem f56t12 N v3 v6 v0 (K : KT ρ) : f56i N (f56c 63) f56p12 (f56s4 v3 v6 v0) (joinK (some f56lE) K) =
  spec_FormatInt.Z12 N v3 v6 v0 (fun v2 => K .ret (f56s8 v2)) :=
 viaSeqS (fun k => spec_FormatInt.Z13 N v3 v6 v0 k) (by kernel_rfl) (f56t13 N (K := seqK (fun σ => f56i N (f56c 127) f56p14 σ (joinK (some f56lE) K)) (joinK (some f56lE) K)) ..) (fx2 fun v3 v6 => f56t14 N v3 v6 K) (by kernel_rfl)
noncomputable def f56p10 : Plan := .mk (some f56l4) none .n f56p12
theorem f56t10 N v3 v0 (K : KT ρ) : f56i N (f56c 31) f56p10 (f56s2 v3 v0) (joinK (some f56lE) K) =
  spec_FormatInt.Z10 N v3 v0 (fun v2 => K .ret (f56s8 v2)) :=
 viaSeqS (fun k => spec_FormatInt.Z11 N v3 v0 k) (by kernel_rfl) (f56t11 N (K := seqK (fun σ => f56i N (f56c 63) f56p12 σ (joinK (some f56lE) K)) (joinK (some f56lE) K)) ..) (fx3 fun v3 v6 v0 => f56t12 N v3 v6 v0 K) (by kernel_rfl)
noncomputable def f56p6 : Plan := .mk (some f56l2) none f56p7 f56p10
theorem f56t6 N v3 v0 v4 (K : KT ρ) : f56i N (f56c 15) f56p6 (f56s3 v3 v0 v4) (joinK (some f56lE) K) =
  spec_FormatInt.Z6 N v3 v0 v4 (fun v2 => K .ret (f56s8 v2)) :=
 viaSeqS (fun k => spec_FormatInt.Z7 N v3 v0 v4 k) (by kernel_rfl) (f56t7 N (K := seqK (fun σ => f56i N (f56c 31) f56p10 σ (joinK (some f56lE) K)) (joinK (some f56lE) K)) ..) (fx2 fun v3 v0 => f56t10 N v3 v0 K) (by kernel_rfl)
noncomputable def f56p4 : Plan := .mk (some f56l3) none .n f56p6
theorem f56t4 N v3 v0 (K : KT ρ) : f56i N (f56c 7) f56p4 (f56s2 v3 v0) (joinK (some f56lE) K) =
  spec_FormatInt.Z4 N v3 v0 (fun v2 => K .ret (f56s8 v2)) :=
 viaSeqS (fun k => spec_FormatInt.Z5 N v3 v0 k) (by kernel_rfl) (f56t5 N (K := seqK (fun σ => f56i N (f56c 15) f56p6 σ (joinK (some f56lE) K)) (joinK (some f56lE) K)) ..) (fx3 fun v3 v0 v4 => f56t6 N v3 v0 v4 K) (by kernel_rfl)
noncomputable def f56p2 : Plan := .mk (some f56l2) none .n f56p4
theorem f56t2 N v0 (K : KT ρ) : f56i N (f56c 3) f56p2 (f56s1 v0) (joinK (some f56lE) K) =
  spec_FormatInt.Z2 N v0 (fun v2 => K .ret (f56s8 v2)) :=
 viaSeqS (fun k => spec_FormatInt.Z3 N v0 k) (by kernel_rfl) (f56t3 N (K := seqK (fun σ => f56i N (f56c 7) f56p4 σ (joinK (some f56lE) K)) (joinK (some f56lE) K)) ..) (fx2 fun v3 v0 => f56t4 N v3 v0 K) (by kernel_rfl)
noncomputable def f56p0 : Plan := .mk (some f56l1) none .n f56p2
theorem f56t0 N v0 (K : KT ρ) : f56i N (f56c 1) f56p0 (f56s0 v0) (joinK (some f56lE) K) =
  spec_FormatInt.Z0 N v0 (fun v2 => K .ret (f56s8 v2)) :=
 viaSeqS (fun k => spec_FormatInt.Z1 N v0 k) (by kernel_rfl) (f56t1 N (K := seqK (fun σ => f56i N (f56c 3) f56p2 σ (joinK (some f56lE) K)) (joinK (some f56lE) K)) ..) (funext fun v0 => f56t2 N v0 K) (by kernel_rfl)
theorem f56m (N : Nat) (v0 : Int) : f56i N (f56c 1) f56p0 (f56s0 v0) (joinK (some f56lE) (finK tab f56sig Tryd.f56.results.toList)) = spec_FormatInt.Z0 N v0 (fun v2 => some ((), (v2, ()))) :=
  (f56t0 N v0 (finK tab f56sig Tryd.f56.results.toList)).trans (by kernel_rfl)
theorem f56ok (h : spec_FormatInt.Spec) : EntryOk Tryd.prog 56 e56 :=
  entry_of_code (sig := f56sig) (c := (f56c 1)) (pl := f56p0) (je := (some f56lE)) (B := f56B) Tryd.func56 (by kernel_rfl) (by kernel_rfl) (by kernel_rfl) tabOk f56GOk (by kernel_rfl) (by kernel_rfl) (by kernel_rfl) (by kernel_rfl) fun X hb hp => by
    obtain ⟨v0, _⟩ := X
    obtain ⟨N, h⟩ := h v0 hp
    exact ⟨N, (f56m N v0).trans (h N (Nat.le_refl N))⟩
theorem e56ok : EntryOk Tryd.prog 56 e56 := f56ok spec_FormatInt.ok
end Go.Fw
namespace Go.Fw
variable {ρ : Type}
open Go.Proofs
noncomputable def f30sig : Sig := ⟨[⟨.str, false, false⟩], [⟨.int .i64, false, false⟩, ⟨.bool, false, false⟩]⟩
noncomputable def e30 : Entry := ⟨f30sig, none, fun X => ((), ((spec_l1Number.g X.1).1, ((spec_l1Number.g X.1).2, ())))⟩
noncomputable def f30G : Gm := addG emptyG 56 e56
theorem f30GOk : GOk Tryd.prog f30G := (GOk.nil).add e56ok (by kernel_rfl)
noncomputable def f30lE : Clean := ⟨[], [], [], [], []⟩
noncomputable def f30s0 (v0 : ByteArray) : St := initSt f30sig.ps (v0, ())
noncomputable def f30s1 (v0 : ByteArray) : St := stOf [(0, .c (.str v0))] [] []
noncomputable def f30l1 : Clean := ⟨[0], [], [], [], []⟩
noncomputable def f30s2 (v0 : ByteArray) (v4 : Int) : St := stOf [(0, .c (.str v0)), (4, xi v4)] [] []
noncomputable def f30l2 : Clean := ⟨[0, 4], [], [], [], []⟩
noncomputable def f30s3 (v0 : ByteArray) (v4 v5 : Int) : St := stOf [(0, .c (.str v0)), (4, xi v4), (5, xi v5)] [] []
noncomputable def f30l3 : Clean := ⟨[0, 4, 5], [], [], [], []⟩
noncomputable def f30s4 (v0 : ByteArray) (v4 v5 v6 : Int) : St := stOf [(0, .c (.str v0)), (4, xi v4), (5, xi v5), (6, xi v6)] [] []
noncomputable def f30l4 : Clean := ⟨[0, 4, 5, 6], [], [], [], []⟩
noncomputable def f30s5 (v2 : Int) (v3 : Bool) : St := stOf [(2, xi v2), (3, xB v3)] [] []
noncomputable def f30l5 : Clean := ⟨[2, 3], [], [], [], []⟩
noncomputable def f30B : Nat → Option Clean := lookL [(0, f30l3), (1000000, f30l5)]
noncomputable abbrev f30i {ρ : Type} (N : Nat) (c : Code) (p : Plan) (σ : St) (K : KT ρ) : Option ρ := iCode f30G tab f30B N c p σ K
noncomputable def f30c (n : Nat) : Code := codeN 99 (bodyOf Tryd.f30) n
theorem f30t1 N v0 (K : KT ρ) : f30i N (f30c 2) .n (f30s0 v0) (joinK (some f30l1) K) =
  spec_l1Number.Z1 N v0 (fun v0 => K .nrm (f30s1 v0)) := by kernel_rfl
theorem f30t3 N v0 (K : KT ρ) : f30i N (f30c 5) .n (f30s1 v0) (joinK (some f30l2) K) =
  spec_l1Number.Z3 N v0 (fun v0 v4 => K .nrm (f30s2 v0 v4)) := by kernel_rfl
theorem f30t5 N v0 v4 (K : KT ρ) : f30i N (f30c 11) .n (f30s2 v0 v4) (joinK (some f30l2) K) =
  spec_l1Number.Z5 N v0 v4 (fun v0 v4 => K .nrm (f30s2 v0 v4)) := by kernel_rfl
theorem f30t7 N v0 v4 (K : KT ρ) : f30i N (f30c 23) .n (f30s2 v0 v4) (joinK (some f30l2) K) =
  spec_l1Number.Z7 N v0 v4 (fun v0 v4 => K .nrm (f30s2 v0 v4)) (fun v2 v3 => K .ret (f30s5 v2 v3)) := by kernel_rfl
theorem f30t9 N v0 v4 (K : KT ρ) : f30i N (f30c 47) .n (f30s2 v0 v4) (joinK (some f30l3) K) =
  spec_l1Number.Z9 N v0 v4 (fun v0 v4 v5 => K .nrm (f30s3 v0 v4 v5)) := by kernel_rfl
theorem f30t12 N v0 v4 v5 (K : KT ρ) : f30i N (f30c 159) .n (f30s3 v0 v4 v5) (joinK (some f30l4) K) =
  spec_l1Number.Z12 N v0 v4 v5 (fun v0 v4 v5 v6 => K .nrm (f30s4 v0 v4 v5 v6)) := by kernel_rfl
theorem f30t15 N v0 v4 v5 v6 (K : KT ρ) : f30i N (f30c 607) .n (f30s4 v0 v4 v5 v6) (joinK (some f30l4) K) =
  spec_l1Number.Z15 N v0 v4 v5 v6 (fun v0 v4 v5 v6 => K .nrm (f30s4 v0 v4 v5 v6)) (fun v0 v4 v5 => K (.exit 0) (f30s3 v0 v4 v5)) (fun v2 v3 => K .ret (f30s5 v2 v3)) := by kernel_rfl
noncomputable def f30p14 : Plan := .mk none (some f30l4) .n .n
noncomputable abbrev f30w14 {ρ : Type} (N M : Nat) (σ : St) (K : KT ρ) : Option ρ := loopC (fun σ K => f30i N (f30c 607) .n σ K) f30l4 M σ K
theorem f30t14L {ρ : Type} (N : Nat) (K : KT ρ) : ∀ (M : Nat) (v0 : ByteArray) (v4 v5 v6 : Int), f30w14 N M (f30s4 v0 v4 v5 v6) K =
  spec_l1Number.Z14L N (fun v0 v4 v5 => K (.exit 0) (f30s3 v0 v4 v5)) (fun v2 v3 => K .ret (f30s5 v2 v3)) M v0 v4 v5 v6
  | 0, _, _, _, _ => rfl
  | M + 1, v0, v4, v5, v6 => viaRoundS (fun k => spec_l1Number.Z15 N v0 v4 v5 v6 k (fun v0 v4 v5 => K (.exit 0) (f30s3 v0 v4 v5)) (fun v2 v3 => K .ret (f30s5 v2 v3))) (f30t15 N (K := seqK (fun σ => f30w14 N M σ K) K) ..) (fx4 fun v0 v4 v5 v6 => f30t14L N K M v0 v4 v5 v6) (by kernel_rfl)
theorem f30t14 N v0 v4 v5 v6 (K : KT ρ) : f30i N (f30c 351) f30p14 (f30s4 v0 v4 v5 v6) (joinK (some f30l3) K) =
  spec_l1Number.Z14 N v0 v4 v5 v6 (fun v0 v4 v5 => K (.exit 0) (f30s3 v0 v4 v5)) (fun v2 v3 => K .ret (f30s5 v2 v3)) :=
 viaLoopS (by kernel_rfl) (f30t14L N (joinK (some f30l3) K) N v0 v4 v5 v6) (by kernel_rfl)
noncomputable def f30p13 : Plan := .mk (some f30l3) none f30p14 .n
theorem f30t13 N v0 v4 v5 v6 (K : KT ρ) : f30i N (f30c 223) f30p13 (f30s4 v0 v4 v5 v6) (joinK (some f30l3) K) =
  spec_l1Number.Z13 N v0 v4 v5 v6 (fun v0 v4 v5 => K .nrm (f30s3 v0 v4 v5)) (fun v2 v3 => K .ret (f30s5 v2 v3)) :=
 viaBlockS (by kernel_rfl) (f30t14 N (K := blockK 0 (joinK (some f30l3) K)) ..) (by kernel_rfl)
noncomputable def f30p11 : Plan := .mk (some f30l4) none .n f30p13
theorem f30t11 N v0 v4 v5 (K : KT ρ) : f30i N (f30c 95) f30p11 (f30s3 v0 v4 v5) (joinK (some f30l3) K) =
  spec_l1Number.Z11 N v0 v4 v5 (fun v0 v4 v5 => K .nrm (f30s3 v0 v4 v5)) (fun v2 v3 => K .ret (f30s5 v2 v3)) :=
 viaSeqS (fun k => spec_l1Number.Z12 N v0 v4 v5 k) (by kernel_rfl) (f30t12 N (K := seqK (fun σ => f30i N (f30c 223) f30p13 σ (joinK (some f30l3) K)) (joinK (some f30l3) K)) ..) (fx4 fun v0 v4 v5 v6 => f30t13 N v0 v4 v5 v6 K) (by kernel_rfl)
theorem f30t16 N v0 v4 v5 (K : KT ρ) : f30i N (f30c 127) .n (f30s3 v0 v4 v5) (joinK (some f30lE) K) =
  spec_l1Number.Z16 N v0 v4 v5 (fun v2 v3 => K .ret (f30s5 v2 v3)) := by kernel_rfl
noncomputable def f30p10 : Plan := .mk (some f30l3) none f30p11 .n
theorem f30t10 N v0 v4 v5 (K : KT ρ) : f30i N (f30c 63) f30p10 (f30s3 v0 v4 v5) (joinK (some f30lE) K) =
  spec_l1Number.Z10 N v0 v4 v5 (fun v2 v3 => K .ret (f30s5 v2 v3)) :=
 viaSeqS (fun k => spec_l1Number.Z11 N v0 v4 v5 k (fun v2 v3 => K .ret (f30s5 v2 v3))) (by kernel_rfl) (f30t11 N (K := seqK (fun σ => f30i N (f30c 127) .n σ (joinK (some f30lE) K)) (joinK (some f30lE) K)) ..) (fx3 fun v0 v4 v5 => f30t16 N v0 v4 v5 K) (by kernel_rfl)
noncomputable def f30p8 : Plan := .mk (some f30l3) none .n f30p10
theorem f30t8 N v0 v4 (K : KT ρ) : f30i N (f30c 31) f30p8 (f30s2 v0 v4) (joinK (some f30lE) K) =
  spec_l1Number.Z8 N v0 v4 (fun v2 v3 => K .ret (f30s5 v2 v3)) :=
 viaSeqS (fun k => spec_l1Number.Z9 N v0 v4 k) (by kernel_rfl) (f30t9 N (K := seqK (fun σ => f30i N (f30c 63) f30p10 σ (joinK (some f30lE) K)) (joinK (some f30lE) K)) ..) (fx3 fun v0 v4 v5 => f30t10 N v0 v4 v5 K) (by kernel_rfl)
noncomputable def f30p6 : Plan := .mk (some f30l2) none .n f30p8
theorem f30t6 N v0 v4 (K : KT ρ) : f30i N (f30c 15) f30p6 (f30s2 v0 v4) (joinK (some f30lE) K) =
  spec_l1Number.Z6 N v0 v4 (fun v2 v3 => K .ret (f30s5 v2 v3)) :=
 viaSeqS (fun k => spec_l1Number.Z7 N v0 v4 k (fun v2 v3 => K .ret (f30s5 v2 v3))) (by kernel_rfl) (f30t7 N (K := seqK (fun σ => f30i N (f30c 31) f30p8 σ (joinK (some f30lE) K)) (joinK (some f30lE) K)) ..) (fx2 fun v0 v4 => f30t8 N v0 v4 K) (by kernel_rfl)
noncomputable def f30p4 : Plan := .mk (some f30l2) none .n f30p6
theorem f30t4 N v0 v4 (K : KT ρ) : f30i N (f30c 7) f30p4 (f30s2 v0 v4) (joinK (some f30lE) K) =
  spec_l1Number.Z4 N v0 v4 (fun v2 v3 => K .ret (f30s5 v2 v3)) :=
 viaSeqS (fun k => spec_l1Number.Z5 N v0 v4 k) (by kernel_rfl) (f30t5 N (K := seqK (fun σ => f30i N (f30c 15) f30p6 σ (joinK (some f30lE) K)) (joinK (some f30lE) K)) ..) (fx2 fun v0 v4 => f30t6 N v0 v4 K) (by kernel_rfl)
noncomputable def f30p2 : Plan := .mk (some f30l2) none .n f30p4
theorem f30t2 N v0 (K : KT ρ) : f30i N (f30c 3) f30p2 (f30s1 v0) (joinK (some f30lE) K) =
  spec_l1Number.Z2 N v0 (fun v2 v3 => K .ret (f30s5 v2 v3)) :=
 viaSeqS (fun k => spec_l1Number.Z3 N v0 k) (by kernel_rfl) (f30t3 N (K := seqK (fun σ => f30i N (f30c 7) f30p4 σ (joinK (some f30lE) K)) (joinK (some f30lE) K)) ..) (fx2 fun v0 v4 => f30t4 N v0 v4 K) (by kernel_rfl)
noncomputable def f30p0 : Plan := .mk (some f30l1) none .n f30p2
theorem f30t0 N v0 (K : KT ρ) : f30i N (f30c 1) f30p0 (f30s0 v0) (joinK (some f30lE) K) =
  spec_l1Number.Z0 N v0 (fun v2 v3 => K .ret (f30s5 v2 v3)) :=
 viaSeqS (fun k => spec_l1Number.Z1 N v0 k) (by kernel_rfl) (f30t1 N (K := seqK (fun σ => f30i N (f30c 3) f30p2 σ (joinK (some f30lE) K)) (joinK (some f30lE) K)) ..) (funext fun v0 => f30t2 N v0 K) (by kernel_rfl)
theorem f30m (N : Nat) (v0 : ByteArray) : f30i N (f30c 1) f30p0 (f30s0 v0) (joinK (some f30lE) (finK tab f30sig Tryd.f30.results.toList)) = spec_l1Number.Z0 N v0 (fun v2 v3 => some ((), (v2, (v3, ())))) :=
  (f30t0 N v0 (finK tab f30sig Tryd.f30.results.toList)).trans (by kernel_rfl)
theorem f30ok (h : spec_l1Number.Spec) : EntryOk Tryd.prog 30 e30 :=
  entry_of_code (sig := f30sig) (c := (f30c 1)) (pl := f30p0) (je := (some f30lE)) (B := f30B) Tryd.func30 (by kernel_rfl) (by kernel_rfl) (by kernel_rfl) tabOk f30GOk (by kernel_rfl) (by kernel_rfl) (by kernel_rfl) (by kernel_rfl) fun X hb hp => by
    obtain ⟨v0, _⟩ := X
    obtain ⟨N, h⟩ := h v0
    exact ⟨N, (f30m N v0).trans (h N (Nat.le_refl N))⟩
theorem e30ok : EntryOk Tryd.prog 30 e30 := f30ok spec_l1Number.ok
end Go.Fw
namespace Go.Fw
variable {ρ : Type}
open Go.Proofs
noncomputable def f7sig : Sig := ⟨[⟨.str, false, false⟩], [⟨.sl 3 (.int .i64), false, false⟩, ⟨.bool, false, false⟩]⟩
noncomputable def e7 : Entry := ⟨f7sig, (some fun X => spec_ParseInts.P X.1), fun X => ((), ((spec_ParseInts.g X.1).1, ((spec_ParseInts.g X.1).2, ())))⟩
noncomputable def f7G : Gm := addG (addG emptyG 29 e29) 30 e30
theorem f7GOk : GOk Tryd.prog f7G := ((GOk.nil).add e29ok (by kernel_rfl)).add e30ok (by kernel_rfl)
noncomputable def f7lE : Clean := ⟨[], [], [], [], []⟩
noncomputable def f7s0 (v0 : ByteArray) : St := initSt f7sig.ps (v0, ())
noncomputable def f7s1 (v0 : ByteArray) : St := stOf [(0, .c (.str v0))] [] []
noncomputable def f7l1 : Clean := ⟨[0], [], [], [], []⟩
noncomputable def f7s2 (v4 : LI) (v0 : ByteArray) : St := stOf [(0, .c (.str v0)), (4, xo 1000256)] [] [(1000256, (⟨3, .int .i64, v4, true, false⟩ : Row))]
noncomputable def f7l2 : Clean := ⟨[0, 4], [], [], [], [(⟨false, 4, 0⟩, 1000256)]⟩
noncomputable def f7s3 (v4 : LI) (v5 : List ByteArray) : St := stOf [(4, xo 1000256), (5, xo 1000320)] [] [(1000256, (⟨3, .int .i64, v4, true, false⟩ : Row)), (1000320, (⟨9, .str, v5, true, false⟩ : Row))]
noncomputable def f7l3 : Clean := ⟨[4, 5], [], [], [], [(⟨false, 4, 0⟩, 1000256), (⟨false, 5, 0⟩, 1000320)]⟩
noncomputable def f7s4 (v4 : LI) (v5 : List ByteArray) (v6 : Int) : St := stOf [(4, xo 1000256), (5, xo 1000320), (6, xi v6)] [] [(1000256, (⟨3, .int .i64, v4, true, false⟩ : Row)), (1000320, (⟨9, .str, v5, true, false⟩ : Row))]
noncomputable def f7l4 : Clean := ⟨[4, 5, 6], [], [], [], [(⟨false, 4, 0⟩, 1000256), (⟨false, 5, 0⟩, 1000320)]⟩
noncomputable def f7s5 (v4 : LI) : St := stOf [(4, xo 1000256)] [] [(1000256, (⟨3, .int .i64, v4, true, false⟩ : Row))]
noncomputable def f7l5 : Clean := ⟨[4], [], [], [], [(⟨false, 4, 0⟩, 1000256)]⟩
noncomputable def f7s6 (v2 : LI) (v3 : Bool) : St := stOf [(2, xo 1000128), (3, xB v3)] [] [(1000128, (⟨3, .int .i64, v2, true, false⟩ : Row))]
noncomputable def f7l6 : Clean := ⟨[2, 3], [], [⟨⟨false, 2, 0⟩, 30000000, 3, .int .i64, true⟩], [], [(⟨false, 2, 0⟩, 1000128)]⟩
noncomputable def f7B : Nat → Option Clean := lookL [(0, f7l5), (1000000, f7l6)]
noncomputable abbrev f7i {ρ : Type} (N : Nat) (c : Code) (p : Plan) (σ : St) (K : KT ρ) : Option ρ := iCode f7G tab f7B N c p σ K
noncomputable def f7c (n : Nat) : Code := codeN 99 (bodyOf Tryd.f7) n
theorem f7t1 N v0 (K : KT ρ) : f7i N (f7c 2) .n (f7s0 v0) (joinK (some f7l1) K) =
  spec_ParseInts.Z1 N v0 (fun v0 => K .nrm (f7s1 v0)) := by kernel_rfl
theorem f7t3 N v0 (K : KT ρ) : f7i N (f7c 5) .n (f7s1 v0) (joinK (some f7l2) K) =
  spec_ParseInts.Z3 N v0 (fun v4 v0 => K .nrm (f7s2 v4 v0)) := by kernel_rfl
theorem f7t5 N v4 v0 (K : KT ρ) : f7i N (f7c 11) .n (f7s2 v4 v0) (joinK (some f7l2) K) =
  spec_ParseInts.Z5 N v4 v0 (fun v4 v0 => K .nrm (f7s2 v4 v0)) (fun v2 v3 => K .ret (f7s6 v2 v3)) := by kernel_rfl
theorem f7t7 N v4 v0 (K : KT ρ) : f7i N (f7c 23) .n (f7s2 v4 v0) (joinK (some f7l3) K) =
  spec_ParseInts.Z7 N v4 v0 (fun v4 v5 => K .nrm (f7s3 v4 v5)) := by kernel_rfl
theorem f7t10 N v4 v5 (K : KT ρ) : f7i N (f7c 79) .n (f7s3 v4 v5) (joinK (some f7l4) K) =
  spec_ParseInts.Z10 N v4 v5 (fun v4 v5 v6 => K .nrm (f7s4 v4 v5 v6)) := by kernel_rfl
theorem f7t13 N v4 v5 v6 (K : KT ρ) : f7i N (f7c 303) .n (f7s4 v4 v5 v6) (joinK (some f7l4) K) =
  spec_ParseInts.Z13 N v4 v5 v6 (fun v4 v5 v6 => K .nrm (f7s4 v4 v5 v6)) (fun v4 => K (.exit 0) (f7s5 v4)) (fun v2 v3 => K .ret (f7s6 v2 v3)) := by kernel_rfl
noncomputable def f7p12 : Plan := .mk none (some f7l4) .n .n
noncomputable abbrev f7w12 {ρ : Type} (N M : Nat) (σ : St) (K : KT ρ) : Option ρ := loopC (fun σ K => f7i N (f7c 303) .n σ K) f7l4 M σ K
theorem f7t12L {ρ : Type} (N : Nat) (K : KT ρ) : ∀ (M : Nat) (v4 : LI) (v5 : List ByteArray) (v6 : Int), f7w12 N M (f7s4 v4 v5 v6) K =
  spec_ParseInts.Z12L N (fun v4 => K (.exit 0) (f7s5 v4)) (fun v2 v3 => K .ret (f7s6 v2 v3)) M v4 v5 v6
  | 0, _, _, _ => rfl
  | M + 1, v4, v5, v6 => viaRoundS (fun k => spec_ParseInts.Z13 N v4 v5 v6 k (fun v4 => K (.exit 0) (f7s5 v4)) (fun v2 v3 => K .ret (f7s6 v2 v3))) (f7t13 N (K := seqK (fun σ => f7w12 N M σ K) K) ..) (fx3 fun v4 v5 v6 => f7t12L N K M v4 v5 v6) (by kernel_rfl)
theorem f7t12 N v4 v5 v6 (K : KT ρ) : f7i N (f7c 175) f7p12 (f7s4 v4 v5 v6) (joinK (some f7l5) K) =
  spec_ParseInts.Z12 N v4 v5 v6 (fun v4 => K (.exit 0) (f7s5 v4)) (fun v2 v3 => K .ret (f7s6 v2 v3)) :=
 viaLoopS (by kernel_rfl) (f7t12L N (joinK (some f7l5) K) N v4 v5 v6) (by kernel_rfl)
noncomputable def f7p11 : Plan := .mk (some f7l5) none f7p12 .n
theorem f7t11 N v4 v5 v6 (K : KT ρ) : f7i N (f7c 111) f7p11 (f7s4 v4 v5 v6) (joinK (some f7l5) K) =
  spec_ParseInts.Z11 N v4 v5 v6 (fun v4 => K .nrm (f7s5 v4)) (fun v2 v3 => K .ret (f7s6 v2 v3)) :=
 viaBlockS (by kernel_rfl) (f7t12 N (K := blockK 0 (joinK (some f7l5) K)) ..) (by kernel_rfl)
noncomputable def f7p9 : Plan := .mk (some f7l4) none .n f7p11
theorem f7t9 N v4 v5 (K : KT ρ) : f7i N (f7c 47) f7p9 (f7s3 v4 v5) (joinK (some f7l5) K) =
  spec_ParseInts.Z9 N v4 v5 (fun v4 => K .nrm (f7s5 v4)) (fun v2 v3 => K .ret (f7s6 v2 v3)) :=
 viaSeqS (fun k => spec_ParseInts.Z10 N v4 v5 k) (by kernel_rfl) (f7t10 N (K := seqK (fun σ => f7i N (f7c 111) f7p11 σ (joinK (some f7l5) K)) (joinK (some f7l5) K)) ..) (fx3 fun v4 v5 v6 => f7t11 N v4 v5 v6 K) (by kernel_rfl)
theorem f7t14 N v4 (K : KT ρ) : f7i N (f7c 63) .n (f7s5 v4) (joinK (some f7lE) K) =
  spec_ParseInts.Z14 N v4 (fun v2 v3 => K .ret (f7s6 v2 v3)) := by kernel_rfl
noncomputable def f7p8 : Plan := .mk (some f7l5) none f7p9 .n
theorem f7t8 N v4 v5 (K : KT ρ) : f7i N (f7c 31) f7p8 (f7s3 v4 v5) (joinK (some f7lE) K) =
  spec_ParseInts.Z8 N v4 v5 (fun v2 v3 => K .ret (f7s6 v2 v3)) :=
 viaSeqS (fun k => spec_ParseInts.Z9 N v4 v5 k (fun v2 v3 => K .ret (f7s6 v2 v3))) (by kernel_rfl) (f7t9 N (K := seqK (fun σ => f7i N (f7c 63) .n σ (joinK (some f7lE) K)) (joinK (some f7lE) K)) ..) (funext fun v4 => f7t14 N v4 K) (by kernel_rfl)
noncomputable def f7p6 : Plan := .mk (some f7l3) none .n f7p8
theorem f7t6 N v4 v0 (K : KT ρ) : f7i N (f7c 15) f7p6 (f7s2 v4 v0) (joinK (some f7lE) K) =
  spec_ParseInts.Z6 N v4 v0 (fun v2 v3 => K .ret (f7s6 v2 v3)) :=
 viaSeqS (fun k => spec_ParseInts.Z7 N v4 v0 k) (by kernel_rfl) (f7t7 N (K := seqK (fun σ => f7i N (f7c 31) f7p8 σ (joinK (some f7lE) K)) (joinK (some f7lE) K)) ..) (fx2 fun v4 v5 => f7t8 N v4 v5 K) (by kernel_rfl)
noncomputable def f7p4 : Plan := .mk (some f7l2) none .n f7p6
theorem f7t4 N v4 v0 (K : KT ρ) : f7i N (f7c 7) f7p4 (f7s2 v4 v0) (joinK (some f7lE) K) =
  spec_ParseInts.Z4 N v4 v0 (fun v2 v3 => K .ret (f7s6 v2 v3)) :=
 viaSeqS (fun k => spec_ParseInts.Z5 N v4 v0 k (fun v2 v3 => K .ret (f7s6 v2 v3))) (by kernel_rfl) (f7t5 N (K := seqK (fun σ => f7i N (f7c 15) f7p6 σ (joinK (some f7lE) K)) (joinK (some f7lE) K)) ..) (fx2 fun v4 v0 => f7t6 N v4 v0 K) (by kernel_rfl)
noncomputable def f7p2 : Plan := .mk (some f7l2) none .n f7p4
theorem f7t2 N v0 (K : KT ρ) : f7i N (f7c 3) f7p2 (f7s1 v0) (joinK (some f7lE) K) =
  spec_ParseInts.Z2 N v0 (fun v2 v3 => K .ret (f7s6 v2 v3)) :=
 viaSeqS (fun k => spec_ParseInts.Z3 N v0 k) (by kernel_rfl) (f7t3 N (K := seqK (fun σ => f7i N (f7c 7) f7p4 σ (joinK (some f7lE) K)) (joinK (some f7lE) K)) ..) (fx2 fun v4 v0 => f7t4 N v4 v0 K) (by kernel_rfl)
noncomputable def f7p0 : Plan := .mk (some f7l1) none .n f7p2
theorem f7t0 N v0 (K : KT ρ) : f7i N (f7c 1) f7p0 (f7s0 v0) (joinK (some f7lE) K) =
  spec_ParseInts.Z0 N v0 (fun v2 v3 => K .ret (f7s6 v2 v3)) :=
 viaSeqS (fun k => spec_ParseInts.Z1 N v0 k) (by kernel_rfl) (f7t1 N (K := seqK (fun σ => f7i N (f7c 3) f7p2 σ (joinK (some f7lE) K)) (joinK (some f7lE) K)) ..) (funext fun v0 => f7t2 N v0 K) (by kernel_rfl)
theorem f7m (N : Nat) (v0 : ByteArray) : f7i N (f7c 1) f7p0 (f7s0 v0) (joinK (some f7lE) (finK tab f7sig Tryd.f7.results.toList)) = spec_ParseInts.Z0 N v0 (fun v2 v3 => some ((), (v2, (v3, ())))) :=
  (f7t0 N v0 (finK tab f7sig Tryd.f7.results.toList)).trans (by kernel_rfl)
theorem f7ok (h : spec_ParseInts.Spec) : EntryOk Tryd.prog 7 e7 :=
  entry_of_code (sig := f7sig) (c := (f7c 1)) (pl := f7p0) (je := (some f7lE)) (B := f7B) Tryd.func7 (by kernel_rfl) (by kernel_rfl) (by kernel_rfl) tabOk f7GOk (by kernel_rfl) (by kernel_rfl) (by kernel_rfl) (by kernel_rfl) fun X hb hp => by
    obtain ⟨v0, _⟩ := X
    obtain ⟨N, h⟩ := h v0 hp
    exact ⟨N, (f7m N v0).trans (h N (Nat.le_refl N))⟩
theorem e7ok : EntryOk Tryd.prog 7 e7 := f7ok spec_ParseInts.ok
end Go.Fw
namespace Go.Fw
variable {ρ : Type}
open Go.Proofs
noncomputable def f31sig : Sig := ⟨[⟨.str, false, false⟩, ⟨.str, false, false⟩], [⟨.sl 9 (.str), false, false⟩]⟩
noncomputable def e31 : Entry := ⟨f31sig, (some fun X => strings_Split.P X.1 X.2.1), fun X => ((), ((strings_Split.g X.1 X.2.1), ()))⟩
noncomputable def f31layren : Go.Shelf.Ren := ⟨fun | 146 => 31 | 221 => 57 | 268 => 82 | 138 => 83 | 143 => 84 | 195 => 102 | 197 => 103 | 218 => 104 | 219 => 95 | 260 => 119 | 217 => 112 | 225 => 113 | 224 => 114 | 267 => 115 | 266 => 123 | 314 => 124 | n => n, fun | 9 => 9 | 31 => 47 | 3 => 3 | 4 => 4 | 0 => 0 | 105 => 115 | 21 => 21 | 5 => 5 | 46 => 110 | 119 => 145 | 139 => 148 | 138 => 147 | 146 => 138 | 51 => 137 | n => n, fun | 1 => 2 | 3 => 3 | 4 => 4 | n => n⟩
theorem f31lay : LaysM.n146 Tryd.prog f31layren := { mixed := (by kernel_rfl), f138 := Tryd.func83.trans (congrArg some (by kernel_rfl)), f143 := Tryd.func84.trans (congrArg some (by kernel_rfl)), f146 := Tryd.func31.trans (congrArg some (by kernel_rfl)), f195 := Tryd.func102.trans (congrArg some (by kernel_rfl)), f197 := Tryd.func103.trans (congrArg some (by kernel_rfl)), f217 := Tryd.func112.trans (congrArg some (by kernel_rfl)), f218 := Tryd.func104.trans (congrArg some (by kernel_rfl)), f219 := Tryd.func95.trans (congrArg some (by kernel_rfl)), f221 := Tryd.func57.trans (congrArg some (by kernel_rfl)), f224 := Tryd.func114.trans (congrArg some (by kernel_rfl)), f225 := Tryd.func113.trans (congrArg some (by kernel_rfl)), f260 := Tryd.func119.trans (congrArg some (by kernel_rfl)), f266 := Tryd.func123.trans (congrArg some (by kernel_rfl)), f267 := Tryd.func115.trans (congrArg some (by kernel_rfl)), f268 := Tryd.func82.trans (congrArg some (by kernel_rfl)), f314 := Tryd.func124.trans (congrArg some (by kernel_rfl)), t0 := Tryd.underlying0, a0 := Tryd.isAgg0, z0 := Tryd.sizeOf0, v0 := Tryd.zeroValue0, t3 := Tryd.underlying3, a3 := Tryd.isAgg3, z3 := Tryd.sizeOf3, v3 := Tryd.zeroValue3, t4 := Tryd.underlying4, a4 := Tryd.isAgg4, z4 := Tryd.sizeOf4, v4 := Tryd.zeroValue4, t5 := Tryd.underlying5, a5 := Tryd.isAgg5, z5 := Tryd.sizeOf5, v5 := Tryd.zeroValue5, t9 := Tryd.underlying9, a9 := Tryd.isAgg9, z9 := Tryd.sizeOf9, v9 := Tryd.zeroValue9, t21 := Tryd.underlying21, a21 := Tryd.isAgg21, z21 := Tryd.sizeOf21, v21 := Tryd.zeroValue21, t31 := Tryd.underlying47, a31 := Tryd.isAgg47, z31 := Tryd.sizeOf47, v31 := Tryd.zeroValue47, t46 := Tryd.underlying110, a46 := Tryd.isAgg110, z46 := Tryd.sizeOf110, v46 := Tryd.zeroValue110, t51 := Tryd.underlying137, a51 := Tryd.isAgg137, z51 := Tryd.sizeOf137, v51 := Tryd.zeroValue137, t105 := Tryd.underlying115, a105 := Tryd.isAgg115, z105 := Tryd.sizeOf115, v105 := Tryd.zeroValue115, t119 := Tryd.underlying145, a119 := Tryd.isAgg145, z119 := Tryd.sizeOf145, t138 := Tryd.underlying147, a138 := Tryd.isAgg147, z138 := Tryd.sizeOf147, v138 := Tryd.zeroValue147, t139 := Tryd.underlying148, a139 := Tryd.isAgg148, z139 := Tryd.sizeOf148, v139 := Tryd.zeroValue148, t146 := Tryd.underlying138, a146 := Tryd.isAgg138, z146 := Tryd.sizeOf138, v146 := Tryd.zeroValue138, g1 := (by kernel_rfl), g3 := (by kernel_rfl), g4 := (by kernel_rfl), i0 := (by kernel_rfl), i3 := (by kernel_rfl), i4 := (by kernel_rfl), i5 := (by kernel_rfl), i9 := (by kernel_rfl), i21 := (by kernel_rfl), i31 := (by kernel_rfl), i46 := (by kernel_rfl), i51 := (by kernel_rfl), i105 := (by kernel_rfl), i138 := (by kernel_rfl), i139 := (by kernel_rfl), i146 := (by kernel_rfl), m1 := (by kernel_rfl), s1_3 := fun w h => Go.Proofs.cell_of_shapedOpen_int (zero := #[.int .i64 0]) (t := 3) h (of_decide_eq_true (by kernel_rfl)) (by kernel_rfl) rfl (by kernel_rfl) (by kernel_rfl) Tryd.underlying3, m3 := (by kernel_rfl), m4 := (by kernel_rfl) }
theorem f31ok (_ : True) : EntryOk Tryd.prog 31 e31 := split_ok (fun w h => (by
  obtain ⟨g, h1, h2⟩ := int0 w h
  have e : Tryd.prog.globalNamed "internal/bytealg.MaxLen" = some (f31layren.g 1) := by kernel_rfl
  rw [e] at h1
  injection h1 with h1
  subst h1
  exact h2)) f31lay
theorem e31ok : EntryOk Tryd.prog 31 e31 := f31ok strings_Split.ok
end Go.Fw
namespace Go.Fw
variable {ρ : Type}
open Go.Proofs
noncomputable def f32sig : Sig := ⟨[⟨.str, false, false⟩], [⟨.int .i64, false, false⟩, ⟨.err, false, false⟩]⟩
noncomputable def e32 : Entry := ⟨f32sig, (some fun X => strconv_Atoi.P X.1), fun X => ((), ((strconv_Atoi.g X.1).1, ((strconv_Atoi.g X.1).2, ())))⟩
noncomputable def f32layren : Go.Shelf.Ren := ⟨fun | 172 => 32 | 244 => 58 | 245 => 59 | 247 => 85 | 279 => 86 | 280 => 87 | 281 => 88 | 282 => 89 | 287 => 105 | 316 => 106 | 171 => 73 | 205 => 107 | 321 => 120 | 322 => 121 | 243 => 97 | 246 => 116 | 283 => 125 | 284 => 126 | 285 => 127 | 286 => 128 | 129 => 130 | 317 => 129 | 318 => 131 | 319 => 132 | 320 => 133 | 337 => 134 | 338 => 135 | n => n, fun | 9 => 9 | 3 => 3 | 75 => 53 | 76 => 54 | 4 => 4 | 5 => 5 | 167 => 103 | 37 => 41 | 0 => 0 | 85 => 104 | 2 => 2 | 168 => 106 | 53 => 118 | 175 => 119 | 46 => 110 | 210 => 123 | 127 => 112 | 145 => 136 | 143 => 134 | 21 => 21 | 171 => 140 | 173 => 143 | 212 => 150 | 51 => 137 | 20 => 20 | 213 => 151 | 232 => 154 | 233 => 155 | 80 => 98 | n => n, fun | 15 => 0 | 16 => 1 | 17 => 5 | 18 => 6 | 19 => 7 | n => n⟩
theorem f32lay : LaysC.n172 Tryd.prog f32layren := { mixed := (by kernel_rfl), f129 := Tryd.func130.trans (congrArg some (by kernel_rfl)), f171 := Tryd.func73.trans (congrArg some (by kernel_rfl)), f172 := Tryd.func32.trans (congrArg some (by kernel_rfl)), f205 := Tryd.func107.trans (congrArg some (by kernel_rfl)), f243 := Tryd.func97.trans (congrArg some (by kernel_rfl)), f244 := Tryd.func58.trans (congrArg some (by kernel_rfl)), f245 := Tryd.func59.trans (congrArg some (by kernel_rfl)), f246 := Tryd.func116.trans (congrArg some (by kernel_rfl)), f247 := Tryd.func85.trans (congrArg some (by kernel_rfl)), f279 := Tryd.func86.trans (congrArg some (by kernel_rfl)), f280 := Tryd.func87.trans (congrArg some (by kernel_rfl)), f281 := Tryd.func88.trans (congrArg some (by kernel_rfl)), f282 := Tryd.func89.trans (congrArg some (by kernel_rfl)), f283 := Tryd.func125.trans (congrArg some (by kernel_rfl)), f284 := Tryd.func126.trans (congrArg some (by kernel_rfl)), f285 := Tryd.func127.trans (congrArg some (by kernel_rfl)), f286 := Tryd.func128.trans (congrArg some (by kernel_rfl)), f287 := Tryd.func105.trans (congrArg some (by kernel_rfl)), f316 := Tryd.func106.trans (congrArg some (by kernel_rfl)), f317 := Tryd.func129.trans (congrArg some (by kernel_rfl)), f318 := Tryd.func131.trans (congrArg some (by kernel_rfl)), f319 := Tryd.func132.trans (congrArg some (by kernel_rfl)), f320 := Tryd.func133.trans (congrArg some (by kernel_rfl)), f321 := Tryd.func120.trans (congrArg some (by kernel_rfl)), f322 := Tryd.func121.trans (congrArg some (by kernel_rfl)), f337 := Tryd.func134.trans (congrArg some (by kernel_rfl)), f338 := Tryd.func135.trans (congrArg some (by kernel_rfl)), t0 := Tryd.underlying0, a0 := Tryd.isAgg0, z0 := Tryd.sizeOf0, v0 := Tryd.zeroValue0, t2 := Tryd.underlying2, a2 := Tryd.isAgg2, z2 := Tryd.sizeOf2, v2 := Tryd.zeroValue2, t3 := Tryd.underlying3, a3 := Tryd.isAgg3, z3 := Tryd.sizeOf3, v3 := Tryd.zeroValue3, t4 := Tryd.underlying4, a4 := Tryd.isAgg4, z4 := Tryd.sizeOf4, v4 := Tryd.zeroValue4, t5 := Tryd.underlying5, a5 := Tryd.isAgg5, z5 := Tryd.sizeOf5, v5 := Tryd.zeroValue5, t9 := Tryd.underlying9, a9 := Tryd.isAgg9, z9 := Tryd.sizeOf9, v9 := Tryd.zeroValue9, t20 := Tryd.underlying20, a20 := Tryd.isAgg20, z20 := Tryd.sizeOf20, v20 := Tryd.zeroValue20, t21 := Tryd.underlying21, a21 := Tryd.isAgg21, z21 := Tryd.sizeOf21, v21 := Tryd.zeroValue21, t37 := Tryd.underlying41, a37 := Tryd.isAgg41, z37 := Tryd.sizeOf41, v37 := Tryd.zeroValue41, t46 := Tryd.underlying110, a46 := Tryd.isAgg110, z46 := Tryd.sizeOf110, v46 := Tryd.zeroValue110, t51 := Tryd.underlying137, a51 := Tryd.isAgg137, z51 := Tryd.sizeOf137, v51 := Tryd.zeroValue137, t53 := Tryd.underlying118, a53 := Tryd.isAgg118, z53 := Tryd.sizeOf118, v53 := Tryd.zeroValue118, t75 := Tryd.underlying53, a75 := Tryd.isAgg53, z75 := Tryd.sizeOf53, v75 := Tryd.zeroValue53, t76 := Tryd.underlying54, a76 := Tryd.isAgg54, z76 := Tryd.sizeOf54, v76 := Tryd.zeroValue54, t85 := Tryd.underlying104, a85 := Tryd.isAgg104, z85 := Tryd.sizeOf104, v85 := Tryd.zeroValue104, t127 := Tryd.underlying112, a127 := Tryd.isAgg112, z127 := Tryd.sizeOf112, v127 := Tryd.zeroValue112, t143 := Tryd.underlying134, a143 := Tryd.isAgg134, z143 := Tryd.sizeOf134, v143 := Tryd.zeroValue134, t145 := Tryd.underlying136, a145 := Tryd.isAgg136, z145 := Tryd.sizeOf136, v145 := Tryd.zeroValue136, t167 := Tryd.underlying103, a167 := Tryd.isAgg103, z167 := Tryd.sizeOf103, v167 := Tryd.zeroValue103, t168 := Tryd.underlying106, a168 := Tryd.isAgg106, z168 := Tryd.sizeOf106, v168 := Tryd.zeroValue106, t171 := Tryd.underlying140, a171 := Tryd.isAgg140, z171 := Tryd.sizeOf140, v171 := Tryd.zeroValue140, t173 := Tryd.underlying143, a173 := Tryd.isAgg143, z173 := Tryd.sizeOf143, v173 := Tryd.zeroValue143, t175 := Tryd.underlying119, a175 := Tryd.isAgg119, z175 := Tryd.sizeOf119, v175 := Tryd.zeroValue119, t210 := Tryd.underlying123, a210 := Tryd.isAgg123, z210 := Tryd.sizeOf123, v210 := Tryd.zeroValue123, t212 := Tryd.underlying150, a212 := Tryd.isAgg150, z212 := Tryd.sizeOf150, v212 := Tryd.zeroValue150, t213 := Tryd.underlying151, a213 := Tryd.isAgg151, z213 := Tryd.sizeOf151, t232 := Tryd.underlying154, a232 := Tryd.isAgg154, z232 := Tryd.sizeOf154, v232 := Tryd.zeroValue154, t233 := Tryd.underlying155, a233 := Tryd.isAgg155, z233 := Tryd.sizeOf155, v233 := Tryd.zeroValue155, g15 := (by kernel_rfl), g16 := (by kernel_rfl), g17 := (by kernel_rfl), g18 := (by kernel_rfl), g19 := (by kernel_rfl), t80 := Tryd.underlying98, a80 := Tryd.isAgg98, z80 := Tryd.sizeOf98, v80 := Tryd.zeroValue98, i0 := (by kernel_rfl), i2 := (by kernel_rfl), i3 := (by kernel_rfl), i4 := (by kernel_rfl), i5 := (by kernel_rfl), i9 := (by kernel_rfl), i20 := (by kernel_rfl), i21 := (by kernel_rfl), i37 := (by kernel_rfl), i46 := (by kernel_rfl), i51 := (by kernel_rfl), i53 := (by kernel_rfl), i75 := (by kernel_rfl), i76 := (by kernel_rfl), i80 := (by kernel_rfl), i85 := (by kernel_rfl), i127 := (by kernel_rfl), i143 := (by kernel_rfl), i145 := (by kernel_rfl), i167 := (by kernel_rfl), i168 := (by kernel_rfl), i171 := (by kernel_rfl), i173 := (by kernel_rfl), i175 := (by kernel_rfl), i210 := (by kernel_rfl), i212 := (by kernel_rfl), i232 := (by kernel_rfl), i233 := (by kernel_rfl), m15 := (by kernel_rfl), m16 := (by kernel_rfl), m17 := (by kernel_rfl), m18 := (by kernel_rfl), m19 := (by kernel_rfl), c0 := (by kernel_rfl), c2 := (by kernel_rfl), c3 := (by kernel_rfl), c4 := (by kernel_rfl), c5 := (by kernel_rfl), c9 := (by kernel_rfl), c20 := (by kernel_rfl), c21 := (by kernel_rfl), c37 := (by kernel_rfl), c46 := (by kernel_rfl), c51 := (by kernel_rfl), c53 := (by kernel_rfl), c75 := (by kernel_rfl), c76 := (by kernel_rfl), c80 := (by kernel_rfl), c85 := (by kernel_rfl), c127 := (by kernel_rfl), c143 := (by kernel_rfl), c145 := (by kernel_rfl), c167 := (by kernel_rfl), c168 := (by kernel_rfl), c171 := (by kernel_rfl), c173 := (by kernel_rfl), c175 := (by kernel_rfl), c210 := (by kernel_rfl), c212 := (by kernel_rfl), c213 := (by kernel_rfl), c232 := (by kernel_rfl), c233 := (by kernel_rfl) }
theorem f32ok (_ : True) : EntryOk Tryd.prog 32 e32 := atoi_ok (fun w h => (by
  obtain ⟨g, h1, h2⟩ := err0 w h
  have e : Tryd.prog.globalNamed "strconv.ErrSyntax" = some (f32layren.g 15) := by kernel_rfl
  rw [e] at h1
  injection h1 with h1
  subst h1
  exact h2)) (fun w h => (by
  obtain ⟨g, h1, h2⟩ := err1 w h
  have e : Tryd.prog.globalNamed "strconv.ErrRange" = some (f32layren.g 16) := by kernel_rfl
  rw [e] at h1
  injection h1 with h1
  subst h1
  exact h2)) f32lay
theorem e32ok : EntryOk Tryd.prog 32 e32 := f32ok strconv_Atoi.ok
end Go.Fw
namespace Go.Fw
variable {ρ : Type}
open Go.Proofs
noncomputable def f33sig : Sig := ⟨[⟨.int .i64, false, false⟩, ⟨.int .i64, false, false⟩, ⟨.int .i64, false, false⟩], [⟨.bool, false, false⟩]⟩
noncomputable def e33 : Entry := ⟨f33sig, none, fun X => ((), ((impl_within.g X.1 X.2.1 X.2.2.1), ()))⟩
noncomputable def f33G : Gm := emptyG
theorem f33GOk : GOk Tryd.prog f33G := GOk.nil
noncomputable def f33lE : Clean := ⟨[], [], [], [], []⟩
noncomputable def f33s0 (v0 v1 v2 : Int) : St := initSt f33sig.ps (v0, (v1, (v2, ())))
noncomputable def f33s1 (v6 : Bool) : St := stOf [(6, xB v6)] [] []
noncomputable def f33l1 : Clean := ⟨[6], [], [], [], []⟩
noncomputable def f33B : Nat → Option Clean := lookL [(1000000, f33l1)]
noncomputable abbrev f33i {ρ : Type} (N : Nat) (c : Code) (p : Plan) (σ : St) (K : KT ρ) : Option ρ := iCode f33G tab f33B N c p σ K
noncomputable def f33c (n : Nat) : Code := codeN 99 (bodyOf Tryd.f33) n
theorem f33t0 N v0 v1 v2 (K : KT ρ) : f33i N (f33c 1) .n (f33s0 v0 v1 v2) (joinK (some f33lE) K) =
  impl_within.Z0 N v0 v1 v2 (fun v6 => K .ret (f33s1 v6)) := by kernel_rfl
theorem f33m (N : Nat) (v0 v1 v2 : Int) : f33i N (f33c 1) .n (f33s0 v0 v1 v2) (joinK (some f33lE) (finK tab f33sig Tryd.f33.results.toList)) = impl_within.Z0 N v0 v1 v2 (fun v6 => some ((), (v6, ()))) :=
  (f33t0 N v0 v1 v2 (finK tab f33sig Tryd.f33.results.toList)).trans (by kernel_rfl)
theorem f33ok (h : impl_within.Spec) : EntryOk Tryd.prog 33 e33 :=
  entry_of_code (sig := f33sig) (c := (f33c 1)) (pl := .n) (je := (some f33lE)) (B := f33B) Tryd.func33 (by kernel_rfl) (by kernel_rfl) (by kernel_rfl) tabOk f33GOk (by kernel_rfl) (by kernel_rfl) (by kernel_rfl) (by kernel_rfl) fun X hb hp => by
    obtain ⟨v0, v1, v2, _⟩ := X
    obtain ⟨N, h⟩ := h v0 v1 v2
    exact ⟨N, (f33m N v0 v1 v2).trans (h N (Nat.le_refl N))⟩
theorem e33ok : EntryOk Tryd.prog 33 e33 := f33ok impl_within.ok
end Go.Fw
namespace Go.Fw
variable {ρ : Type}
open Go.Proofs
noncomputable def f73sig : Sig := ⟨[⟨.int .i64, false, false⟩], [⟨.str, false, false⟩]⟩
noncomputable def e73 : Entry := ⟨f73sig, (some fun X => strconv_Itoa.P X.1), fun X => ((), ((strconv_Itoa.g X.1), ()))⟩
noncomputable def f73layren : Go.Shelf.Ren := ⟨fun | 171 => 73 | 243 => 97 | 246 => 116 | 283 => 125 | 284 => 126 | 285 => 127 | 286 => 128 | 129 => 130 | 317 => 129 | 318 => 131 | 319 => 132 | 320 => 133 | 337 => 134 | 338 => 135 | n => n, fun | 3 => 3 | 9 => 9 | 2 => 2 | 4 => 4 | 171 => 140 | 0 => 0 | 53 => 118 | 37 => 41 | 5 => 5 | 173 => 143 | 212 => 150 | 51 => 137 | 20 => 20 | 213 => 151 | 46 => 110 | 232 => 154 | 233 => 155 | n => n, fun | 17 => 5 | 18 => 6 | 19 => 7 | n => n⟩
theorem f73lay : LaysM.n171 Tryd.prog f73layren := { mixed := (by kernel_rfl), f129 := Tryd.func130.trans (congrArg some (by kernel_rfl)), f171 := Tryd.func73.trans (congrArg some (by kernel_rfl)), f243 := Tryd.func97.trans (congrArg some (by kernel_rfl)), f246 := Tryd.func116.trans (congrArg some (by kernel_rfl)), f283 := Tryd.func125.trans (congrArg some (by kernel_rfl)), f284 := Tryd.func126.trans (congrArg some (by kernel_rfl)), f285 := Tryd.func127.trans (congrArg some (by kernel_rfl)), f286 := Tryd.func128.trans (congrArg some (by kernel_rfl)), f317 := Tryd.func129.trans (congrArg some (by kernel_rfl)), f318 := Tryd.func131.trans (congrArg some (by kernel_rfl)), f319 := Tryd.func132.trans (congrArg some (by kernel_rfl)), f320 := Tryd.func133.trans (congrArg some (by kernel_rfl)), f337 := Tryd.func134.trans (congrArg some (by kernel_rfl)), f338 := Tryd.func135.trans (congrArg some (by kernel_rfl)), t0 := Tryd.underlying0, a0 := Tryd.isAgg0, z0 := Tryd.sizeOf0, v0 := Tryd.zeroValue0, t2 := Tryd.underlying2, a2 := Tryd.isAgg2, z2 := Tryd.sizeOf2, v2 := Tryd.zeroValue2, t3 := Tryd.underlying3, a3 := Tryd.isAgg3, z3 := Tryd.sizeOf3, v3 := Tryd.zeroValue3, t4 := Tryd.underlying4, a4 := Tryd.isAgg4, z4 := Tryd.sizeOf4, v4 := Tryd.zeroValue4, t5 := Tryd.underlying5, a5 := Tryd.isAgg5, z5 := Tryd.sizeOf5, v5 := Tryd.zeroValue5, t9 := Tryd.underlying9, a9 := Tryd.isAgg9, z9 := Tryd.sizeOf9, v9 := Tryd.zeroValue9, t20 := Tryd.underlying20, a20 := Tryd.isAgg20, z20 := Tryd.sizeOf20, v20 := Tryd.zeroValue20, t37 := Tryd.underlying41, a37 := Tryd.isAgg41, z37 := Tryd.sizeOf41, v37 := Tryd.zeroValue41, t46 := Tryd.underlying110, a46 := Tryd.isAgg110, z46 := Tryd.sizeOf110, v46 := Tryd.zeroValue110, t51 := Tryd.underlying137, a51 := Tryd.isAgg137, z51 := Tryd.sizeOf137, v51 := Tryd.zeroValue137, t53 := Tryd.underlying118, a53 := Tryd.isAgg118, z53 := Tryd.sizeOf118, v53 := Tryd.zeroValue118, t171 := Tryd.underlying140, a171 := Tryd.isAgg140, z171 := Tryd.sizeOf140, v171 := Tryd.zeroValue140, t173 := Tryd.underlying143, a173 := Tryd.isAgg143, z173 := Tryd.sizeOf143, v173 := Tryd.zeroValue143, t212 := Tryd.underlying150, a212 := Tryd.isAgg150, z212 := Tryd.sizeOf150, v212 := Tryd.zeroValue150, t213 := Tryd.underlying151, a213 := Tryd.isAgg151, z213 := Tryd.sizeOf151, t232 := Tryd.underlying154, a232 := Tryd.isAgg154, z232 := Tryd.sizeOf154, v232 := Tryd.zeroValue154, t233 := Tryd.underlying155, a233 := Tryd.isAgg155, z233 := Tryd.sizeOf155, v233 := Tryd.zeroValue155, g17 := (by kernel_rfl), g18 := (by kernel_rfl), g19 := (by kernel_rfl), i0 := (by kernel_rfl), i2 := (by kernel_rfl), i3 := (by kernel_rfl), i4 := (by kernel_rfl), i5 := (by kernel_rfl), i9 := (by kernel_rfl), i20 := (by kernel_rfl), i37 := (by kernel_rfl), i46 := (by kernel_rfl), i51 := (by kernel_rfl), i53 := (by kernel_rfl), i171 := (by kernel_rfl), i173 := (by kernel_rfl), i212 := (by kernel_rfl), i232 := (by kernel_rfl), i233 := (by kernel_rfl), m17 := (by kernel_rfl), m18 := (by kernel_rfl), m19 := (by kernel_rfl) }
theorem f73ok (_ : True) : EntryOk Tryd.prog 73 e73 := itoa_ok tab0 f73lay
theorem e73ok : EntryOk Tryd.prog 73 e73 := f73ok strconv_Itoa.ok
end Go.Fw
namespace Go.Fw
variable {ρ : Type}
open Go.Proofs
noncomputable def f49sig : Sig := ⟨[⟨.int .i64, false, false⟩], [⟨.str, false, false⟩]⟩
noncomputable def e49 : Entry := ⟨f49sig, (some fun X => impl_FormatInt.P X.1), fun X => ((), ((impl_FormatInt.g X.1), ()))⟩
noncomputable def f49G : Gm := addG emptyG 73 e73
theorem f49GOk : GOk Tryd.prog f49G := (GOk.nil).add e73ok (by kernel_rfl)
noncomputable def f49lE : Clean := ⟨[], [], [], [], []⟩
noncomputable def f49s0 (v0 : Int) : St := initSt f49sig.ps (v0, ())
noncomputable def f49s1 (v2 : ByteArray) : St := stOf [(2, .c (.str v2))] [] []
noncomputable def f49l1 : Clean := ⟨[2], [], [], [], []⟩
noncomputable def f49B : Nat → Option Clean := lookL [(1000000, f49l1)]
noncomputable abbrev f49i {ρ : Type} (N : Nat) (c : Code) (p : Plan) (σ : St) (K : KT ρ) : Option ρ := iCode f49G tab f49B N c p σ K
noncomputable def f49c (n : Nat) : Code := codeN 99 (bodyOf Tryd.f49) n
theorem f49t0 N v0 (K : KT ρ) : f49i N (f49c 1) .n (f49s0 v0) (joinK (some f49lE) K) =
  impl_FormatInt.Z0 N v0 (fun v2 => K .ret (f49s1 v2)) := by kernel_rfl
theorem f49m (N : Nat) (v0 : Int) : f49i N (f49c 1) .n (f49s0 v0) (joinK (some f49lE) (finK tab f49sig Tryd.f49.results.toList)) = impl_FormatInt.Z0 N v0 (fun v2 => some ((), (v2, ()))) :=
  (f49t0 N v0 (finK tab f49sig Tryd.f49.results.toList)).trans (by kernel_rfl)
theorem f49ok (h : impl_FormatInt.Spec) : EntryOk Tryd.prog 49 e49 :=
  entry_of_code (sig := f49sig) (c := (f49c 1)) (pl := .n) (je := (some f49lE)) (B := f49B) Tryd.func49 (by kernel_rfl) (by kernel_rfl) (by kernel_rfl) tabOk f49GOk (by kernel_rfl) (by kernel_rfl) (by kernel_rfl) (by kernel_rfl) fun X hb hp => by
    obtain ⟨v0, _⟩ := X
    obtain ⟨N, h⟩ := h v0 hp
    exact ⟨N, (f49m N v0).trans (h N (Nat.le_refl N))⟩
theorem e49ok : EntryOk Tryd.prog 49 e49 := f49ok impl_FormatInt.ok
end Go.Fw
namespace Go.Fw
variable {ρ : Type}
open Go.Proofs
noncomputable def f50sig : Sig := ⟨[⟨.sl 9 (.str), false, false⟩, ⟨.str, false, false⟩], [⟨.str, false, false⟩]⟩
noncomputable def e50 : Entry := ⟨f50sig, (some fun X => strings_Join.P X.1 X.2.1), fun X => ((), ((strings_Join.g X.1 X.2.1), ()))⟩
noncomputable def f50layren : Go.Shelf.Ren := ⟨fun | 156 => 50 | 165 => 74 | 166 => 75 | 169 => 76 | 240 => 98 | 241 => 99 | 276 => 117 | 277 => 118 | n => n, fun | 31 => 47 | 9 => 9 | 3 => 3 | 4 => 4 | 0 => 0 | 20 => 20 | 72 => 96 | 76 => 54 | 70 => 94 | 37 => 41 | 75 => 53 | 127 => 112 | 164 => 130 | 5 => 5 | 80 => 98 | n => n, fun n => n⟩
theorem f50lay : Lays.n156 Tryd.prog f50layren := { mixed := (by kernel_rfl), f156 := Tryd.func50.trans (congrArg some (by kernel_rfl)), f165 := Tryd.func74.trans (congrArg some (by kernel_rfl)), f166 := Tryd.func75.trans (congrArg some (by kernel_rfl)), f169 := Tryd.func76.trans (congrArg some (by kernel_rfl)), f240 := Tryd.func98.trans (congrArg some (by kernel_rfl)), f241 := Tryd.func99.trans (congrArg some (by kernel_rfl)), f276 := Tryd.func117.trans (congrArg some (by kernel_rfl)), f277 := Tryd.func118.trans (congrArg some (by kernel_rfl)), t0 := Tryd.underlying0, a0 := Tryd.isAgg0, z0 := Tryd.sizeOf0, v0 := Tryd.zeroValue0, t3 := Tryd.underlying3, a3 := Tryd.isAgg3, z3 := Tryd.sizeOf3, v3 := Tryd.zeroValue3, t4 := Tryd.underlying4, a4 := Tryd.isAgg4, z4 := Tryd.sizeOf4, v4 := Tryd.zeroValue4, t9 := Tryd.underlying9, a9 := Tryd.isAgg9, z9 := Tryd.sizeOf9, v9 := Tryd.zeroValue9, t20 := Tryd.underlying20, a20 := Tryd.isAgg20, z20 := Tryd.sizeOf20, v20 := Tryd.zeroValue20, t31 := Tryd.underlying47, a31 := Tryd.isAgg47, z31 := Tryd.sizeOf47, v31 := Tryd.zeroValue47, t37 := Tryd.underlying41, a37 := Tryd.isAgg41, z37 := Tryd.sizeOf41, v37 := Tryd.zeroValue41, t70 := Tryd.underlying94, a70 := Tryd.isAgg94, z70 := Tryd.sizeOf94, v70 := Tryd.zeroValue94, t72 := Tryd.underlying96, a72 := Tryd.isAgg96, z72 := Tryd.sizeOf96, v72 := Tryd.zeroValue96, t75 := Tryd.underlying53, a75 := Tryd.isAgg53, z75 := Tryd.sizeOf53, v75 := Tryd.zeroValue53, t76 := Tryd.underlying54, a76 := Tryd.isAgg54, z76 := Tryd.sizeOf54, v76 := Tryd.zeroValue54, t127 := Tryd.underlying112, a127 := Tryd.isAgg112, z127 := Tryd.sizeOf112, v127 := Tryd.zeroValue112, t164 := Tryd.underlying130, a164 := Tryd.isAgg130, z164 := Tryd.sizeOf130, v164 := Tryd.zeroValue130 }
theorem f50layX : Builder.Extra Tryd.prog f50layren := { sizeBuilder := (by kernel_rfl), liesBuilder := (by kernel_rfl), t5 := Tryd.underlying5, a5 := Tryd.isAgg5, z5 := Tryd.sizeOf5, v5 := Tryd.zeroValue5, infoByte := (by kernel_rfl), cellsByte := (by kernel_rfl), sizeByte := (by kernel_rfl), neB5 := (by decide) }
theorem f50ok (_ : True) : EntryOk Tryd.prog 50 e50 := join_ok f50lay f50layX
theorem e50ok : EntryOk Tryd.prog 50 e50 := f50ok strings_Join.ok
end Go.Fw
namespace Go.Fw
variable {ρ : Type}
open Go.Proofs
noncomputable def f34sig : Sig := ⟨[⟨.sl 3 (.int .i64), false, false⟩], [⟨.str, false, false⟩]⟩
noncomputable def e34 : Entry := ⟨f34sig, (some fun X => impl_FormatInts.P X.1), fun X => ((), ((impl_FormatInts.g X.1), ()))⟩
noncomputable def f34G : Gm := addG (addG emptyG 49 e49) 50 e50
theorem f34GOk : GOk Tryd.prog f34G := ((GOk.nil).add e49ok (by kernel_rfl)).add e50ok (by kernel_rfl)
noncomputable def f34lE : Clean := ⟨[], [], [], [], []⟩
noncomputable def f34s0 (v0 : LI) : St := initSt f34sig.ps (v0, ())
noncomputable def f34s1 (v0 : LI) : St := stOf [(0, .c (.sn 3 tI v0 none))] [] []
noncomputable def f34l1 : Clean := ⟨[0], [], [], [], []⟩
noncomputable def f34s2 (v0 : LI) : St := stOf [(0, .c (.sn 3 tI v0 none)), (3, .c (.nil))] [] []
noncomputable def f34l2 : Clean := ⟨[0, 3], [], [], [], []⟩
noncomputable def f34s3 (v6 : LI) (v7 v8 : Int) : St := stOf [(3, .c (.nil)), (6, .c (.sn 3 tI v6 none)), (7, xi v7), (8, xi v8)] [] []
noncomputable def f34l3 : Clean := ⟨[3, 6, 7, 8], [], [], [], []⟩
noncomputable def f34s4 (v3 : List ByteArray) (v6 : LI) (v7 v8 : Int) : St := stOf [(3, xo 1000192), (6, .c (.sn 3 tI v6 none)), (7, xi v7), (8, xi v8)] [] [(1000192, (⟨9, .str, v3, true, false⟩ : Row))]
noncomputable def f34l4 : Clean := ⟨[3, 6, 7, 8], [], [⟨⟨false, 3, 0⟩, 30000000, 9, .str, true⟩], [], [(⟨false, 3, 0⟩, 1000192)]⟩
noncomputable def f34s5 (v3 : List ByteArray) : St := stOf [(3, xo 1000192)] [] [(1000192, (⟨9, .str, v3, true, false⟩ : Row))]
noncomputable def f34l5 : Clean := ⟨[3], [], [], [], [(⟨false, 3, 0⟩, 1000192)]⟩
noncomputable def f34s6 (v2 : ByteArray) : St := stOf [(2, .c (.str v2))] [] []
noncomputable def f34l6 : Clean := ⟨[2], [], [], [], []⟩
noncomputable def f34B : Nat → Option Clean := lookL [(0, f34l5), (1000000, f34l6)]
noncomputable abbrev f34i {ρ : Type} (N : Nat) (c : Code) (p : Plan) (σ : St) (K : KT ρ) : Option ρ := iCode f34G tab f34B N c p σ K
noncomputable def f34c (n : Nat) : Code := codeN 99 (bodyOf Tryd.f34) n
theorem f34t1 N v0 (K : KT ρ) : f34i N (f34c 2) .n (f34s0 v0) (joinK (some f34l1) K) =
  impl_FormatInts.Z1 N v0 (fun v0 => K .nrm (f34s1 v0)) := by kernel_rfl
theorem f34t3 N v0 (K : KT ρ) : f34i N (f34c 5) .n (f34s1 v0) (joinK (some f34l2) K) =
  impl_FormatInts.Z3 N v0 (fun v0 => K .nrm (f34s2 v0)) := by kernel_rfl
theorem f34t6 N v0 (K : KT ρ) : f34i N (f34c 19) .n (f34s2 v0) (joinK (some f34l3) K) =
  impl_FormatInts.Z6 N v0 (fun v6 v7 v8 => K .nrm (f34s3 v6 v7 v8)) := by kernel_rfl
theorem f34t9 N v3 v6 v7 v8 (K : KT ρ) : f34i N (f34c 75) .n (f34s4 v3 v6 v7 v8) (joinK (some f34l4) K) =
  impl_FormatInts.Z9 N v3 v6 v7 v8 (fun v3 v6 v7 v8 => K .nrm (f34s4 v3 v6 v7 v8)) (fun v3 => K (.exit 0) (f34s5 v3)) := by kernel_rfl
noncomputable def f34p8 : Plan := .mk none (some f34l4) .n .n
noncomputable abbrev f34w8 {ρ : Type} (N M : Nat) (σ : St) (K : KT ρ) : Option ρ := loopC (fun σ K => f34i N (f34c 75) .n σ K) f34l4 M σ K
theorem f34t8L {ρ : Type} (N : Nat) (K : KT ρ) : ∀ (M : Nat) (v3 : List ByteArray) (v6 : LI) (v7 v8 : Int), f34w8 N M (f34s4 v3 v6 v7 v8) K =
  impl_FormatInts.Z8L N (fun v3 => K (.exit 0) (f34s5 v3)) M v3 v6 v7 v8
  | 0, _, _, _, _ => rfl
  | M + 1, v3, v6, v7, v8 => viaRoundS (fun k => impl_FormatInts.Z9 N v3 v6 v7 v8 k (fun v3 => K (.exit 0) (f34s5 v3))) (f34t9 N (K := seqK (fun σ => f34w8 N M σ K) K) ..) (fx4 fun v3 v6 v7 v8 => f34t8L N K M v3 v6 v7 v8) (by kernel_rfl)
theorem f34t8 N v6 v7 v8 (K : KT ρ) : f34i N (f34c 43) f34p8 (f34s3 v6 v7 v8) (joinK (some f34l5) K) =
  impl_FormatInts.Z8 N v6 v7 v8 (fun v3 => K (.exit 0) (f34s5 v3)) :=
 viaLoopS (by kernel_rfl) (f34t8L N (joinK (some f34l5) K) N ([] : List ByteArray) v6 v7 v8) (by kernel_rfl)
noncomputable def f34p7 : Plan := .mk (some f34l5) none f34p8 .n
theorem f34t7 N v6 v7 v8 (K : KT ρ) : f34i N (f34c 27) f34p7 (f34s3 v6 v7 v8) (joinK (some f34l5) K) =
  impl_FormatInts.Z7 N v6 v7 v8 (fun v3 => K .nrm (f34s5 v3)) :=
 viaBlockS (by kernel_rfl) (f34t8 N (K := blockK 0 (joinK (some f34l5) K)) ..) (by kernel_rfl)
noncomputable def f34p5 : Plan := .mk (some f34l3) none .n f34p7
theorem f34t5 N v0 (K : KT ρ) : f34i N (f34c 11) f34p5 (f34s2 v0) (joinK (some f34l5) K) =
  impl_FormatInts.Z5 N v0 (fun v3 => K .nrm (f34s5 v3)) :=
 viaSeqS (fun k => impl_FormatInts.Z6 N v0 k) (by kernel_rfl) (f34t6 N (K := seqK (fun σ => f34i N (f34c 27) f34p7 σ (joinK (some f34l5) K)) (joinK (some f34l5) K)) ..) (fx3 fun v6 v7 v8 => f34t7 N v6 v7 v8 K) (by kernel_rfl)
theorem f34t10 N v3 (K : KT ρ) : f34i N (f34c 15) .n (f34s5 v3) (joinK (some f34lE) K) =
  impl_FormatInts.Z10 N v3 (fun v2 => K .ret (f34s6 v2)) := by kernel_rfl
noncomputable def f34p4 : Plan := .mk (some f34l5) none f34p5 .n
theorem f34t4 N v0 (K : KT ρ) : f34i N (f34c 7) f34p4 (f34s2 v0) (joinK (some f34lE) K) =
  impl_FormatInts.Z4 N v0 (fun v2 => K .ret (f34s6 v2)) :=
 viaSeqS (fun k => impl_FormatInts.Z5 N v0 k) (by kernel_rfl) (f34t5 N (K := seqK (fun σ => f34i N (f34c 15) .n σ (joinK (some f34lE) K)) (joinK (some f34lE) K)) ..) (funext fun v3 => f34t10 N v3 K) (by kernel_rfl)
noncomputable def f34p2 : Plan := .mk (some f34l2) none .n f34p4
theorem f34t2 N v0 (K : KT ρ) : f34i N (f34c 3) f34p2 (f34s1 v0) (joinK (some f34lE) K) =
  impl_FormatInts.Z2 N v0 (fun v2 => K .ret (f34s6 v2)) :=
 viaSeqS (fun k => impl_FormatInts.Z3 N v0 k) (by kernel_rfl) (f34t3 N (K := seqK (fun σ => f34i N (f34c 7) f34p4 σ (joinK (some f34lE) K)) (joinK (some f34lE) K)) ..) (funext fun v0 => f34t4 N v0 K) (by kernel_rfl)
noncomputable def f34p0 : Plan := .mk (some f34l1) none .n f34p2
theorem f34t0 N v0 (K : KT ρ) : f34i N (f34c 1) f34p0 (f34s0 v0) (joinK (some f34lE) K) =
  impl_FormatInts.Z0 N v0 (fun v2 => K .ret (f34s6 v2)) :=
 viaSeqS (fun k => impl_FormatInts.Z1 N v0 k) (by kernel_rfl) (f34t1 N (K := seqK (fun σ => f34i N (f34c 3) f34p2 σ (joinK (some f34lE) K)) (joinK (some f34lE) K)) ..) (funext fun v0 => f34t2 N v0 K) (by kernel_rfl)
theorem f34m (N : Nat) (v0 : LI) : f34i N (f34c 1) f34p0 (f34s0 v0) (joinK (some f34lE) (finK tab f34sig Tryd.f34.results.toList)) = impl_FormatInts.Z0 N v0 (fun v2 => some ((), (v2, ()))) :=
  (f34t0 N v0 (finK tab f34sig Tryd.f34.results.toList)).trans (by kernel_rfl)
theorem f34ok (h : impl_FormatInts.Spec) : EntryOk Tryd.prog 34 e34 :=
  entry_of_code (sig := f34sig) (c := (f34c 1)) (pl := f34p0) (je := (some f34lE)) (B := f34B) Tryd.func34 (by kernel_rfl) (by kernel_rfl) (by kernel_rfl) tabOk f34GOk (by kernel_rfl) (by kernel_rfl) (by kernel_rfl) (by kernel_rfl) fun X hb hp => by
    obtain ⟨v0, _⟩ := X
    obtain ⟨N, h⟩ := h v0 hb.1 hp
    exact ⟨N, (f34m N v0).trans (h N (Nat.le_refl N))⟩
theorem e34ok : EntryOk Tryd.prog 34 e34 := f34ok impl_FormatInts.ok
end Go.Fw
namespace Go.Fw
variable {ρ : Type}
open Go.Proofs
noncomputable def f8sig : Sig := ⟨[⟨.str, false, false⟩], [⟨.sl 3 (.int .i64), false, false⟩, ⟨.bool, false, false⟩]⟩
noncomputable def e8 : Entry := ⟨f8sig, (some fun X => impl_ParseInts.P X.1), fun X => ((), ((impl_ParseInts.g X.1).1, ((impl_ParseInts.g X.1).2, ())))⟩
noncomputable def f8G : Gm := addG (addG (addG (addG emptyG 31 e31) 32 e32) 33 e33) 34 e34
theorem f8GOk : GOk Tryd.prog f8G := ((((GOk.nil).add e31ok (by kernel_rfl)).add e32ok (by kernel_rfl)).add e33ok (by kernel_rfl)).add e34ok (by kernel_rfl)
noncomputable def f8lE : Clean := ⟨[], [], [], [], []⟩
noncomputable def f8s0 (v0 : ByteArray) : St := initSt f8sig.ps (v0, ())
noncomputable def f8s1 (v0 : ByteArray) : St := stOf [(0, .c (.str v0))] [] []
noncomputable def f8l1 : Clean := ⟨[0], [], [], [], []⟩
noncomputable def f8s2 (v0 : ByteArray) : St := stOf [(0, .c (.str v0)), (4, .c (.nil))] [] []
noncomputable def f8l2 : Clean := ⟨[0, 4], [], [], [], []⟩
noncomputable def f8s3 (v12 : List ByteArray) (v0 : ByteArray) (v13 v14 : Int) : St := stOf [(0, .c (.str v0)), (4, .c (.nil)), (12, xo 1000768), (13, xi v13), (14, xi v14)] [] [(1000768, (⟨9, .str, v12, true, false⟩ : Row))]
noncomputable def f8l3 : Clean := ⟨[0, 4, 12, 13, 14], [], [], [], [(⟨false, 12, 0⟩, 1000768)]⟩
noncomputable def f8s4 (v4 : LI) (v12 : List ByteArray) (v0 : ByteArray) (v13 v14 : Int) : St := stOf [(0, .c (.str v0)), (4, xo 1000256), (12, xo 1000768), (13, xi v13), (14, xi v14)] [] [(1000256, (⟨3, .int .i64, v4, true, false⟩ : Row)), (1000768, (⟨9, .str, v12, true, false⟩ : Row))]
noncomputable def f8l4 : Clean := ⟨[0, 4, 12, 13, 14], [], [⟨⟨false, 4, 0⟩, 30000000, 3, .int .i64, true⟩], [], [(⟨false, 4, 0⟩, 1000256), (⟨false, 12, 0⟩, 1000768)]⟩
noncomputable def f8s5 (v4 : LI) (v0 : ByteArray) : St := stOf [(0, .c (.str v0)), (4, xo 1000256)] [] [(1000256, (⟨3, .int .i64, v4, true, false⟩ : Row))]
noncomputable def f8l5 : Clean := ⟨[0, 4], [], [], [], [(⟨false, 4, 0⟩, 1000256)]⟩
noncomputable def f8s6 (v2 : LI) (v3 : Bool) : St := stOf [(2, xo 1000128), (3, xB v3)] [] [(1000128, (⟨3, .int .i64, v2, true, false⟩ : Row))]
noncomputable def f8l6 : Clean := ⟨[2, 3], [], [⟨⟨false, 2, 0⟩, 30000000, 3, .int .i64, true⟩], [], [(⟨false, 2, 0⟩, 1000128)]⟩
noncomputable def f8B : Nat → Option Clean := lookL [(0, f8l5), (1000000, f8l6)]
noncomputable abbrev f8i {ρ : Type} (N : Nat) (c : Code) (p : Plan) (σ : St) (K : KT ρ) : Option ρ := iCode f8G tab f8B N c p σ K
noncomputable def f8c (n : Nat) : Code := codeN 99 (bodyOf Tryd.f8) n
theorem f8t1 N v0 (K : KT ρ) : f8i N (f8c 2) .n (f8s0 v0) (joinK (some f8l1) K) =
  impl_ParseInts.Z1 N v0 (fun v0 => K .nrm (f8s1 v0)) := by kernel_rfl
theorem f8t3 N v0 (K : KT ρ) : f8i N (f8c 5) .n (f8s1 v0) (joinK (some f8l1) K) =
  impl_ParseInts.Z3 N v0 (fun v0 => K .nrm (f8s1 v0)) (fun v2 v3 => K .ret (f8s6 v2 v3)) := by kernel_rfl
theorem f8t5 N v0 (K : KT ρ) : f8i N (f8c 11) .n (f8s1 v0) (joinK (some f8l2) K) =
  impl_ParseInts.Z5 N v0 (fun v0 => K .nrm (f8s2 v0)) := by kernel_rfl
theorem f8t8 N v0 (K : KT ρ) : f8i N (f8c 39) .n (f8s2 v0) (joinK (some f8l3) K) =
  impl_ParseInts.Z8 N v0 (fun v12 v0 v13 v14 => K .nrm (f8s3 v12 v0 v13 v14)) := by kernel_rfl
theorem f8t11 N v4 v12 v0 v13 v14 (K : KT ρ) : f8i N (f8c 151) .n (f8s4 v4 v12 v0 v13 v14) (joinK (some f8l4) K) =
  impl_ParseInts.Z11 N v4 v12 v0 v13 v14 (fun v4 v12 v0 v13 v14 => K .nrm (f8s4 v4 v12 v0 v13 v14)) (fun v4 v0 => K (.exit 0) (f8s5 v4 v0)) (fun v2 v3 => K .ret (f8s6 v2 v3)) := by kernel_rfl
noncomputable def f8p10 : Plan := .mk none (some f8l4) .n .n
noncomputable abbrev f8w10 {ρ : Type} (N M : Nat) (σ : St) (K : KT ρ) : Option ρ := loopC (fun σ K => f8i N (f8c 151) .n σ K) f8l4 M σ K
theorem f8t10L {ρ : Type} (N : Nat) (K : KT ρ) : ∀ (M : Nat) (v4 : LI) (v12 : List ByteArray) (v0 : ByteArray) (v13 v14 : Int), f8w10 N M (f8s4 v4 v12 v0 v13 v14) K =
  impl_ParseInts.Z10L N (fun v4 v0 => K (.exit 0) (f8s5 v4 v0)) (fun v2 v3 => K .ret (f8s6 v2 v3)) M v4 v12 v0 v13 v14
  | 0, _, _, _, _, _ => rfl
  | M + 1, v4, v12, v0, v13, v14 => viaRoundS (fun k => impl_ParseInts.Z11 N v4 v12 v0 v13 v14 k (fun v4 v0 => K (.exit 0) (f8s5 v4 v0)) (fun v2 v3 => K .ret (f8s6 v2 v3))) (f8t11 N (K := seqK (fun σ => f8w10 N M σ K) K) ..) (fx5 fun v4 v12 v0 v13 v14 => f8t10L N K M v4 v12 v0 v13 v14) (by kernel_rfl)
theorem f8t10 N v12 v0 v13 v14 (K : KT ρ) : f8i N (f8c 87) f8p10 (f8s3 v12 v0 v13 v14) (joinK (some f8l5) K) =
  impl_ParseInts.Z10 N v12 v0 v13 v14 (fun v4 v0 => K (.exit 0) (f8s5 v4 v0)) (fun v2 v3 => K .ret (f8s6 v2 v3)) :=
 viaLoopS (by kernel_rfl) (f8t10L N (joinK (some f8l5) K) N ([] : List Int) v12 v0 v13 v14) (by kernel_rfl)
noncomputable def f8p9 : Plan := .mk (some f8l5) none f8p10 .n
theorem f8t9 N v12 v0 v13 v14 (K : KT ρ) : f8i N (f8c 55) f8p9 (f8s3 v12 v0 v13 v14) (joinK (some f8l5) K) =
  impl_ParseInts.Z9 N v12 v0 v13 v14 (fun v4 v0 => K .nrm (f8s5 v4 v0)) (fun v2 v3 => K .ret (f8s6 v2 v3)) :=
 viaBlockS (by kernel_rfl) (f8t10 N (K := blockK 0 (joinK (some f8l5) K)) ..) (by kernel_rfl)
noncomputable def f8p7 : Plan := .mk (some f8l3) none .n f8p9
theorem f8t7 N v0 (K : KT ρ) : f8i N (f8c 23) f8p7 (f8s2 v0) (joinK (some f8l5) K) =
  impl_ParseInts.Z7 N v0 (fun v4 v0 => K .nrm (f8s5 v4 v0)) (fun v2 v3 => K .ret (f8s6 v2 v3)) :=
 viaSeqS (fun k => impl_ParseInts.Z8 N v0 k) (by kernel_rfl) (f8t8 N (K := seqK (fun σ => f8i N (f8c 55) f8p9 σ (joinK (some f8l5) K)) (joinK (some f8l5) K)) ..) (fx4 fun v12 v0 v13 v14 => f8t9 N v12 v0 v13 v14 K) (by kernel_rfl)
theorem f8t12 N v4 v0 (K : KT ρ) : f8i N (f8c 31) .n (f8s5 v4 v0) (joinK (some f8lE) K) =
  impl_ParseInts.Z12 N v4 v0 (fun v2 v3 => K .ret (f8s6 v2 v3)) := by kernel_rfl
noncomputable def f8p6 : Plan := .mk (some f8l5) none f8p7 .n
theorem f8t6 N v0 (K : KT ρ) : f8i N (f8c 15) f8p6 (f8s2 v0) (joinK (some f8lE) K) =
  impl_ParseInts.Z6 N v0 (fun v2 v3 => K .ret (f8s6 v2 v3)) :=
 viaSeqS (fun k => impl_ParseInts.Z7 N v0 k (fun v2 v3 => K .ret (f8s6 v2 v3))) (by kernel_rfl) (f8t7 N (K := seqK (fun σ => f8i N (f8c 31) .n σ (joinK (some f8lE) K)) (joinK (some f8lE) K)) ..) (fx2 fun v4 v0 => f8t12 N v4 v0 K) (by kernel_rfl)
noncomputable def f8p4 : Plan := .mk (some f8l2) none .n f8p6
theorem f8t4 N v0 (K : KT ρ) : f8i N (f8c 7) f8p4 (f8s1 v0) (joinK (some f8lE) K) =
  impl_ParseInts.Z4 N v0 (fun v2 v3 => K .ret (f8s6 v2 v3)) :=
 viaSeqS (fun k => impl_ParseInts.Z5 N v0 k) (by kernel_rfl) (f8t5 N (K := seqK (fun σ => f8i N (f8c 15) f8p6 σ (joinK (some f8lE) K)) (joinK (some f8lE) K)) ..) (funext fun v0 => f8t6 N v0 K) (by kernel_rfl)
noncomputable def f8p2 : Plan := .mk (some f8l1) none .n f8p4
theorem f8t2 N v0 (K : KT ρ) : f8i N (f8c 3) f8p2 (f8s1 v0) (joinK (some f8lE) K) =
  impl_ParseInts.Z2 N v0 (fun v2 v3 => K .ret (f8s6 v2 v3)) :=
 viaSeqS (fun k => impl_ParseInts.Z3 N v0 k (fun v2 v3 => K .ret (f8s6 v2 v3))) (by kernel_rfl) (f8t3 N (K := seqK (fun σ => f8i N (f8c 7) f8p4 σ (joinK (some f8lE) K)) (joinK (some f8lE) K)) ..) (funext fun v0 => f8t4 N v0 K) (by kernel_rfl)
noncomputable def f8p0 : Plan := .mk (some f8l1) none .n f8p2
theorem f8t0 N v0 (K : KT ρ) : f8i N (f8c 1) f8p0 (f8s0 v0) (joinK (some f8lE) K) =
  impl_ParseInts.Z0 N v0 (fun v2 v3 => K .ret (f8s6 v2 v3)) :=
 viaSeqS (fun k => impl_ParseInts.Z1 N v0 k) (by kernel_rfl) (f8t1 N (K := seqK (fun σ => f8i N (f8c 3) f8p2 σ (joinK (some f8lE) K)) (joinK (some f8lE) K)) ..) (funext fun v0 => f8t2 N v0 K) (by kernel_rfl)
theorem f8m (N : Nat) (v0 : ByteArray) : f8i N (f8c 1) f8p0 (f8s0 v0) (joinK (some f8lE) (finK tab f8sig Tryd.f8.results.toList)) = impl_ParseInts.Z0 N v0 (fun v2 v3 => some ((), (v2, (v3, ())))) :=
  (f8t0 N v0 (finK tab f8sig Tryd.f8.results.toList)).trans (by kernel_rfl)
theorem f8ok (h : impl_ParseInts.Spec) : EntryOk Tryd.prog 8 e8 :=
  entry_of_code (sig := f8sig) (c := (f8c 1)) (pl := f8p0) (je := (some f8lE)) (B := f8B) Tryd.func8 (by kernel_rfl) (by kernel_rfl) (by kernel_rfl) tabOk f8GOk (by kernel_rfl) (by kernel_rfl) (by kernel_rfl) (by kernel_rfl) fun X hb hp => by
    obtain ⟨v0, _⟩ := X
    obtain ⟨N, h⟩ := h v0 hp
    exact ⟨N, (f8m N v0).trans (h N (Nat.le_refl N))⟩
theorem e8ok : EntryOk Tryd.prog 8 e8 := f8ok impl_ParseInts.ok
end Go.Fw
namespace Go.Fw
variable {ρ : Type}
open Go.Proofs
noncomputable def f9sig : Sig := ⟨[⟨.sl 3 (.int .i64), false, false⟩, ⟨.sl 3 (.int .i64), false, false⟩], [⟨.bool, false, false⟩]⟩
noncomputable def e9 : Entry := ⟨f9sig, none, fun X => ((), ((laws_eqIntS.g X.1 X.2.1), ()))⟩
noncomputable def f9G : Gm := emptyG
theorem f9GOk : GOk Tryd.prog f9G := GOk.nil
noncomputable def f9lE : Clean := ⟨[], [], [], [], []⟩
noncomputable def f9s0 (v0 v1 : LI) : St := initSt f9sig.ps (v0, (v1, ()))
noncomputable def f9s1 (v0 v1 : LI) : St := stOf [(0, .c (.sn 3 tI v0 none)), (1, .c (.sn 3 tI v1 none))] [] []
noncomputable def f9l1 : Clean := ⟨[0, 1], [], [], [], []⟩
noncomputable def f9s2 (v0 v1 : LI) (v5 : Int) : St := stOf [(0, .c (.sn 3 tI v0 none)), (1, .c (.sn 3 tI v1 none)), (5, xi v5)] [] []
noncomputable def f9l2 : Clean := ⟨[0, 1, 5], [], [], [], []⟩
noncomputable def f9s3  : St := stOf [] [] []
noncomputable def f9l3 : Clean := ⟨[], [], [], [], []⟩
noncomputable def f9s4 (v4 : Bool) : St := stOf [(4, xB v4)] [] []
noncomputable def f9l4 : Clean := ⟨[4], [], [], [], []⟩
noncomputable def f9B : Nat → Option Clean := lookL [(0, f9l3), (1000000, f9l4)]
noncomputable abbrev f9i {ρ : Type} (N : Nat) (c : Code) (p : Plan) (σ : St) (K : KT ρ) : Option ρ := iCode f9G tab f9B N c p σ K
noncomputable def f9c (n : Nat) : Code := codeN 99 (bodyOf Tryd.f9) n
theorem f9t1 N v0 v1 (K : KT ρ) : f9i N (f9c 2) .n (f9s0 v0 v1) (joinK (some f9l1) K) =
  laws_eqIntS.Z1 N v0 v1 (fun v0 v1 => K .nrm (f9s1 v0 v1)) := by kernel_rfl
theorem f9t3 N v0 v1 (K : KT ρ) : f9i N (f9c 5) .n (f9s1 v0 v1) (joinK (some f9l1) K) =
  laws_eqIntS.Z3 N v0 v1 (fun v0 v1 => K .nrm (f9s1 v0 v1)) (fun v4 => K .ret (f9s4 v4)) := by kernel_rfl
theorem f9t6 N v0 v1 (K : KT ρ) : f9i N (f9c 19) .n (f9s1 v0 v1) (joinK (some f9l2) K) =
  laws_eqIntS.Z6 N v0 v1 (fun v0 v1 v5 => K .nrm (f9s2 v0 v1 v5)) := by kernel_rfl
theorem f9t9 N v0 v1 v5 (K : KT ρ) : f9i N (f9c 75) .n (f9s2 v0 v1 v5) (joinK (some f9l2) K) =
  laws_eqIntS.Z9 N v0 v1 v5 (fun v0 v1 v5 => K .nrm (f9s2 v0 v1 v5)) (K (.exit 0) f9s3) (fun v4 => K .ret (f9s4 v4)) := by kernel_rfl
noncomputable def f9p8 : Plan := .mk none (some f9l2) .n .n
noncomputable abbrev f9w8 {ρ : Type} (N M : Nat) (σ : St) (K : KT ρ) : Option ρ := loopC (fun σ K => f9i N (f9c 75) .n σ K) f9l2 M σ K
theorem f9t8L {ρ : Type} (N : Nat) (K : KT ρ) : ∀ (M : Nat) (v0 v1 : LI) (v5 : Int), f9w8 N M (f9s2 v0 v1 v5) K =
  laws_eqIntS.Z8L N (K (.exit 0) f9s3) (fun v4 => K .ret (f9s4 v4)) M v0 v1 v5
  | 0, _, _, _ => rfl
  | M + 1, v0, v1, v5 => viaRoundS (fun k => laws_eqIntS.Z9 N v0 v1 v5 k (K (.exit 0) f9s3) (fun v4 => K .ret (f9s4 v4))) (f9t9 N (K := seqK (fun σ => f9w8 N M σ K) K) ..) (fx3 fun v0 v1 v5 => f9t8L N K M v0 v1 v5) (by kernel_rfl)
theorem f9t8 N v0 v1 v5 (K : KT ρ) : f9i N (f9c 43) f9p8 (f9s2 v0 v1 v5) (joinK (some f9l3) K) =
  laws_eqIntS.Z8 N v0 v1 v5 (K (.exit 0) f9s3) (fun v4 => K .ret (f9s4 v4)) :=
 viaLoopS (by kernel_rfl) (f9t8L N (joinK (some f9l3) K) N v0 v1 v5) (by kernel_rfl)
noncomputable def f9p7 : Plan := .mk (some f9l3) none f9p8 .n
theorem f9t7 N v0 v1 v5 (K : KT ρ) : f9i N (f9c 27) f9p7 (f9s2 v0 v1 v5) (joinK (some f9l3) K) =
  laws_eqIntS.Z7 N v0 v1 v5 (K .nrm f9s3) (fun v4 => K .ret (f9s4 v4)) :=
 viaBlockS (by kernel_rfl) (f9t8 N (K := blockK 0 (joinK (some f9l3) K)) ..) (by kernel_rfl)
noncomputable def f9p5 : Plan := .mk (some f9l2) none .n f9p7
theorem f9t5 N v0 v1 (K : KT ρ) : f9i N (f9c 11) f9p5 (f9s1 v0 v1) (joinK (some f9l3) K) =
  laws_eqIntS.Z5 N v0 v1 (K .nrm f9s3) (fun v4 => K .ret (f9s4 v4)) :=
 viaSeqS (fun k => laws_eqIntS.Z6 N v0 v1 k) (by kernel_rfl) (f9t6 N (K := seqK (fun σ => f9i N (f9c 27) f9p7 σ (joinK (some f9l3) K)) (joinK (some f9l3) K)) ..) (fx3 fun v0 v1 v5 => f9t7 N v0 v1 v5 K) (by kernel_rfl)
theorem f9t10 N  (K : KT ρ) : f9i N (f9c 15) .n f9s3 (joinK (some f9lE) K) =
  laws_eqIntS.Z10 N (fun v4 => K .ret (f9s4 v4)) := by kernel_rfl
noncomputable def f9p4 : Plan := .mk (some f9l3) none f9p5 .n
theorem f9t4 N v0 v1 (K : KT ρ) : f9i N (f9c 7) f9p4 (f9s1 v0 v1) (joinK (some f9lE) K) =
  laws_eqIntS.Z4 N v0 v1 (fun v4 => K .ret (f9s4 v4)) :=
 viaSeqS (fun k => laws_eqIntS.Z5 N v0 v1 k (fun v4 => K .ret (f9s4 v4))) (by kernel_rfl) (f9t5 N (K := seqK (fun σ => f9i N (f9c 15) .n σ (joinK (some f9lE) K)) (joinK (some f9lE) K)) ..) (f9t10 N K) (by kernel_rfl)
noncomputable def f9p2 : Plan := .mk (some f9l1) none .n f9p4
theorem f9t2 N v0 v1 (K : KT ρ) : f9i N (f9c 3) f9p2 (f9s1 v0 v1) (joinK (some f9lE) K) =
  laws_eqIntS.Z2 N v0 v1 (fun v4 => K .ret (f9s4 v4)) :=
 viaSeqS (fun k => laws_eqIntS.Z3 N v0 v1 k (fun v4 => K .ret (f9s4 v4))) (by kernel_rfl) (f9t3 N (K := seqK (fun σ => f9i N (f9c 7) f9p4 σ (joinK (some f9lE) K)) (joinK (some f9lE) K)) ..) (fx2 fun v0 v1 => f9t4 N v0 v1 K) (by kernel_rfl)
noncomputable def f9p0 : Plan := .mk (some f9l1) none .n f9p2
theorem f9t0 N v0 v1 (K : KT ρ) : f9i N (f9c 1) f9p0 (f9s0 v0 v1) (joinK (some f9lE) K) =
  laws_eqIntS.Z0 N v0 v1 (fun v4 => K .ret (f9s4 v4)) :=
 viaSeqS (fun k => laws_eqIntS.Z1 N v0 v1 k) (by kernel_rfl) (f9t1 N (K := seqK (fun σ => f9i N (f9c 3) f9p2 σ (joinK (some f9lE) K)) (joinK (some f9lE) K)) ..) (fx2 fun v0 v1 => f9t2 N v0 v1 K) (by kernel_rfl)
theorem f9m (N : Nat) (v0 v1 : LI) : f9i N (f9c 1) f9p0 (f9s0 v0 v1) (joinK (some f9lE) (finK tab f9sig Tryd.f9.results.toList)) = laws_eqIntS.Z0 N v0 v1 (fun v4 => some ((), (v4, ()))) :=
  (f9t0 N v0 v1 (finK tab f9sig Tryd.f9.results.toList)).trans (by kernel_rfl)
theorem f9ok (h : laws_eqIntS.Spec) : EntryOk Tryd.prog 9 e9 :=
  entry_of_code (sig := f9sig) (c := (f9c 1)) (pl := f9p0) (je := (some f9lE)) (B := f9B) Tryd.func9 (by kernel_rfl) (by kernel_rfl) (by kernel_rfl) tabOk f9GOk (by kernel_rfl) (by kernel_rfl) (by kernel_rfl) (by kernel_rfl) fun X hb hp => by
    obtain ⟨v0, v1, _⟩ := X
    obtain ⟨N, h⟩ := h v0 v1 hb.1 hb.2.1
    exact ⟨N, (f9m N v0 v1).trans (h N (Nat.le_refl N))⟩
theorem e9ok : EntryOk Tryd.prog 9 e9 := f9ok laws_eqIntS.ok
end Go.Fw
namespace Go.Fw
variable {ρ : Type}
open Go.Proofs
noncomputable def f10sig : Sig := ⟨[⟨.sl 3 (.int .i64), false, true⟩, ⟨.int .i64, false, false⟩], [⟨.int .i64, false, false⟩]⟩
noncomputable def e10 : Entry := ⟨f10sig, none, fun X => ((laws_markIntS.g X.1 X.2.1).1, ((laws_markIntS.g X.1 X.2.1).2, ()))⟩
noncomputable def f10G : Gm := emptyG
theorem f10GOk : GOk Tryd.prog f10G := GOk.nil
noncomputable def f10lE : Clean := ⟨[], [], [], [], []⟩
noncomputable def f10s0 (v0 : LI) (v1 : Int) : St := initSt f10sig.ps (v0, (v1, ()))
noncomputable def f10s1 (v0 : LI) (v1 : Int) : St := stOf [(0, xo 1000000), (1, xi v1), (100000, xo 1000000)] [] [(1000000, (⟨3, .int .i64, v0, true, false⟩ : Row))]
noncomputable def f10l1 : Clean := ⟨[0, 1, 100000], [], [], [], [(⟨false, 0, 0⟩, 1000000)]⟩
noncomputable def f10s2 (v0 : LI) (v1 v5 : Int) : St := stOf [(0, xo 1000000), (1, xi v1), (5, xi v5), (100000, xo 1000000)] [] [(1000000, (⟨3, .int .i64, v0, true, false⟩ : Row))]
noncomputable def f10l2 : Clean := ⟨[0, 1, 5, 100000], [], [], [], [(⟨false, 0, 0⟩, 1000000)]⟩
noncomputable def f10s3 (io100000 : LI) (v1 : Int) : St := stOf [(1, xi v1), (100000, xo 7400000)] [] [(7400000, (⟨3, .int .i64, io100000, true, false⟩ : Row))]
noncomputable def f10l3 : Clean := ⟨[1, 100000], [], [], [], [(⟨false, 100000, 0⟩, 7400000)]⟩
noncomputable def f10s4 (io100000 : LI) (v4 : Int) : St := stOf [(4, xi v4), (100000, xo 7400000)] [] [(7400000, (⟨3, .int .i64, io100000, true, false⟩ : Row))]
noncomputable def f10l4 : Clean := ⟨[4, 100000], [], [], [], [(⟨false, 100000, 0⟩, 7400000)]⟩
noncomputable def f10B : Nat → Option Clean := lookL [(0, f10l3), (1000000, f10l4)]
noncomputable abbrev f10i {ρ : Type} (N : Nat) (c : Code) (p : Plan) (σ : St) (K : KT ρ) : Option ρ := iCode f10G tab f10B N c p σ K
noncomputable def f10c (n : Nat) : Code := codeN 99 (bodyOf Tryd.f10) n
theorem f10t1 N v0 v1 (K : KT ρ) : f10i N (f10c 2) .n (f10s0 v0 v1) (joinK (some f10l1) K) =
  laws_markIntS.Z1 N v0 v1 (fun v0 v1 => K .nrm (f10s1 v0 v1)) := by kernel_rfl
theorem f10t4 N v0 v1 (K : KT ρ) : f10i N (f10c 9) .n (f10s1 v0 v1) (joinK (some f10l2) K) =
  laws_markIntS.Z4 N v0 v1 (fun v0 v1 v5 => K .nrm (f10s2 v0 v1 v5)) := by kernel_rfl
theorem f10t7 N v0 v1 v5 (K : KT ρ) : f10i N (f10c 37) .n (f10s2 v0 v1 v5) (joinK (some f10l2) K) =
  laws_markIntS.Z7 N v0 v1 v5 (fun v0 v1 v5 => K .nrm (f10s2 v0 v1 v5)) (fun io100000 v1 => K (.exit 0) (f10s3 io100000 v1)) := by kernel_rfl
noncomputable def f10p6 : Plan := .mk none (some f10l2) .n .n
noncomputable abbrev f10w6 {ρ : Type} (N M : Nat) (σ : St) (K : KT ρ) : Option ρ := loopC (fun σ K => f10i N (f10c 37) .n σ K) f10l2 M σ K
theorem f10t6L {ρ : Type} (N : Nat) (K : KT ρ) : ∀ (M : Nat) (v0 : LI) (v1 v5 : Int), f10w6 N M (f10s2 v0 v1 v5) K =
  laws_markIntS.Z6L N (fun io100000 v1 => K (.exit 0) (f10s3 io100000 v1)) M v0 v1 v5
  | 0, _, _, _ => rfl
  | M + 1, v0, v1, v5 => viaRoundS (fun k => laws_markIntS.Z7 N v0 v1 v5 k (fun io100000 v1 => K (.exit 0) (f10s3 io100000 v1))) (f10t7 N (K := seqK (fun σ => f10w6 N M σ K) K) ..) (fx3 fun v0 v1 v5 => f10t6L N K M v0 v1 v5) (by kernel_rfl)
theorem f10t6 N v0 v1 v5 (K : KT ρ) : f10i N (f10c 21) f10p6 (f10s2 v0 v1 v5) (joinK (some f10l3) K) =
  laws_markIntS.Z6 N v0 v1 v5 (fun io100000 v1 => K (.exit 0) (f10s3 io100000 v1)) :=
 viaLoopS (by kernel_rfl) (f10t6L N (joinK (some f10l3) K) N v0 v1 v5) (by kernel_rfl)
noncomputable def f10p5 : Plan := .mk (some f10l3) none f10p6 .n
theorem f10t5 N v0 v1 v5 (K : KT ρ) : f10i N (f10c 13) f10p5 (f10s2 v0 v1 v5) (joinK (some f10l3) K) =
  laws_markIntS.Z5 N v0 v1 v5 (fun io100000 v1 => K .nrm (f10s3 io100000 v1)) :=
 viaBlockS (by kernel_rfl) (f10t6 N (K := blockK 0 (joinK (some f10l3) K)) ..) (by kernel_rfl)
noncomputable def f10p3 : Plan := .mk (some f10l2) none .n f10p5
theorem f10t3 N v0 v1 (K : KT ρ) : f10i N (f10c 5) f10p3 (f10s1 v0 v1) (joinK (some f10l3) K) =
  laws_markIntS.Z3 N v0 v1 (fun io100000 v1 => K .nrm (f10s3 io100000 v1)) :=
 viaSeqS (fun k => laws_markIntS.Z4 N v0 v1 k) (by kernel_rfl) (f10t4 N (K := seqK (fun σ => f10i N (f10c 13) f10p5 σ (joinK (some f10l3) K)) (joinK (some f10l3) K)) ..) (fx3 fun v0 v1 v5 => f10t5 N v0 v1 v5 K) (by kernel_rfl)
theorem f10t8 N io100000 v1 (K : KT ρ) : f10i N (f10c 7) .n (f10s3 io100000 v1) (joinK (some f10lE) K) =
  laws_markIntS.Z8 N io100000 v1 (fun io100000 v4 => K .ret (f10s4 io100000 v4)) := by kernel_rfl
noncomputable def f10p2 : Plan := .mk (some f10l3) none f10p3 .n
theorem f10t2 N v0 v1 (K : KT ρ) : f10i N (f10c 3) f10p2 (f10s1 v0 v1) (joinK (some f10lE) K) =
  laws_markIntS.Z2 N v0 v1 (fun io100000 v4 => K .ret (f10s4 io100000 v4)) :=
 viaSeqS (fun k => laws_markIntS.Z3 N v0 v1 k) (by kernel_rfl) (f10t3 N (K := seqK (fun σ => f10i N (f10c 7) .n σ (joinK (some f10lE) K)) (joinK (some f10lE) K)) ..) (fx2 fun io100000 v1 => f10t8 N io100000 v1 K) (by kernel_rfl)
noncomputable def f10p0 : Plan := .mk (some f10l1) none .n f10p2
theorem f10t0 N v0 v1 (K : KT ρ) : f10i N (f10c 1) f10p0 (f10s0 v0 v1) (joinK (some f10lE) K) =
  laws_markIntS.Z0 N v0 v1 (fun io100000 v4 => K .ret (f10s4 io100000 v4)) :=
 viaSeqS (fun k => laws_markIntS.Z1 N v0 v1 k) (by kernel_rfl) (f10t1 N (K := seqK (fun σ => f10i N (f10c 3) f10p2 σ (joinK (some f10lE) K)) (joinK (some f10lE) K)) ..) (fx2 fun v0 v1 => f10t2 N v0 v1 K) (by kernel_rfl)
theorem f10m (N : Nat) (v0 : LI) (v1 : Int) : f10i N (f10c 1) f10p0 (f10s0 v0 v1) (joinK (some f10lE) (finK tab f10sig Tryd.f10.results.toList)) = laws_markIntS.Z0 N v0 v1 (fun io100000 v4 => some (io100000, (v4, ()))) :=
  (f10t0 N v0 v1 (finK tab f10sig Tryd.f10.results.toList)).trans (by kernel_rfl)
theorem f10ok (h : laws_markIntS.Spec) : EntryOk Tryd.prog 10 e10 :=
  entry_of_code (sig := f10sig) (c := (f10c 1)) (pl := f10p0) (je := (some f10lE)) (B := f10B) Tryd.func10 (by kernel_rfl) (by kernel_rfl) (by kernel_rfl) tabOk f10GOk (by kernel_rfl) (by kernel_rfl) (by kernel_rfl) (by kernel_rfl) fun X hb hp => by
    obtain ⟨v0, v1, _⟩ := X
    obtain ⟨N, h⟩ := h v0 v1 hb.1
    exact ⟨N, (f10m N v0 v1).trans (h N (Nat.le_refl N))⟩
theorem e10ok : EntryOk Tryd.prog 10 e10 := f10ok laws_markIntS.ok
end Go.Fw
namespace Go.Fw
variable {ρ : Type}
open Go.Proofs
noncomputable def f11sig : Sig := ⟨[⟨.sl 3 (.int .i64), false, false⟩, ⟨.int .i64, false, false⟩], [⟨.int .i64, false, false⟩]⟩
noncomputable def e11 : Entry := ⟨f11sig, none, fun X => ((), ((laws_heldIntS.g X.1 X.2.1), ()))⟩
noncomputable def f11G : Gm := emptyG
theorem f11GOk : GOk Tryd.prog f11G := GOk.nil
noncomputable def f11lE : Clean := ⟨[], [], [], [], []⟩
noncomputable def f11s0 (v0 : LI) (v1 : Int) : St := initSt f11sig.ps (v0, (v1, ()))
noncomputable def f11s1 (v0 : LI) (v1 : Int) : St := stOf [(0, .c (.sn 3 tI v0 none)), (1, xi v1)] [] []
noncomputable def f11l1 : Clean := ⟨[0, 1], [], [], [], []⟩
noncomputable def f11s2 (v0 : LI) (v1 v5 : Int) : St := stOf [(0, .c (.sn 3 tI v0 none)), (1, xi v1), (5, xi v5)] [] []
noncomputable def f11l2 : Clean := ⟨[0, 1, 5], [], [], [], []⟩
noncomputable def f11s3 (v1 : Int) : St := stOf [(1, xi v1)] [] []
noncomputable def f11l3 : Clean := ⟨[1], [], [], [], []⟩
noncomputable def f11s4 (v4 : Int) : St := stOf [(4, xi v4)] [] []
noncomputable def f11l4 : Clean := ⟨[4], [], [], [], []⟩
noncomputable def f11B : Nat → Option Clean := lookL [(0, f11l3), (1000000, f11l4)]
noncomputable abbrev f11i {ρ : Type} (N : Nat) (c : Code) (p : Plan) (σ : St) (K : KT ρ) : Option ρ := iCode f11G tab f11B N c p σ K
noncomputable def f11c (n : Nat) : Code := codeN 99 (bodyOf Tryd.f11) n
theorem f11t1 N v0 v1 (K : KT ρ) : f11i N (f11c 2) .n (f11s0 v0 v1) (joinK (some f11l1) K) =
  laws_heldIntS.Z1 N v0 v1 (fun v0 v1 => K .nrm (f11s1 v0 v1)) := by kernel_rfl
theorem f11t4 N v0 v1 (K : KT ρ) : f11i N (f11c 9) .n (f11s1 v0 v1) (joinK (some f11l2) K) =
  laws_heldIntS.Z4 N v0 v1 (fun v0 v1 v5 => K .nrm (f11s2 v0 v1 v5)) := by kernel_rfl
theorem f11t7 N v0 v1 v5 (K : KT ρ) : f11i N (f11c 37) .n (f11s2 v0 v1 v5) (joinK (some f11l2) K) =
  laws_heldIntS.Z7 N v0 v1 v5 (fun v0 v1 v5 => K .nrm (f11s2 v0 v1 v5)) (fun v1 => K (.exit 0) (f11s3 v1)) (fun v4 => K .ret (f11s4 v4)) := by kernel_rfl
noncomputable def f11p6 : Plan := .mk none (some f11l2) .n .n
noncomputable abbrev f11w6 {ρ : Type} (N M : Nat) (σ : St) (K : KT ρ) : Option ρ := loopC (fun σ K => f11i N (f11c 37) .n σ K) f11l2 M σ K
theorem f11t6L {ρ : Type} (N : Nat) (K : KT ρ) : ∀ (M : Nat) (v0 : LI) (v1 v5 : Int), f11w6 N M (f11s2 v0 v1 v5) K =
  laws_heldIntS.Z6L N (fun v1 => K (.exit 0) (f11s3 v1)) (fun v4 => K .ret (f11s4 v4)) M v0 v1 v5
  | 0, _, _, _ => rfl
  | M + 1, v0, v1, v5 => viaRoundS (fun k => laws_heldIntS.Z7 N v0 v1 v5 k (fun v1 => K (.exit 0) (f11s3 v1)) (fun v4 => K .ret (f11s4 v4))) (f11t7 N (K := seqK (fun σ => f11w6 N M σ K) K) ..) (fx3 fun v0 v1 v5 => f11t6L N K M v0 v1 v5) (by kernel_rfl)
theorem f11t6 N v0 v1 v5 (K : KT ρ) : f11i N (f11c 21) f11p6 (f11s2 v0 v1 v5) (joinK (some f11l3) K) =
  laws_heldIntS.Z6 N v0 v1 v5 (fun v1 => K (.exit 0) (f11s3 v1)) (fun v4 => K .ret (f11s4 v4)) :=
 viaLoopS (by kernel_rfl) (f11t6L N (joinK (some f11l3) K) N v0 v1 v5) (by kernel_rfl)
noncomputable def f11p5 : Plan := .mk (some f11l3) none f11p6 .n
theorem f11t5 N v0 v1 v5 (K : KT ρ) : f11i N (f11c 13) f11p5 (f11s2 v0 v1 v5) (joinK (some f11l3) K) =
  laws_heldIntS.Z5 N v0 v1 v5 (fun v1 => K .nrm (f11s3 v1)) (fun v4 => K .ret (f11s4 v4)) :=
 viaBlockS (by kernel_rfl) (f11t6 N (K := blockK 0 (joinK (some f11l3) K)) ..) (by kernel_rfl)
noncomputable def f11p3 : Plan := .mk (some f11l2) none .n f11p5
theorem f11t3 N v0 v1 (K : KT ρ) : f11i N (f11c 5) f11p3 (f11s1 v0 v1) (joinK (some f11l3) K) =
  laws_heldIntS.Z3 N v0 v1 (fun v1 => K .nrm (f11s3 v1)) (fun v4 => K .ret (f11s4 v4)) :=
 viaSeqS (fun k => laws_heldIntS.Z4 N v0 v1 k) (by kernel_rfl) (f11t4 N (K := seqK (fun σ => f11i N (f11c 13) f11p5 σ (joinK (some f11l3) K)) (joinK (some f11l3) K)) ..) (fx3 fun v0 v1 v5 => f11t5 N v0 v1 v5 K) (by kernel_rfl)
theorem f11t8 N v1 (K : KT ρ) : f11i N (f11c 7) .n (f11s3 v1) (joinK (some f11lE) K) =
  laws_heldIntS.Z8 N v1 (fun v4 => K .ret (f11s4 v4)) := by kernel_rfl
noncomputable def f11p2 : Plan := .mk (some f11l3) none f11p3 .n
theorem f11t2 N v0 v1 (K : KT ρ) : f11i N (f11c 3) f11p2 (f11s1 v0 v1) (joinK (some f11lE) K) =
  laws_heldIntS.Z2 N v0 v1 (fun v4 => K .ret (f11s4 v4)) :=
 viaSeqS (fun k => laws_heldIntS.Z3 N v0 v1 k (fun v4 => K .ret (f11s4 v4))) (by kernel_rfl) (f11t3 N (K := seqK (fun σ => f11i N (f11c 7) .n σ (joinK (some f11lE) K)) (joinK (some f11lE) K)) ..) (funext fun v1 => f11t8 N v1 K) (by kernel_rfl)
noncomputable def f11p0 : Plan := .mk (some f11l1) none .n f11p2
theorem f11t0 N v0 v1 (K : KT ρ) : f11i N (f11c 1) f11p0 (f11s0 v0 v1) (joinK (some f11lE) K) =
  laws_heldIntS.Z0 N v0 v1 (fun v4 => K .ret (f11s4 v4)) :=
 viaSeqS (fun k => laws_heldIntS.Z1 N v0 v1 k) (by kernel_rfl) (f11t1 N (K := seqK (fun σ => f11i N (f11c 3) f11p2 σ (joinK (some f11lE) K)) (joinK (some f11lE) K)) ..) (fx2 fun v0 v1 => f11t2 N v0 v1 K) (by kernel_rfl)
theorem f11m (N : Nat) (v0 : LI) (v1 : Int) : f11i N (f11c 1) f11p0 (f11s0 v0 v1) (joinK (some f11lE) (finK tab f11sig Tryd.f11.results.toList)) = laws_heldIntS.Z0 N v0 v1 (fun v4 => some ((), (v4, ()))) :=
  (f11t0 N v0 v1 (finK tab f11sig Tryd.f11.results.toList)).trans (by kernel_rfl)
theorem f11ok (h : laws_heldIntS.Spec) : EntryOk Tryd.prog 11 e11 :=
  entry_of_code (sig := f11sig) (c := (f11c 1)) (pl := f11p0) (je := (some f11lE)) (B := f11B) Tryd.func11 (by kernel_rfl) (by kernel_rfl) (by kernel_rfl) tabOk f11GOk (by kernel_rfl) (by kernel_rfl) (by kernel_rfl) (by kernel_rfl) fun X hb hp => by
    obtain ⟨v0, v1, _⟩ := X
    obtain ⟨N, h⟩ := h v0 v1 hb.1
    exact ⟨N, (f11m N v0 v1).trans (h N (Nat.le_refl N))⟩
theorem e11ok : EntryOk Tryd.prog 11 e11 := f11ok laws_heldIntS.ok
end Go.Fw
namespace Go.Fw
variable {ρ : Type}
open Go.Proofs
noncomputable def f3sig : Sig := ⟨[⟨.str, false, false⟩], [⟨.bool, false, false⟩]⟩
noncomputable def e3 : Entry := ⟨f3sig, none, fun X => ((), ((laws_FnExactParseInts.g X.1), ()))⟩
noncomputable def f3G : Gm := addG (addG (addG (addG (addG emptyG 7 e7) 8 e8) 9 e9) 10 e10) 11 e11
theorem f3GOk : GOk Tryd.prog f3G := (((((GOk.nil).add e7ok (by kernel_rfl)).add e8ok (by kernel_rfl)).add e9ok (by kernel_rfl)).add e10ok (by kernel_rfl)).add e11ok (by kernel_rfl)
noncomputable def f3lE : Clean := ⟨[], [], [], [], []⟩
noncomputable def f3s0 (v0 : ByteArray) : St := initSt f3sig.ps (v0, ())
noncomputable def f3s1 (v0 : ByteArray) : St := stOf [(0, .c (.str v0))] [] []
noncomputable def f3l1 : Clean := ⟨[0], [], [], [], []⟩
noncomputable def f3s2 (v3 : LI) (v0 : ByteArray) (v4 : Bool) : St := stOf [(0, .c (.str v0)), (3, xo 1000192), (4, xB v4)] [] [(1000192, (⟨3, .int .i64, v3, true, false⟩ : Row))]
noncomputable def f3l2 : Clean := ⟨[0, 3, 4], [], [], [], [(⟨false, 3, 0⟩, 1000192)]⟩
noncomputable def f3s3 (v3 v5 : LI) (v0 : ByteArray) (v4 v6 : Bool) : St := stOf [(0, .c (.str v0)), (3, xo 1000192), (4, xB v4), (5, xo 1000320), (6, xB v6)] [] [(1000192, (⟨3, .int .i64, v3, true, false⟩ : Row)), (1000320, (⟨3, .int .i64, v5, true, false⟩ : Row))]
noncomputable def f3l3 : Clean := ⟨[0, 3, 4, 5, 6], [], [], [], [(⟨false, 3, 0⟩, 1000192), (⟨false, 5, 0⟩, 1000320)]⟩
noncomputable def f3s4 (v3 v5 : LI) (v0 : ByteArray) (v4 : Bool) : St := stOf [(0, .c (.str v0)), (3, xo 1000192), (4, xB v4), (5, xo 1000320)] [] [(1000192, (⟨3, .int .i64, v3, true, false⟩ : Row)), (1000320, (⟨3, .int .i64, v5, true, false⟩ : Row))]
noncomputable def f3l4 : Clean := ⟨[0, 3, 4, 5], [], [], [], [(⟨false, 3, 0⟩, 1000192), (⟨false, 5, 0⟩, 1000320)]⟩
noncomputable def f3s5 (v2 : Bool) : St := stOf [(2, xB v2)] [] []
noncomputable def f3l5 : Clean := ⟨[2], [], [], [], []⟩
noncomputable def f3B : Nat → Option Clean := lookL [(1000000, f3l5)]
noncomputable abbrev f3i {ρ : Type} (N : Nat) (c : Code) (p : Plan) (σ : St) (K : KT ρ) : Option ρ := iCode f3G tab f3B N c p σ K
noncomputable def f3c (n : Nat) : Code := codeN 99 (bodyOf Tryd.f3) n
theorem f3t1 N v0 (K : KT ρ) : f3i N (f3c 2) .n (f3s0 v0) (joinK (some f3l1) K) =
  laws_FnExactParseInts.Z1 N v0 (fun v0 => K .nrm (f3s1 v0)) := by kernel_rfl
theorem f3t3 N v0 (K : KT ρ) : f3i N (f3c 5) .n (f3s1 v0) (joinK (some f3l1) K) =
  laws_FnExactParseInts.Z3 N v0 (fun v0 => K .nrm (f3s1 v0)) (fun v2 => K .ret (f3s5 v2)) := by kernel_rfl
theorem f3t5 N v0 (K : KT ρ) : f3i N (f3c 11) .n (f3s1 v0) (joinK (some f3l2) K) =
  laws_FnExactParseInts.Z5 N v0 (fun v3 v0 v4 => K .nrm (f3s2 v3 v0 v4)) := by kernel_rfl
theorem f3t7 N v3 v0 v4 (K : KT ρ) : f3i N (f3c 23) .n (f3s2 v3 v0 v4) (joinK (some f3l3) K) =
  laws_FnExactParseInts.Z7 N v3 v0 v4 (fun v3 v5 v0 v4 v6 => K .nrm (f3s3 v3 v5 v0 v4 v6)) := by kernel_rfl
theorem f3t9 N v3 v5 v0 v4 v6 (K : KT ρ) : f3i N (f3c 47) .n (f3s3 v3 v5 v0 v4 v6) (joinK (some f3l4) K) =
  laws_FnExactParseInts.Z9 N v3 v5 v0 v4 v6 (fun v3 v5 v0 v4 => K .nrm (f3s4 v3 v5 v0 v4)) (fun v2 => K .ret (f3s5 v2)) := by kernel_rfl
theorem f3t10 N v3 v5 v0 v4 (K : KT ρ) : f3i N (f3c 63) .n (f3s4 v3 v5 v0 v4) (joinK (some f3lE) K) =
  laws_FnExactParseInts.Z10 N v3 v5 v0 v4 (fun v2 => K .ret (f3s5 v2)) := by kernel_rfl
noncomputable def f3p8 : Plan := .mk (some f3l4) none .n .n
theorem f3t8 N v3 v5 v0 v4 v6 (K : KT ρ) : f3i N (f3c 31) f3p8 (f3s3 v3 v5 v0 v4 v6) (joinK (some f3lE) K) =
  laws_FnExactParseInts.Z8 N v3 v5 v0 v4 v6 (fun v2 => K .ret (f3s5 v2)) :=
 viaSeqS (fun k => laws_FnExactParseInts.Z9 N v3 v5 v0 v4 v6 k (fun v2 => K .ret (f3s5 v2))) (by kernel_rfl) (f3t9 N (K := seqK (fun σ => f3i N (f3c 63) .n σ (joinK (some f3lE) K)) (joinK (some f3lE) K)) ..) (fx4 fun v3 v5 v0 v4 => f3t10 N v3 v5 v0 v4 K) (by kernel_rfl)
noncomputable def f3p6 : Plan := .mk (some f3l3) none .n f3p8
theorem f3t6 N v3 v0 v4 (K : KT ρ) : f3i N (f3c 15) f3p6 (f3s2 v3 v0 v4) (joinK (some f3lE) K) =
  laws_FnExactParseInts.Z6 N v3 v0 v4 (fun v2 => K .ret (f3s5 v2)) :=
 viaSeqS (fun k => laws_FnExactParseInts.Z7 N v3 v0 v4 k) (by kernel_rfl) (f3t7 N (K := seqK (fun σ => f3i N (f3c 31) f3p8 σ (joinK (some f3lE) K)) (joinK (some f3lE) K)) ..) (fx5 fun v3 v5 v0 v4 v6 => f3t8 N v3 v5 v0 v4 v6 K) (by kernel_rfl)
noncomputable def f3p4 : Plan := .mk (some f3l2) none .n f3p6
theorem f3t4 N v0 (K : KT ρ) : f3i N (f3c 7) f3p4 (f3s1 v0) (joinK (some f3lE) K) =
  laws_FnExactParseInts.Z4 N v0 (fun v2 => K .ret (f3s5 v2)) :=
 viaSeqS (fun k => laws_FnExactParseInts.Z5 N v0 k) (by kernel_rfl) (f3t5 N (K := seqK (fun σ => f3i N (f3c 15) f3p6 σ (joinK (some f3lE) K)) (joinK (some f3lE) K)) ..) (fx3 fun v3 v0 v4 => f3t6 N v3 v0 v4 K) (by kernel_rfl)
noncomputable def f3p2 : Plan := .mk (some f3l1) none .n f3p4
theorem f3t2 N v0 (K : KT ρ) : f3i N (f3c 3) f3p2 (f3s1 v0) (joinK (some f3lE) K) =
  laws_FnExactParseInts.Z2 N v0 (fun v2 => K .ret (f3s5 v2)) :=
 viaSeqS (fun k => laws_FnExactParseInts.Z3 N v0 k (fun v2 => K .ret (f3s5 v2))) (by kernel_rfl) (f3t3 N (K := seqK (fun σ => f3i N (f3c 7) f3p4 σ (joinK (some f3lE) K)) (joinK (some f3lE) K)) ..) (funext fun v0 => f3t4 N v0 K) (by kernel_rfl)
noncomputable def f3p0 : Plan := .mk (some f3l1) none .n f3p2
theorem f3t0 N v0 (K : KT ρ) : f3i N (f3c 1) f3p0 (f3s0 v0) (joinK (some f3lE) K) =
  laws_FnExactParseInts.Z0 N v0 (fun v2 => K .ret (f3s5 v2)) :=
 viaSeqS (fun k => laws_FnExactParseInts.Z1 N v0 k) (by kernel_rfl) (f3t1 N (K := seqK (fun σ => f3i N (f3c 3) f3p2 σ (joinK (some f3lE) K)) (joinK (some f3lE) K)) ..) (funext fun v0 => f3t2 N v0 K) (by kernel_rfl)
theorem f3m (N : Nat) (v0 : ByteArray) : f3i N (f3c 1) f3p0 (f3s0 v0) (joinK (some f3lE) (finK tab f3sig Tryd.f3.results.toList)) = laws_FnExactParseInts.Z0 N v0 (fun v2 => some ((), (v2, ()))) :=
  (f3t0 N v0 (finK tab f3sig Tryd.f3.results.toList)).trans (by kernel_rfl)
theorem f3ok (h : laws_FnExactParseInts.Spec) : EntryOk Tryd.prog 3 e3 :=
  entry_of_code (sig := f3sig) (c := (f3c 1)) (pl := f3p0) (je := (some f3lE)) (B := f3B) Tryd.func3 (by kernel_rfl) (by kernel_rfl) (by kernel_rfl) tabOk f3GOk (by kernel_rfl) (by kernel_rfl) (by kernel_rfl) (by kernel_rfl) fun X hb hp => by
    obtain ⟨v0, _⟩ := X
    obtain ⟨N, h⟩ := h v0
    exact ⟨N, (f3m N v0).trans (h N (Nat.le_refl N))⟩
theorem e3ok : EntryOk Tryd.prog 3 e3 := f3ok laws_FnExactParseInts.ok
end Go.Fw
