/- The ties: the program's text comes to the plain functions. Nothing is assumed. -/
import Derived.Test.YtillpdbmnjkjiaaPuFnMutatesBackb
import Derived.Test.YtillpdbmnjkjiaaTiFnMutatesBacka
noncomputable section
set_option linter.unusedVariables false
set_option linter.unusedSimpArgs false
set_option maxRecDepth 100000
namespace Go.Fw
variable {ρ : Type}
open Go.Proofs
def f66k : VarK := ⟨113, [(5, .int .u8)], .pair (.int .i64) (.int .i64)⟩
def f66ps : List PT := [⟨.pair (.int .i64) (.pair (.int .i64) (.sl 3 (.int .i64))), true, false⟩]
def f66rs : List PT := [⟨.pair (.int .i64) (.pair (.int .i64) (.sl 3 (.int .i64))), true, false⟩]
def e66 : EntryV := ⟨f66k, f66ps, true, f66rs, (some fun X => spec_dFrozen.P X.1.1.1 X.1.2 X.2.1), fun X => ((spec_dFrozen.g X.1.1.1 X.1.2 X.2.1).1, ((), ((spec_dFrozen.g X.1.1.1 X.1.2 X.2.1).2, ())))⟩
def f66G : Gm := addG (addV emptyG 69 e69) 102 e102
theorem f66GOk : GOk Try.prog f66G := ((GOk.nil).addV e69ok (by kernel_rfl)).add e102ok (by kernel_rfl)
def f66lE : Clean := ⟨[], [], [], [], []⟩
def f66s0 (u0 : Value) (b0 : List Int) (r0 : Int × Int) (a : MT) : St := initStV f66k f66ps [u0] (((b0, ()), r0), (a, ()))
def f66s1 (u0 : Value) (a : List Int) (b c d e : Int) (f : LI) (g h : Int) : St := stOf [(0, xb 100000), (3, xb 3), (4, xb 4), (100000, xb 100000)] [(100000, (113, [.bor u0 5 (.int .u8) a, yi b, yi c])), (3, (30, [yi d, yi e, .sn 3 tI f none])), (4, (30, [yi g, yi h, .nil]))] []
def f66l1 : Clean := ⟨[0, 3, 4, 100000], [100000, 3, 4], [], [], []⟩
def f66s2 (u0 : Value) (a : LI) (b : List Int) (c d e f : Int) (g : LI) (h i j l : Int) : St := stOf [(0, xb 100000), (3, xb 3), (4, xb 4), (5, xb 5), (100000, xb 100000)] [(100000, (113, [.bor u0 5 (.int .u8) b, yi c, yi d])), (3, (30, [yi e, yi f, .sn 3 tI g none])), (4, (30, [yi h, yi i, .nil])), (5, (30, [yi j, yi l, .own 20000322]))] [(20000322, (⟨3, .int .i64, a, true, false⟩ : Row))]
def f66l2 : Clean := ⟨[0, 3, 4, 5, 100000], [100000, 3, 4, 5], [], [], [(⟨true, 5, 2⟩, 20000322)]⟩
def f66s3 (u0 : Value) (a : LI) (b : Int) (c : List Int) (d e f g : Int) (h : LI) (i j l m : Int) : St := stOf [(0, xb 100000), (3, xb 3), (4, xb 4), (5, xb 5), (6, xi b), (100000, xb 100000)] [(100000, (113, [.bor u0 5 (.int .u8) c, yi d, yi e])), (3, (30, [yi f, yi g, .sn 3 tI h none])), (4, (30, [yi i, yi j, .nil])), (5, (30, [yi l, yi m, .own 20000322]))] [(20000322, (⟨3, .int .i64, a, true, false⟩ : Row))]
def f66l3 : Clean := ⟨[0, 3, 4, 5, 6, 100000], [100000, 3, 4, 5], [], [], [(⟨true, 5, 2⟩, 20000322)]⟩
def f66s4 (u0 : Value) (a : LI) (b c : Int) (d : List Int) (e f g h : Int) (i : LI) (j l m o : Int) : St := stOf [(0, xb 100000), (3, xb 3), (4, xb 4), (5, xb 5), (6, xi b), (7, xi c), (100000, xb 100000)] [(100000, (113, [.bor u0 5 (.int .u8) d, yi e, yi f])), (3, (30, [yi g, yi h, .sn 3 tI i none])), (4, (30, [yi j, yi l, .nil])), (5, (30, [yi m, yi o, .own 20000322]))] [(20000322, (⟨3, .int .i64, a, true, false⟩ : Row))]
def f66l4 : Clean := ⟨[0, 3, 4, 5, 6, 7, 100000], [100000, 3, 4, 5], [], [], [(⟨true, 5, 2⟩, 20000322)]⟩
def f66s5 (u0 : Value) (a : LI) (b c d : Int) (e : List Int) (f g h i : Int) (j : LI) (l m o p : Int) : St := stOf [(0, xb 100000), (3, xb 3), (4, xb 4), (5, xb 5), (6, xi b), (7, xi c), (8, xi d), (100000, xb 100000)] [(100000, (113, [.bor u0 5 (.int .u8) e, yi f, yi g])), (3, (30, [yi h, yi i, .sn 3 tI j none])), (4, (30, [yi l, yi m, .nil])), (5, (30, [yi o, yi p, .own 20000322]))] [(20000322, (⟨3, .int .i64, a, true, false⟩ : Row))]
def f66l5 : Clean := ⟨[0, 3, 4, 5, 6, 7, 8, 100000], [100000, 3, 4, 5], [], [], [(⟨true, 5, 2⟩, 20000322)]⟩
def f66s6 (u0 : Value) (a : LI) (b c d e : Int) (f : List Int) (g h : Int) : St := stOf [(4, xb 4), (5, xb 5), (100000, xb 100000)] [(4, (30, [yi b, yi c, .nil])), (5, (30, [yi d, yi e, .own 20000322])), (100000, (113, [.bor u0 5 (.int .u8) f, yi g, yi h]))] [(20000322, (⟨3, .int .i64, a, true, false⟩ : Row))]
def f66l6 : Clean := ⟨[4, 5, 100000], [4, 5, 100000], [], [], [(⟨true, 5, 2⟩, 20000322)]⟩
def f66s7 (u0 : Value) (a : LI) (b c : Int) (d : List Int) (e f : Int) : St := stOf [(4, xb 4), (100000, xb 100000)] [(4, (30, [yi b, yi c, .own 20000258])), (100000, (113, [.bor u0 5 (.int .u8) d, yi e, yi f]))] [(20000258, (⟨3, .int .i64, a, true, false⟩ : Row))]
def f66l7 : Clean := ⟨[4, 100000], [4, 100000], [], [], [(⟨true, 4, 2⟩, 20000258)]⟩
def f66B : Nat → Option Clean := lookL [(2, f66l4), (1, f66l4), (0, f66l6), (1000000, f66l7)]
abbrev f66i {ρ : Type} (N : Nat) (c : Code) (p : Plan) (σ : St) (K : KT ρ) : Option ρ := iCode f66G tab f66B N c p σ K
def f66c (n : Nat) : Code := codeN 99 (bodyOf Try.f66) n
theorem f66t1 N u0 b0 r0 a (K : KT ρ) : f66i N (f66c 2) .n (f66s0 u0 b0 r0 a) (joinK (some f66l1) K) =
 spec_dFrozen.Z1 N b0 r0 a (fun b c d e f g h i => K .nrm (f66s1 u0 b c d e f g h i)) := by kernel_rfl
theorem f66t3 N u0 a b c d e f g h (K : KT ρ) : f66i N (f66c 5) .n (f66s1 u0 a b c d e f g h) (joinK (some f66l2) K) =
 spec_dFrozen.Z3 N a b c d e f g h (fun i a b c d e f g h j l => K .nrm (f66s2 u0 i a b c d e f g h j l)) := by kernel_rfl
theorem f66t5 N u0 a b c d e f g h i j l (K : KT ρ) : f66i N (f66c 11) .n (f66s2 u0 a b c d e f g h i j l) (joinK (some f66l3) K) =
 spec_dFrozen.Z5 N a b c d e f g h i j l (fun a m b c d e f g h i j l => K .nrm (f66s3 u0 a m b c d e f g h i j l)) := by kernel_rfl
theorem f66t8 N u0 a b c d e f g h i j l m (K : KT ρ) : f66i N (f66c 39) .n (f66s3 u0 a b c d e f g h i j l m) (joinK (some f66l4) K) =
 spec_dFrozen.Z8 N a b c d e f g h i j l m (fun a b o c d e f g h i j l m => K .nrm (f66s4 u0 a b o c d e f g h i j l m)) := by kernel_rfl
theorem f66t12 N u0 a i j b c d l m o e f g h (K : KT ρ) : f66i N (f66c 279) .n (f66s4 u0 a i j b c d l m o e f g h) (joinK (some f66l4) K) =
 spec_dFrozen.Z12 N a i j b c d l m o e f g h (fun a i j b c d l m o e f g h => K .nrm (f66s4 u0 a i j b c d l m o e f g h)) (fun a e f g h b c d => K (.exit 0) (f66s6 u0 a e f g h b c d)) := by kernel_rfl
theorem f66t17 N u0 a b c d e f g h i j l m o (K : KT ρ) : f66i N (f66c 4247) .n (f66s4 u0 a b c d e f g h i j l m o) (joinK (some f66l5) K) =
 spec_dFrozen.Z17 N a b c d e f g h i j l m o (fun a b c p d e f g h i j l m o => K .nrm (f66s5 u0 a b c p d e f g h i j l m o)) := by kernel_rfl
theorem f66t20 N u0 a b c p d e f g h i j l m o (K : KT ρ) : f66i N (f66c 18583) .n (f66s5 u0 a b c p d e f g h i j l m o) (joinK (some f66l5) K) =
 spec_dFrozen.Z20 N a b c p d e f g h i j l m o (fun a b c p d e f g h i j l m o => K .nrm (f66s5 u0 a b c p d e f g h i j l m o)) (fun a b c d e f g h i j l m o => K (.exit 2) (f66s4 u0 a b c d e f g h i j l m o)) := by kernel_rfl
def f66p19 : Plan := .mk none (some f66l5) .n .n
abbrev f66w19 {ρ : Type} (N M : Nat) (σ : St) (K : KT ρ) : Option ρ := loopC (fun σ K => f66i N (f66c 18583) .n σ K) f66l5 M σ K
theorem f66t19L {ρ : Type} (N : Nat) (u0 : Value) (K : KT ρ) : ∀ (M : Nat) (a : LI) (b c p : Int) (d : List Int) (e f g h : Int) (i : LI) (j l m o : Int), f66w19 N M (f66s5 u0 a b c p d e f g h i j l m o) K =
 spec_dFrozen.Z19L N (fun a b c d e f g h i j l m o => K (.exit 2) (f66s4 u0 a b c d e f g h i j l m o)) M a b c p d e f g h i j l m o
 | 0, _, _, _, _, _, _, _, _, _, _, _, _, _, _ => rfl
 | M + 1, a, b, c, p, d, e, f, g, h, i, j, l, m, o => viaRoundS (fun k => spec_dFrozen.Z20 N a b c p d e f g h i j l m o k (fun a b c d e f g h i j l m o => K (.exit 2) (f66s4 u0 a b c d e f g h i j l m o))) (f66t20 N u0 (K := seqK (fun σ => f66w19 N M σ K) K) ..) (fx14 fun a b c p d e f g h i j l m o => f66t19L N u0 K M a b c p d e f g h i j l m o) (by kernel_rfl)
theorem f66t19 N u0 a b c p d e f g h i j l m o (K : KT ρ) : f66i N (f66c 10391) f66p19 (f66s5 u0 a b c p d e f g h i j l m o) (joinK (some f66l4) K) =
  spec_dFrozen.Z19 N a b c p d e f g h i j l m o (fun a b c d e f g h i j l m o => K (.exit 2) (f66s4 u0 a b c d e f g h i j l m o)) :=
 viaLoopS (by kernel_rfl) (f66t19L N u0 (joinK (some f66l4) K) N a b c p d e f g h i j l m o) (by kernel_rfl)
def f66p18 : Plan := .mk (some f66l4) none f66p19 .n
theorem f66t18 N u0 a b c p d e f g h i j l m o (K : KT ρ) : f66i N (f66c 6295) f66p18 (f66s5 u0 a b c p d e f g h i j l m o) (joinK (some f66l4) K) =
  spec_dFrozen.Z18 N a b c p d e f g h i j l m o (fun a b c d e f g h i j l m o => K .nrm (f66s4 u0 a b c d e f g h i j l m o)) :=
 viaBlockS (by kernel_rfl) (f66t19 N u0 (K := blockK 2 (joinK (some f66l4) K)) ..) (by kernel_rfl)
def f66p16 : Plan := .mk (some f66l5) none .n f66p18
theorem f66t16 N u0 a b c d e f g h i j l m o (K : KT ρ) : f66i N (f66c 2199) f66p16 (f66s4 u0 a b c d e f g h i j l m o) (joinK (some f66l4) K) =
  spec_dFrozen.Z16 N a b c d e f g h i j l m o (fun a b c d e f g h i j l m o => K .nrm (f66s4 u0 a b c d e f g h i j l m o)) :=
 viaSeqS (fun k => spec_dFrozen.Z17 N a b c d e f g h i j l m o k) (by kernel_rfl) (f66t17 N u0 (K := seqK (fun σ => f66i N (f66c 6295) f66p18 σ (joinK (some f66l4) K)) (joinK (some f66l4) K)) ..) (fx14 fun a b c p d e f g h i j l m o => f66t18 N u0 a b c p d e f g h i j l m o K) (by kernel_rfl)
theorem f66t21 N u0 a b c d e f g h i j l m o (K : KT ρ) : f66i N (f66c 3223) .n (f66s4 u0 a b c d e f g h i j l m o) (joinK (some f66l4) K) =
 spec_dFrozen.Z21 N a b c d e f g h i j l m o (fun a b c d e f g h i j l m o => K .nrm (f66s4 u0 a b c d e f g h i j l m o)) := by kernel_rfl
def f66p15 : Plan := .mk (some f66l4) none f66p16 .n
theorem f66t15 N u0 a b c d e f g h i j l m o (K : KT ρ) : f66i N (f66c 1175) f66p15 (f66s4 u0 a b c d e f g h i j l m o) (joinK (some f66l4) K) =
  spec_dFrozen.Z15 N a b c d e f g h i j l m o (fun a b c d e f g h i j l m o => K .nrm (f66s4 u0 a b c d e f g h i j l m o)) :=
 viaSeqS (fun k => spec_dFrozen.Z16 N a b c d e f g h i j l m o k) (by kernel_rfl) (f66t16 N u0 (K := seqK (fun σ => f66i N (f66c 3223) .n σ (joinK (some f66l4) K)) (joinK (some f66l4) K)) ..) (fx13 fun a b c d e f g h i j l m o => f66t21 N u0 a b c d e f g h i j l m o K) (by kernel_rfl)
def f66p14 : Plan := .mk (some f66l4) none f66p15 .n
theorem f66t14 N u0 a b c d e f g h i j l m o (K : KT ρ) : f66i N (f66c 663) f66p14 (f66s4 u0 a b c d e f g h i j l m o) (joinK (some f66l4) K) =
  spec_dFrozen.Z14 N a b c d e f g h i j l m o (fun a b c d e f g h i j l m o => K .nrm (f66s4 u0 a b c d e f g h i j l m o)) :=
 viaBlockS (by kernel_rfl) (f66t15 N u0 (K := blockK 1 (joinK (some f66l4) K)) ..) (by kernel_rfl)
theorem f66t22 N u0 a b c d e f g h i j l m o (K : KT ρ) : f66i N (f66c 919) .n (f66s4 u0 a b c d e f g h i j l m o) (joinK (some f66l4) K) =
 spec_dFrozen.Z22 N a b c d e f g h i j l m o (fun a b c d e f g h i j l m o => K .nrm (f66s4 u0 a b c d e f g h i j l m o)) := by kernel_rfl
def f66p13 : Plan := .mk (some f66l4) none f66p14 .n
theorem f66t13 N u0 a b c d e f g h i j l m o (K : KT ρ) : f66i N (f66c 407) f66p13 (f66s4 u0 a b c d e f g h i j l m o) (joinK (some f66l4) K) =
  spec_dFrozen.Z13 N a b c d e f g h i j l m o (fun a b c d e f g h i j l m o => K .nrm (f66s4 u0 a b c d e f g h i j l m o)) :=
 viaSeqS (fun k => spec_dFrozen.Z14 N a b c d e f g h i j l m o k) (by kernel_rfl) (f66t14 N u0 (K := seqK (fun σ => f66i N (f66c 919) .n σ (joinK (some f66l4) K)) (joinK (some f66l4) K)) ..) (fx13 fun a b c d e f g h i j l m o => f66t22 N u0 a b c d e f g h i j l m o K) (by kernel_rfl)
def f66p11 : Plan := .mk (some f66l4) none .n f66p13
theorem f66t11 N u0 a i j b c d l m o e f g h (K : KT ρ) : f66i N (f66c 151) f66p11 (f66s4 u0 a i j b c d l m o e f g h) (joinK (some f66l4) K) =
  spec_dFrozen.Z11 N a i j b c d l m o e f g h (fun a i j b c d l m o e f g h => K .nrm (f66s4 u0 a i j b c d l m o e f g h)) (fun a e f g h b c d => K (.exit 0) (f66s6 u0 a e f g h b c d)) :=
 viaSeqS (fun k => spec_dFrozen.Z12 N a i j b c d l m o e f g h k (fun a e f g h b c d => K (.exit 0) (f66s6 u0 a e f g h b c d))) (by kernel_rfl) (f66t12 N u0 (K := seqK (fun σ => f66i N (f66c 407) f66p13 σ (joinK (some f66l4) K)) (joinK (some f66l4) K)) ..) (fx13 fun a i j b c d l m o e f g h => f66t13 N u0 a i j b c d l m o e f g h K) (by kernel_rfl)
def f66p10 : Plan := .mk none (some f66l4) f66p11 .n
abbrev f66w10 {ρ : Type} (N M : Nat) (σ : St) (K : KT ρ) : Option ρ := loopC (fun σ K => f66i N (f66c 151) f66p11 σ K) f66l4 M σ K
theorem f66t10L {ρ : Type} (N : Nat) (u0 : Value) (K : KT ρ) : ∀ (M : Nat) (a : LI) (i j : Int) (b : List Int) (c d l m : Int) (o : LI) (e f g h : Int), f66w10 N M (f66s4 u0 a i j b c d l m o e f g h) K =
 spec_dFrozen.Z10L N (fun a e f g h b c d => K (.exit 0) (f66s6 u0 a e f g h b c d)) M a i j b c d l m o e f g h
 | 0, _, _, _, _, _, _, _, _, _, _, _, _, _ => rfl
 | M + 1, a, i, j, b, c, d, l, m, o, e, f, g, h => viaRoundS (fun k => spec_dFrozen.Z11 N a i j b c d l m o e f g h k (fun a e f g h b c d => K (.exit 0) (f66s6 u0 a e f g h b c d))) (f66t11 N u0 (K := seqK (fun σ => f66w10 N M σ K) K) ..) (fx13 fun a i j b c d l m o e f g h => f66t10L N u0 K M a i j b c d l m o e f g h) (by kernel_rfl)
theorem f66t10 N u0 a i j b c d l m o e f g h (K : KT ρ) : f66i N (f66c 87) f66p10 (f66s4 u0 a i j b c d l m o e f g h) (joinK (some f66l6) K) =
  spec_dFrozen.Z10 N a i j b c d l m o e f g h (fun a e f g h b c d => K (.exit 0) (f66s6 u0 a e f g h b c d)) :=
 viaLoopS (by kernel_rfl) (f66t10L N u0 (joinK (some f66l6) K) N a i j b c d l m o e f g h) (by kernel_rfl)
def f66p9 : Plan := .mk (some f66l6) none f66p10 .n
theorem f66t9 N u0 a i j b c d l m o e f g h (K : KT ρ) : f66i N (f66c 55) f66p9 (f66s4 u0 a i j b c d l m o e f g h) (joinK (some f66l6) K) =
  spec_dFrozen.Z9 N a i j b c d l m o e f g h (fun a e f g h b c d => K .nrm (f66s6 u0 a e f g h b c d)) :=
 viaBlockS (by kernel_rfl) (f66t10 N u0 (K := blockK 0 (joinK (some f66l6) K)) ..) (by kernel_rfl)
def f66p7 : Plan := .mk (some f66l4) none .n f66p9
theorem f66t7 N u0 a i b c d j l m e f g h (K : KT ρ) : f66i N (f66c 23) f66p7 (f66s3 u0 a i b c d j l m e f g h) (joinK (some f66l6) K) =
  spec_dFrozen.Z7 N a i b c d j l m e f g h (fun a e f g h b c d => K .nrm (f66s6 u0 a e f g h b c d)) :=
 viaSeqS (fun k => spec_dFrozen.Z8 N a i b c d j l m e f g h k) (by kernel_rfl) (f66t8 N u0 (K := seqK (fun σ => f66i N (f66c 55) f66p9 σ (joinK (some f66l6) K)) (joinK (some f66l6) K)) ..) (fx13 fun a i o b c d j l m e f g h => f66t9 N u0 a i o b c d j l m e f g h K) (by kernel_rfl)
theorem f66t23 N u0 f a b g h c d e (K : KT ρ) : f66i N (f66c 31) .n (f66s6 u0 f a b g h c d e) (joinK (some f66lE) K) =
 spec_dFrozen.Z23 N f a b g h c d e (fun i a b c d e => K .ret (f66s7 u0 i a b c d e)) := by kernel_rfl
def f66p6 : Plan := .mk (some f66l6) none f66p7 .n
theorem f66t6 N u0 f i a b c j l m d e g h (K : KT ρ) : f66i N (f66c 15) f66p6 (f66s3 u0 f i a b c j l m d e g h) (joinK (some f66lE) K) =
  spec_dFrozen.Z6 N f i a b c j l m d e g h (fun o d e a b c => K .ret (f66s7 u0 o d e a b c)) :=
 viaSeqS (fun k => spec_dFrozen.Z7 N f i a b c j l m d e g h k) (by kernel_rfl) (f66t7 N u0 (K := seqK (fun σ => f66i N (f66c 31) .n σ (joinK (some f66lE) K)) (joinK (some f66lE) K)) ..) (fx8 fun f d e g h a b c => f66t23 N u0 f d e g h a b c K) (by kernel_rfl)
def f66p4 : Plan := .mk (some f66l3) none .n f66p6
theorem f66t4 N u0 f a b c g h i d e j l (K : KT ρ) : f66i N (f66c 7) f66p4 (f66s2 u0 f a b c g h i d e j l) (joinK (some f66lE) K) =
  spec_dFrozen.Z4 N f a b c g h i d e j l (fun m d e a b c => K .ret (f66s7 u0 m d e a b c)) :=
 viaSeqS (fun k => spec_dFrozen.Z5 N f a b c g h i d e j l k) (by kernel_rfl) (f66t5 N u0 (K := seqK (fun σ => f66i N (f66c 15) f66p6 σ (joinK (some f66lE) K)) (joinK (some f66lE) K)) ..) (fx12 fun f o a b c g h i d e j l => f66t6 N u0 f o a b c g h i d e j l K) (by kernel_rfl)
def f66p2 : Plan := .mk (some f66l2) none .n f66p4
theorem f66t2 N u0 a b c f g h d e (K : KT ρ) : f66i N (f66c 3) f66p2 (f66s1 u0 a b c f g h d e) (joinK (some f66lE) K) =
  spec_dFrozen.Z2 N a b c f g h d e (fun i d e a b c => K .ret (f66s7 u0 i d e a b c)) :=
 viaSeqS (fun k => spec_dFrozen.Z3 N a b c f g h d e k) (by kernel_rfl) (f66t3 N u0 (K := seqK (fun σ => f66i N (f66c 7) f66p4 σ (joinK (some f66lE) K)) (joinK (some f66lE) K)) ..) (fx11 fun j a b c f g h d e l m => f66t4 N u0 j a b c f g h d e l m K) (by kernel_rfl)
def f66p0 : Plan := .mk (some f66l1) none .n f66p2
theorem f66t0 N u0 b0 r0 a (K : KT ρ) : f66i N (f66c 1) f66p0 (f66s0 u0 b0 r0 a) (joinK (some f66lE) K) =
  spec_dFrozen.Z0 N b0 r0 a (fun g b c d e f => K .ret (f66s7 u0 g b c d e f)) :=
 viaSeqS (fun k => spec_dFrozen.Z1 N b0 r0 a k) (by kernel_rfl) (f66t1 N u0 (K := seqK (fun σ => f66i N (f66c 3) f66p2 σ (joinK (some f66lE) K)) (joinK (some f66lE) K)) ..) (fx8 fun d e f h i j b c => f66t2 N u0 d e f h i j b c K) (by kernel_rfl)
theorem f66m (N : Nat) (u0 : Value) (b0 : List Int) (r0 : Int × Int) (a : MT) : f66i N (f66c 1) f66p0 (f66s0 u0 b0 r0 a) (joinK (some f66lE) (finKV tab f66k f66ps true f66rs Try.f66.results.toList)) = spec_dFrozen.Z0 N b0 r0 a (fun b c d g e f => some ([u0], ((e, f), ((), ((c, (d, b)), ()))))) :=
 (f66t0 N u0 b0 r0 a (finKV tab f66k f66ps true f66rs Try.f66.results.toList)).trans (by kernel_rfl)
theorem f66ok (h : spec_dFrozen.Spec) : EntryVOk Try.prog 66 e66 :=
 entryV_of_code (k := f66k) (ps := f66ps) (rs := f66rs) (back := true) (c := (f66c 1)) (pl := f66p0) (je := (some f66lE)) (B := f66B) Try.func66 (by kernel_rfl) (by kernel_rfl) (by kernel_rfl) tabOk f66GOk (by kernel_rfl) (by kernel_rfl) (by kernel_rfl) fun lit X hl hb1 hb2 hp => by
  obtain ⟨⟨⟨b0, _⟩, r0⟩, a, _⟩ := X
  match lit, hl with
  | [u0], _ =>
   obtain ⟨N, h⟩ := h [u0] b0 r0 a hb1.1 hb2.1 hp
   exact ⟨N, (f66m N u0 b0 r0 a).trans (h N (Nat.le_refl N))⟩
theorem e66ok : EntryVOk Try.prog 66 e66 := f66ok spec_dFrozen.ok
end Go.Fw
namespace Go.Fw
variable {ρ : Type}
open Go.Proofs
def f26sig : Sig := ⟨[⟨.sl 5 (.int .u8), false, false⟩], [⟨.pair (.int .i64) (.pair (.int .i64) (.sl 3 (.int .i64))), true, false⟩, ⟨.sl 3 (.int .i64), false, false⟩, ⟨.int .i64, false, false⟩]⟩
def e26 : Entry := ⟨f26sig, none, fun X => ((), ((spec_DrawOrder.g X.1).1, ((spec_DrawOrder.g X.1).2.1, ((spec_DrawOrder.g X.1).2.2, ()))))⟩
def f26G : Gm := addV (addV (addV (addV (addN emptyG 65 e65) 66 e66) 67 e67) 68 e68) 69 e69
theorem f26GOk : GOk Try.prog f26G := (((((GOk.nil).addN e65ok).addV e66ok (by kernel_rfl)).addV e67ok (by kernel_rfl)).addV e68ok (by kernel_rfl)).addV e69ok (by kernel_rfl)
def f26lE : Clean := ⟨[], [], [], [], []⟩
def f26s0 (a : List Int) : St := initSt f26sig.ps (a, ())
def f26s1 (a b : LI) (c d e : Int) : St := stOf [(2, xb 2), (3, xo 1000192), (4, xi c)] [(2, (30, [yi d, yi e, .own 20000130]))] [(1000192, (⟨3, .int .i64, a, true, false⟩ : Row)), (20000130, (⟨3, .int .i64, b, true, false⟩ : Row))]
def f26l1 : Clean := ⟨[2, 3, 4], [2], [], [], [(⟨false, 3, 0⟩, 1000192), (⟨true, 2, 2⟩, 20000130)]⟩
def f26B : Nat → Option Clean := lookL [(1000000, f26l1)]
abbrev f26i {ρ : Type} (N : Nat) (c : Code) (p : Plan) (σ : St) (K : KT ρ) : Option ρ := iCode f26G tab f26B N c p σ K
def f26c (n : Nat) : Code := codeN 99 (bodyOf Try.f26) n
theorem f26t0 N a (K : KT ρ) : f26i N (f26c 1) .n (f26s0 a) (joinK (some f26lE) K) =
 spec_DrawOrder.Z0 N a (fun b c d e f => K .ret (f26s1 b c d e f)) := by kernel_rfl
theorem f26m (N : Nat) (a : List Int) : f26i N (f26c 1) .n (f26s0 a) (joinK (some f26lE) (finK tab f26sig Try.f26.results.toList)) = spec_DrawOrder.Z0 N a (fun b c d e f => some ((), ((e, (f, c)), (b, (d, ()))))) :=
 (f26t0 N a (finK tab f26sig Try.f26.results.toList)).trans (by kernel_rfl)
theorem f26ok (h : spec_DrawOrder.Spec) : EntryOk Try.prog 26 e26 :=
 entry_of_code (sig := f26sig) (c := (f26c 1)) (pl := .n) (je := (some f26lE)) (B := f26B) Try.func26 (by kernel_rfl) (by kernel_rfl) (by kernel_rfl) tabOk f26GOk (by kernel_rfl) (by kernel_rfl) (by kernel_rfl) (by kernel_rfl) fun X hb hp => by
  obtain ⟨a, _⟩ := X
  obtain ⟨N, h⟩ := h a hb.1
  exact ⟨N, (f26m N a).trans (h N (Nat.le_refl N))⟩
theorem e26ok : EntryOk Try.prog 26 e26 := f26ok spec_DrawOrder.ok
end Go.Fw
namespace Go.Fw
variable {ρ : Type}
open Go.Proofs
def f70sig : Sig := ⟨[⟨.int .i64, false, false⟩, ⟨.int .i64, false, false⟩, ⟨.int .i64, false, false⟩], [⟨.bool, false, false⟩]⟩
def e70 : Entry := ⟨f70sig, none, fun X => ((), ((impl_within.g X.1 X.2.1 X.2.2.1), ()))⟩
def f70G : Gm := emptyG
theorem f70GOk : GOk Try.prog f70G := GOk.nil
def f70lE : Clean := ⟨[], [], [], [], []⟩
def f70s0 (a b c : Int) : St := initSt f70sig.ps (a, (b, (c, ())))
def f70s1 (a : Bool) : St := stOf [(6, xB a)] [] []
def f70l1 : Clean := ⟨[6], [], [], [], []⟩
def f70B : Nat → Option Clean := lookL [(1000000, f70l1)]
abbrev f70i {ρ : Type} (N : Nat) (c : Code) (p : Plan) (σ : St) (K : KT ρ) : Option ρ := iCode f70G tab f70B N c p σ K
def f70c (n : Nat) : Code := codeN 99 (bodyOf Try.f70) n
theorem f70t0 N a b c (K : KT ρ) : f70i N (f70c 1) .n (f70s0 a b c) (joinK (some f70lE) K) =
 impl_within.Z0 N a b c (fun d => K .ret (f70s1 d)) := by kernel_rfl
theorem f70m (N : Nat) (a b c : Int) : f70i N (f70c 1) .n (f70s0 a b c) (joinK (some f70lE) (finK tab f70sig Try.f70.results.toList)) = impl_within.Z0 N a b c (fun d => some ((), (d, ()))) :=
 (f70t0 N a b c (finK tab f70sig Try.f70.results.toList)).trans (by kernel_rfl)
theorem f70ok (h : impl_within.Spec) : EntryOk Try.prog 70 e70 :=
 entry_of_code (sig := f70sig) (c := (f70c 1)) (pl := .n) (je := (some f70lE)) (B := f70B) Try.func70 (by kernel_rfl) (by kernel_rfl) (by kernel_rfl) tabOk f70GOk (by kernel_rfl) (by kernel_rfl) (by kernel_rfl) (by kernel_rfl) fun X hb hp => by
  obtain ⟨a, b, d, _⟩ := X
  obtain ⟨N, h⟩ := h a b d
  exact ⟨N, (f70m N a b d).trans (h N (Nat.le_refl N))⟩
theorem e70ok : EntryOk Try.prog 70 e70 := f70ok impl_within.ok
end Go.Fw
namespace Go.Fw
variable {ρ : Type}
open Go.Proofs
def f109sig : Sig := ⟨[⟨.int .i64, false, false⟩], [⟨.bool, false, false⟩]⟩
def e109 : Entry := ⟨f109sig, none, fun X => ((), ((impl_shaped_1.g X.1), ()))⟩
def f109G : Gm := addG emptyG 70 e70
theorem f109GOk : GOk Try.prog f109G := (GOk.nil).add e70ok (by kernel_rfl)
def f109lE : Clean := ⟨[], [], [], [], []⟩
def f109s0 (a : Int) : St := initSt f109sig.ps (a, ())
def f109s1 (a : Bool) : St := stOf [(2, xB a)] [] []
def f109l1 : Clean := ⟨[2], [], [], [], []⟩
def f109B : Nat → Option Clean := lookL [(1000000, f109l1)]
abbrev f109i {ρ : Type} (N : Nat) (c : Code) (p : Plan) (σ : St) (K : KT ρ) : Option ρ := iCode f109G tab f109B N c p σ K
def f109c (n : Nat) : Code := codeN 99 (bodyOf Try.f109) n
theorem f109t0 N a (K : KT ρ) : f109i N (f109c 1) .n (f109s0 a) (joinK (some f109lE) K) =
 impl_shaped_1.Z0 N a (fun b => K .ret (f109s1 b)) := by kernel_rfl
theorem f109m (N : Nat) (a : Int) : f109i N (f109c 1) .n (f109s0 a) (joinK (some f109lE) (finK tab f109sig Try.f109.results.toList)) = impl_shaped_1.Z0 N a (fun b => some ((), (b, ()))) :=
 (f109t0 N a (finK tab f109sig Try.f109.results.toList)).trans (by kernel_rfl)
theorem f109ok (h : impl_shaped_1.Spec) : EntryOk Try.prog 109 e109 :=
 entry_of_code (sig := f109sig) (c := (f109c 1)) (pl := .n) (je := (some f109lE)) (B := f109B) Try.func109 (by kernel_rfl) (by kernel_rfl) (by kernel_rfl) tabOk f109GOk (by kernel_rfl) (by kernel_rfl) (by kernel_rfl) (by kernel_rfl) fun X hb hp => by
  obtain ⟨a, _⟩ := X
  obtain ⟨N, h⟩ := h a
  exact ⟨N, (f109m N a).trans (h N (Nat.le_refl N))⟩
theorem e109ok : EntryOk Try.prog 109 e109 := f109ok impl_shaped_1.ok
end Go.Fw
namespace Go.Fw
variable {ρ : Type}
open Go.Proofs
def f128bsig : Sig := ⟨[⟨.sl 3 (.int .i64), false, false⟩, ⟨.fnc 109, false, false⟩], [⟨.int .i64, false, false⟩]⟩
def e128b : Entry := ⟨f128bsig, none, fun X => ((), ((slices_IndexFunc_int_int_shaped.g X.1 X.2.1), ()))⟩
def f128bG : Gm := addG emptyG 109 e109
theorem f128bGOk : GOk Try.prog f128bG := (GOk.nil).add e109ok (by kernel_rfl)
def f128blE : Clean := ⟨[], [], [], [], []⟩
def f128bs0 (a : LI) (b : Unit) : St := initSt f128bsig.ps (a, (b, ()))
def f128bs1 (a : LI) : St := stOf [(0, .c (.sn 3 tI a none)), (1, .c (.fn 109 []))] [] []
def f128bl1 : Clean := ⟨[0, 1], [], [], [], []⟩
def f128bs2 (a : LI) (b d : Int) : St := stOf [(0, .c (.sn 3 tI a none)), (1, .c (.fn 109 [])), (7, xi b), (8, xi d)] [] []
def f128bl2 : Clean := ⟨[0, 1, 7, 8], [], [], [], []⟩
def f128bs3  : St := stOf [] [] []
def f128bl3 : Clean := ⟨[], [], [], [], []⟩
def f128bs4 (a : Int) : St := stOf [(4, xi a)] [] []
def f128bl4 : Clean := ⟨[4], [], [], [], []⟩
def f128bB : Nat → Option Clean := lookL [(0, f128bl3), (1000000, f128bl4)]
abbrev f128bi {ρ : Type} (N : Nat) (c : Code) (p : Plan) (σ : St) (K : KT ρ) : Option ρ := iCode f128bG tab f128bB N c p σ K
def f128bc (n : Nat) : Code := codeN 99 (bodyOf Try.f128) n
theorem f128bt1 N a b (K : KT ρ) : f128bi N (f128bc 2) .n (f128bs0 a b) (joinK (some f128bl1) K) =
 slices_IndexFunc_int_int_shaped.Z1 N a b (fun a => K .nrm (f128bs1 a)) := by kernel_rfl
theorem f128bt4 N a (K : KT ρ) : f128bi N (f128bc 9) .n (f128bs1 a) (joinK (some f128bl2) K) =
 slices_IndexFunc_int_int_shaped.Z4 N a (fun a b c => K .nrm (f128bs2 a b c)) := by kernel_rfl
theorem f128bt7 N a b c (K : KT ρ) : f128bi N (f128bc 37) .n (f128bs2 a b c) (joinK (some f128bl2) K) =
 slices_IndexFunc_int_int_shaped.Z7 N a b c (fun a b c => K .nrm (f128bs2 a b c)) (K (.exit 0) f128bs3) (fun d => K .ret (f128bs4 d)) := by kernel_rfl
def f128bp6 : Plan := .mk none (some f128bl2) .n .n
abbrev f128bw6 {ρ : Type} (N M : Nat) (σ : St) (K : KT ρ) : Option ρ := loopC (fun σ K => f128bi N (f128bc 37) .n σ K) f128bl2 M σ K
theorem f128bt6L {ρ : Type} (N : Nat) (K : KT ρ) : ∀ (M : Nat) (a : LI) (b c : Int), f128bw6 N M (f128bs2 a b c) K =
 slices_IndexFunc_int_int_shaped.Z6L N (K (.exit 0) f128bs3) (fun d => K .ret (f128bs4 d)) M a b c
 | 0, _, _, _ => rfl
 | M + 1, a, b, c => viaRoundS (fun k => slices_IndexFunc_int_int_shaped.Z7 N a b c k (K (.exit 0) f128bs3) (fun d => K .ret (f128bs4 d))) (f128bt7 N (K := seqK (fun σ => f128bw6 N M σ K) K) ..) (fx3 fun a b c => f128bt6L N K M a b c) (by kernel_rfl)
theorem f128bt6 N a b c (K : KT ρ) : f128bi N (f128bc 21) f128bp6 (f128bs2 a b c) (joinK (some f128bl3) K) =
  slices_IndexFunc_int_int_shaped.Z6 N a b c (K (.exit 0) f128bs3) (fun d => K .ret (f128bs4 d)) :=
 viaLoopS (by kernel_rfl) (f128bt6L N (joinK (some f128bl3) K) N a b c) (by kernel_rfl)
def f128bp5 : Plan := .mk (some f128bl3) none f128bp6 .n
theorem f128bt5 N a b c (K : KT ρ) : f128bi N (f128bc 13) f128bp5 (f128bs2 a b c) (joinK (some f128bl3) K) =
  slices_IndexFunc_int_int_shaped.Z5 N a b c (K .nrm f128bs3) (fun d => K .ret (f128bs4 d)) :=
 viaBlockS (by kernel_rfl) (f128bt6 N (K := blockK 0 (joinK (some f128bl3) K)) ..) (by kernel_rfl)
def f128bp3 : Plan := .mk (some f128bl2) none .n f128bp5
theorem f128bt3 N a (K : KT ρ) : f128bi N (f128bc 5) f128bp3 (f128bs1 a) (joinK (some f128bl3) K) =
  slices_IndexFunc_int_int_shaped.Z3 N a (K .nrm f128bs3) (fun b => K .ret (f128bs4 b)) :=
 viaSeqS (fun k => slices_IndexFunc_int_int_shaped.Z4 N a k) (by kernel_rfl) (f128bt4 N (K := seqK (fun σ => f128bi N (f128bc 13) f128bp5 σ (joinK (some f128bl3) K)) (joinK (some f128bl3) K)) ..) (fx3 fun a c d => f128bt5 N a c d K) (by kernel_rfl)
theorem f128bt8 N  (K : KT ρ) : f128bi N (f128bc 7) .n f128bs3 (joinK (some f128blE) K) =
 slices_IndexFunc_int_int_shaped.Z8 N (fun a => K .ret (f128bs4 a)) := by kernel_rfl
def f128bp2 : Plan := .mk (some f128bl3) none f128bp3 .n
theorem f128bt2 N a (K : KT ρ) : f128bi N (f128bc 3) f128bp2 (f128bs1 a) (joinK (some f128blE) K) =
  slices_IndexFunc_int_int_shaped.Z2 N a (fun b => K .ret (f128bs4 b)) :=
 viaSeqS (fun k => slices_IndexFunc_int_int_shaped.Z3 N a k (fun b => K .ret (f128bs4 b))) (by kernel_rfl) (f128bt3 N (K := seqK (fun σ => f128bi N (f128bc 7) .n σ (joinK (some f128blE) K)) (joinK (some f128blE) K)) ..) (f128bt8 N K) (by kernel_rfl)
def f128bp0 : Plan := .mk (some f128bl1) none .n f128bp2
theorem f128bt0 N a b (K : KT ρ) : f128bi N (f128bc 1) f128bp0 (f128bs0 a b) (joinK (some f128blE) K) =
  slices_IndexFunc_int_int_shaped.Z0 N a b (fun c => K .ret (f128bs4 c)) :=
 viaSeqS (fun k => slices_IndexFunc_int_int_shaped.Z1 N a b k) (by kernel_rfl) (f128bt1 N (K := seqK (fun σ => f128bi N (f128bc 3) f128bp2 σ (joinK (some f128blE) K)) (joinK (some f128blE) K)) ..) (funext fun a => f128bt2 N a K) (by kernel_rfl)
theorem f128bm (N : Nat) (a : LI) (b : Unit) : f128bi N (f128bc 1) f128bp0 (f128bs0 a b) (joinK (some f128blE) (finK tab f128bsig Try.f128.results.toList)) = slices_IndexFunc_int_int_shaped.Z0 N a b (fun c => some ((), (c, ()))) :=
 (f128bt0 N a b (finK tab f128bsig Try.f128.results.toList)).trans (by kernel_rfl)
theorem f128bok (h : slices_IndexFunc_int_int_shaped.Spec) : EntryOk Try.prog 128 e128b :=
 entry_of_code (sig := f128bsig) (c := (f128bc 1)) (pl := f128bp0) (je := (some f128blE)) (B := f128bB) Try.func128 (by kernel_rfl) (by kernel_rfl) (by kernel_rfl) tabOk f128bGOk (by kernel_rfl) (by kernel_rfl) (by kernel_rfl) (by kernel_rfl) fun X hb hp => by
  obtain ⟨a, b, _⟩ := X
  obtain ⟨N, h⟩ := h a b hb.1
  exact ⟨N, (f128bm N a b).trans (h N (Nat.le_refl N))⟩
theorem e128bok : EntryOk Try.prog 128 e128b := f128bok slices_IndexFunc_int_int_shaped.ok
end Go.Fw
namespace Go.Fw
variable {ρ : Type}
open Go.Proofs
def f108bsig : Sig := ⟨[⟨.sl 3 (.int .i64), false, false⟩, ⟨.fnc 109, false, false⟩], [⟨.bool, false, false⟩]⟩
def e108b : Entry := ⟨f108bsig, none, fun X => ((), ((slices_ContainsFunc_int_int_shaped.g X.1 X.2.1), ()))⟩
def f108bG : Gm := addG emptyG 128 e128b
theorem f108bGOk : GOk Try.prog f108bG := (GOk.nil).add e128bok (by kernel_rfl)
def f108blE : Clean := ⟨[], [], [], [], []⟩
def f108bs0 (a : LI) (b : Unit) : St := initSt f108bsig.ps (a, (b, ()))
def f108bs1 (a : Bool) : St := stOf [(4, xB a)] [] []
def f108bl1 : Clean := ⟨[4], [], [], [], []⟩
def f108bB : Nat → Option Clean := lookL [(1000000, f108bl1)]
abbrev f108bi {ρ : Type} (N : Nat) (c : Code) (p : Plan) (σ : St) (K : KT ρ) : Option ρ := iCode f108bG tab f108bB N c p σ K
def f108bc (n : Nat) : Code := codeN 99 (bodyOf Try.f108) n
theorem f108bt0 N a b (K : KT ρ) : f108bi N (f108bc 1) .n (f108bs0 a b) (joinK (some f108blE) K) =
 slices_ContainsFunc_int_int_shaped.Z0 N a b (fun c => K .ret (f108bs1 c)) := by kernel_rfl
theorem f108bm (N : Nat) (a : LI) (b : Unit) : f108bi N (f108bc 1) .n (f108bs0 a b) (joinK (some f108blE) (finK tab f108bsig Try.f108.results.toList)) = slices_ContainsFunc_int_int_shaped.Z0 N a b (fun c => some ((), (c, ()))) :=
 (f108bt0 N a b (finK tab f108bsig Try.f108.results.toList)).trans (by kernel_rfl)
theorem f108bok (h : slices_ContainsFunc_int_int_shaped.Spec) : EntryOk Try.prog 108 e108b :=
 entry_of_code (sig := f108bsig) (c := (f108bc 1)) (pl := .n) (je := (some f108blE)) (B := f108bB) Try.func108 (by kernel_rfl) (by kernel_rfl) (by kernel_rfl) tabOk f108bGOk (by kernel_rfl) (by kernel_rfl) (by kernel_rfl) (by kernel_rfl) fun X hb hp => by
  obtain ⟨a, b, _⟩ := X
  obtain ⟨N, h⟩ := h a b hb.1
  exact ⟨N, (f108bm N a b).trans (h N (Nat.le_refl N))⟩
theorem e108bok : EntryOk Try.prog 108 e108b := f108bok slices_ContainsFunc_int_int_shaped.ok
end Go.Fw
namespace Go.Fw
variable {ρ : Type}
open Go.Proofs
def f75sig : Sig := ⟨[⟨.pair (.int .i64) (.pair (.int .i64) (.sl 3 (.int .i64))), true, false⟩], [⟨.bool, false, false⟩]⟩
def e75 : Entry := ⟨f75sig, none, fun X => ((), ((impl_shaped.g X.1), ()))⟩
def f75G : Gm := addG (addG emptyG 70 e70) 108 e108b
theorem f75GOk : GOk Try.prog f75G := ((GOk.nil).add e70ok (by kernel_rfl)).add e108bok (by kernel_rfl)
def f75lE : Clean := ⟨[], [], [], [], []⟩
def f75s0 (a : MT) : St := initSt f75sig.ps (a, ())
def f75s1 (a : Bool) : St := stOf [(2, xB a)] [] []
def f75l1 : Clean := ⟨[2], [], [], [], []⟩
def f75B : Nat → Option Clean := lookL [(1000000, f75l1)]
abbrev f75i {ρ : Type} (N : Nat) (c : Code) (p : Plan) (σ : St) (K : KT ρ) : Option ρ := iCode f75G tab f75B N c p σ K
def f75c (n : Nat) : Code := codeN 99 (bodyOf Try.f75) n
theorem f75t0 N a (K : KT ρ) : f75i N (f75c 1) .n (f75s0 a) (joinK (some f75lE) K) =
 impl_shaped.Z0 N a (fun b => K .ret (f75s1 b)) := by kernel_rfl
theorem f75m (N : Nat) (a : MT) : f75i N (f75c 1) .n (f75s0 a) (joinK (some f75lE) (finK tab f75sig Try.f75.results.toList)) = impl_shaped.Z0 N a (fun b => some ((), (b, ()))) :=
 (f75t0 N a (finK tab f75sig Try.f75.results.toList)).trans (by kernel_rfl)
theorem f75ok (h : impl_shaped.Spec) : EntryOk Try.prog 75 e75 :=
 entry_of_code (sig := f75sig) (c := (f75c 1)) (pl := .n) (je := (some f75lE)) (B := f75B) Try.func75 (by kernel_rfl) (by kernel_rfl) (by kernel_rfl) tabOk f75GOk (by kernel_rfl) (by kernel_rfl) (by kernel_rfl) (by kernel_rfl) fun X hb hp => by
  obtain ⟨a, _⟩ := X
  obtain ⟨N, h⟩ := h a hb.1
  exact ⟨N, (f75m N a).trans (h N (Nat.le_refl N))⟩
theorem e75ok : EntryOk Try.prog 75 e75 := f75ok impl_shaped.ok
end Go.Fw
namespace Go.Fw
variable {ρ : Type}
open Go.Proofs
def f83sig : Sig := ⟨[⟨.pair (.int .i64) (.pair (.int .i64) (.sl 3 (.int .i64))), true, false⟩, ⟨.int .i64, false, false⟩, ⟨.int .i64, false, false⟩], [⟨.int .i64, false, false⟩]⟩
def e83 : Entry := ⟨f83sig, (some fun X => impl_Matrix_at.P X.1 X.2.1 X.2.2.1), fun X => ((), ((impl_Matrix_at.g X.1 X.2.1 X.2.2.1), ()))⟩
def f83G : Gm := emptyG
theorem f83GOk : GOk Try.prog f83G := GOk.nil
def f83lE : Clean := ⟨[], [], [], [], []⟩
def f83s0 (a : MT) (b c : Int) : St := initSt f83sig.ps (a, (b, (c, ())))
def f83s1 (a : Int) : St := stOf [(6, xi a)] [] []
def f83l1 : Clean := ⟨[6], [], [], [], []⟩
def f83B : Nat → Option Clean := lookL [(1000000, f83l1)]
abbrev f83i {ρ : Type} (N : Nat) (c : Code) (p : Plan) (σ : St) (K : KT ρ) : Option ρ := iCode f83G tab f83B N c p σ K
def f83c (n : Nat) : Code := codeN 99 (bodyOf Try.f83) n
theorem f83t0 N a b c (K : KT ρ) : f83i N (f83c 1) .n (f83s0 a b c) (joinK (some f83lE) K) =
 impl_Matrix_at.Z0 N a b c (fun d => K .ret (f83s1 d)) := by kernel_rfl
theorem f83m (N : Nat) (a : MT) (b c : Int) : f83i N (f83c 1) .n (f83s0 a b c) (joinK (some f83lE) (finK tab f83sig Try.f83.results.toList)) = impl_Matrix_at.Z0 N a b c (fun d => some ((), (d, ()))) :=
 (f83t0 N a b c (finK tab f83sig Try.f83.results.toList)).trans (by kernel_rfl)
theorem f83ok (h : impl_Matrix_at.Spec) : EntryOk Try.prog 83 e83 :=
 entry_of_code (sig := f83sig) (c := (f83c 1)) (pl := .n) (je := (some f83lE)) (B := f83B) Try.func83 (by kernel_rfl) (by kernel_rfl) (by kernel_rfl) tabOk f83GOk (by kernel_rfl) (by kernel_rfl) (by kernel_rfl) (by kernel_rfl) fun X hb hp => by
  obtain ⟨a, b, d, _⟩ := X
  obtain ⟨N, h⟩ := h a b d hb.1 hp
  exact ⟨N, (f83m N a b d).trans (h N (Nat.le_refl N))⟩
theorem e83ok : EntryOk Try.prog 83 e83 := f83ok impl_Matrix_at.ok
end Go.Fw
namespace Go.Fw
variable {ρ : Type}
open Go.Proofs
def f110sig : Sig := ⟨[⟨.int .i64, false, false⟩, ⟨.int .i64, false, false⟩], [⟨.int .i64, false, false⟩]⟩
def e110 : Entry := ⟨f110sig, (some fun X => impl_gcd.P X.1 X.2.1), fun X => ((), ((impl_gcd.g X.1 X.2.1), ()))⟩
def f110G : Gm := emptyG
theorem f110GOk : GOk Try.prog f110G := GOk.nil
def f110lE : Clean := ⟨[], [], [], [], []⟩
def f110s0 (a b : Int) : St := initSt f110sig.ps (a, (b, ()))
def f110s1 (a b : Int) : St := stOf [(0, xi a), (1, xi b)] [] []
def f110l1 : Clean := ⟨[0, 1], [], [], [], []⟩
def f110s2 (a : Int) : St := stOf [(0, xi a)] [] []
def f110l2 : Clean := ⟨[0], [], [], [], []⟩
def f110s3 (a : Int) : St := stOf [(4, xi a)] [] []
def f110l3 : Clean := ⟨[4], [], [], [], []⟩
def f110B : Nat → Option Clean := lookL [(0, f110l2), (1000000, f110l3)]
abbrev f110i {ρ : Type} (N : Nat) (c : Code) (p : Plan) (σ : St) (K : KT ρ) : Option ρ := iCode f110G tab f110B N c p σ K
def f110c (n : Nat) : Code := codeN 99 (bodyOf Try.f110) n
theorem f110t1 N a b (K : KT ρ) : f110i N (f110c 2) .n (f110s0 a b) (joinK (some f110l1) K) =
 impl_gcd.Z1 N a b (fun a b => K .nrm (f110s1 a b)) := by kernel_rfl
theorem f110t5 N a b (K : KT ρ) : f110i N (f110c 17) .n (f110s1 a b) (joinK (some f110l1) K) =
 impl_gcd.Z5 N a b (fun a b => K .nrm (f110s1 a b)) (fun a => K (.exit 0) (f110s2 a)) := by kernel_rfl
def f110p4 : Plan := .mk none (some f110l1) .n .n
abbrev f110w4 {ρ : Type} (N M : Nat) (σ : St) (K : KT ρ) : Option ρ := loopC (fun σ K => f110i N (f110c 17) .n σ K) f110l1 M σ K
theorem f110t4L {ρ : Type} (N : Nat) (K : KT ρ) : ∀ (M : Nat) (a b : Int), f110w4 N M (f110s1 a b) K =
 impl_gcd.Z4L N (fun a => K (.exit 0) (f110s2 a)) M a b
 | 0, _, _ => rfl
 | M + 1, a, b => viaRoundS (fun k => impl_gcd.Z5 N a b k (fun a => K (.exit 0) (f110s2 a))) (f110t5 N (K := seqK (fun σ => f110w4 N M σ K) K) ..) (fx2 fun a b => f110t4L N K M a b) (by kernel_rfl)
theorem f110t4 N a b (K : KT ρ) : f110i N (f110c 9) f110p4 (f110s1 a b) (joinK (some f110l2) K) =
  impl_gcd.Z4 N a b (fun a => K (.exit 0) (f110s2 a)) :=
 viaLoopS (by kernel_rfl) (f110t4L N (joinK (some f110l2) K) N a b) (by kernel_rfl)
def f110p3 : Plan := .mk (some f110l2) none f110p4 .n
theorem f110t3 N a b (K : KT ρ) : f110i N (f110c 5) f110p3 (f110s1 a b) (joinK (some f110l2) K) =
  impl_gcd.Z3 N a b (fun a => K .nrm (f110s2 a)) :=
 viaBlockS (by kernel_rfl) (f110t4 N (K := blockK 0 (joinK (some f110l2) K)) ..) (by kernel_rfl)
theorem f110t6 N a (K : KT ρ) : f110i N (f110c 7) .n (f110s2 a) (joinK (some f110lE) K) =
 impl_gcd.Z6 N a (fun b => K .ret (f110s3 b)) := by kernel_rfl
def f110p2 : Plan := .mk (some f110l2) none f110p3 .n
theorem f110t2 N a b (K : KT ρ) : f110i N (f110c 3) f110p2 (f110s1 a b) (joinK (some f110lE) K) =
  impl_gcd.Z2 N a b (fun c => K .ret (f110s3 c)) :=
 viaSeqS (fun k => impl_gcd.Z3 N a b k) (by kernel_rfl) (f110t3 N (K := seqK (fun σ => f110i N (f110c 7) .n σ (joinK (some f110lE) K)) (joinK (some f110lE) K)) ..) (funext fun a => f110t6 N a K) (by kernel_rfl)
def f110p0 : Plan := .mk (some f110l1) none .n f110p2
theorem f110t0 N a b (K : KT ρ) : f110i N (f110c 1) f110p0 (f110s0 a b) (joinK (some f110lE) K) =
  impl_gcd.Z0 N a b (fun c => K .ret (f110s3 c)) :=
 viaSeqS (fun k => impl_gcd.Z1 N a b k) (by kernel_rfl) (f110t1 N (K := seqK (fun σ => f110i N (f110c 3) f110p2 σ (joinK (some f110lE) K)) (joinK (some f110lE) K)) ..) (fx2 fun a b => f110t2 N a b K) (by kernel_rfl)
theorem f110m (N : Nat) (a b : Int) : f110i N (f110c 1) f110p0 (f110s0 a b) (joinK (some f110lE) (finK tab f110sig Try.f110.results.toList)) = impl_gcd.Z0 N a b (fun c => some ((), (c, ()))) :=
 (f110t0 N a b (finK tab f110sig Try.f110.results.toList)).trans (by kernel_rfl)
theorem f110ok (h : impl_gcd.Spec) : EntryOk Try.prog 110 e110 :=
 entry_of_code (sig := f110sig) (c := (f110c 1)) (pl := f110p0) (je := (some f110lE)) (B := f110B) Try.func110 (by kernel_rfl) (by kernel_rfl) (by kernel_rfl) tabOk f110GOk (by kernel_rfl) (by kernel_rfl) (by kernel_rfl) (by kernel_rfl) fun X hb hp => by
  obtain ⟨a, b, _⟩ := X
  obtain ⟨N, h⟩ := h a b hp
  exact ⟨N, (f110m N a b).trans (h N (Nat.le_refl N))⟩
theorem e110ok : EntryOk Try.prog 110 e110 := f110ok impl_gcd.ok
end Go.Fw
namespace Go.Fw
variable {ρ : Type}
open Go.Proofs
def f76sig : Sig := ⟨[⟨.pair (.int .i64) (.pair (.int .i64) (.sl 3 (.int .i64))), true, false⟩], [⟨.sl 3 (.int .i64), false, true⟩]⟩
def e76 : Entry := ⟨f76sig, (some fun X => impl_factors.P X.1), fun X => ((), ((impl_factors.g X.1), ()))⟩
def f76G : Gm := addG (addG emptyG 83 e83) 110 e110
theorem f76GOk : GOk Try.prog f76G := ((GOk.nil).add e83ok (by kernel_rfl)).add e110ok (by kernel_rfl)
def f76lE : Clean := ⟨[], [], [], [], []⟩
def f76s0 (a : MT) : St := initSt f76sig.ps (a, ())
def f76s1 (a b : Int) (c : LI) : St := stOf [(1, xb 1)] [(1, (30, [yi a, yi b, .sn 3 tI c none]))] []
def f76l1 : Clean := ⟨[1], [1], [], [], []⟩
def f76s2 (a b : LI) (c d : Int) (e : LI) : St := stOf [(1, xb 1), (3, xo 1000192), (4, xo 1000256)] [(1, (30, [yi c, yi d, .sn 3 tI e none]))] [(1000192, (⟨3, .int .i64, a, true, false⟩ : Row)), (1000256, (⟨3, .int .i64, b, true, false⟩ : Row))]
def f76l2 : Clean := ⟨[1, 3, 4], [1], [], [], [(⟨false, 3, 0⟩, 1000192), (⟨false, 4, 0⟩, 1000256)]⟩
def f76s3 (a b c : LI) (d e : Int) (f : LI) : St := stOf [(1, xb 1), (3, xo 1000192), (4, xo 1000256), (5, xo 1000320)] [(1, (30, [yi d, yi e, .sn 3 tI f none]))] [(1000192, (⟨3, .int .i64, a, true, false⟩ : Row)), (1000256, (⟨3, .int .i64, b, true, false⟩ : Row)), (1000320, (⟨3, .int .i64, c, true, false⟩ : Row))]
def f76l3 : Clean := ⟨[1, 3, 4, 5], [1], [], [], [(⟨false, 3, 0⟩, 1000192), (⟨false, 4, 0⟩, 1000256), (⟨false, 5, 0⟩, 1000320)]⟩
def f76s4 (a b c : LI) (d e f g : Int) (h : LI) : St := stOf [(1, xb 1), (3, xo 1000192), (4, xo 1000256), (5, xo 1000320), (34, xi d), (35, xi e)] [(1, (30, [yi f, yi g, .sn 3 tI h none]))] [(1000192, (⟨3, .int .i64, a, true, false⟩ : Row)), (1000256, (⟨3, .int .i64, b, true, false⟩ : Row)), (1000320, (⟨3, .int .i64, c, true, false⟩ : Row))]
def f76l4 : Clean := ⟨[1, 3, 4, 5, 34, 35], [1], [], [], [(⟨false, 3, 0⟩, 1000192), (⟨false, 4, 0⟩, 1000256), (⟨false, 5, 0⟩, 1000320)]⟩
def f76s5 (a b c : LI) (d e : Int) (f : Bool) (g h : Int) (i : LI) : St := stOf [(1, xb 1), (3, xo 1000192), (4, xo 1000256), (5, xo 1000320), (34, xi d), (35, xi e), (36, xB f)] [(1, (30, [yi g, yi h, .sn 3 tI i none]))] [(1000192, (⟨3, .int .i64, a, true, false⟩ : Row)), (1000256, (⟨3, .int .i64, b, true, false⟩ : Row)), (1000320, (⟨3, .int .i64, c, true, false⟩ : Row))]
def f76l5 : Clean := ⟨[1, 3, 4, 5, 34, 35, 36], [1], [], [], [(⟨false, 3, 0⟩, 1000192), (⟨false, 4, 0⟩, 1000256), (⟨false, 5, 0⟩, 1000320)]⟩
def f76s6 (a b c : LI) (d e f g h : Int) (i : LI) : St := stOf [(1, xb 1), (3, xo 1000192), (4, xo 1000256), (5, xo 1000320), (6, xi d), (34, xi e), (35, xi f)] [(1, (30, [yi g, yi h, .sn 3 tI i none]))] [(1000192, (⟨3, .int .i64, a, true, false⟩ : Row)), (1000256, (⟨3, .int .i64, b, true, false⟩ : Row)), (1000320, (⟨3, .int .i64, c, true, false⟩ : Row))]
def f76l6 : Clean := ⟨[1, 3, 4, 5, 6, 34, 35], [1], [], [], [(⟨false, 3, 0⟩, 1000192), (⟨false, 4, 0⟩, 1000256), (⟨false, 5, 0⟩, 1000320)]⟩
def f76s7 (a b c d : LI) (e f g h : Int) (i : LI) : St := stOf [(1, xb 1), (3, xo 1000192), (4, xo 1000256), (5, xo 1000320), (7, xo 1000448), (34, xi e), (35, xi f)] [(1, (30, [yi g, yi h, .sn 3 tI i none]))] [(1000192, (⟨3, .int .i64, a, true, false⟩ : Row)), (1000256, (⟨3, .int .i64, b, true, false⟩ : Row)), (1000320, (⟨3, .int .i64, c, true, false⟩ : Row)), (1000448, (⟨3, .int .i64, d, true, false⟩ : Row))]
def f76l7 : Clean := ⟨[1, 3, 4, 5, 7, 34, 35], [1], [], [], [(⟨false, 3, 0⟩, 1000192), (⟨false, 4, 0⟩, 1000256), (⟨false, 5, 0⟩, 1000320), (⟨false, 7, 0⟩, 1000448)]⟩
def f76s8 (a b c d : LI) (e f g h i : Int) (j : LI) : St := stOf [(1, xb 1), (3, xo 1000192), (4, xo 1000256), (5, xo 1000320), (7, xo 1000448), (8, xi e), (34, xi f), (35, xi g)] [(1, (30, [yi h, yi i, .sn 3 tI j none]))] [(1000192, (⟨3, .int .i64, a, true, false⟩ : Row)), (1000256, (⟨3, .int .i64, b, true, false⟩ : Row)), (1000320, (⟨3, .int .i64, c, true, false⟩ : Row)), (1000448, (⟨3, .int .i64, d, true, false⟩ : Row))]
def f76l8 : Clean := ⟨[1, 3, 4, 5, 7, 8, 34, 35], [1], [], [], [(⟨false, 3, 0⟩, 1000192), (⟨false, 4, 0⟩, 1000256), (⟨false, 5, 0⟩, 1000320), (⟨false, 7, 0⟩, 1000448)]⟩
def f76s9 (a b c d : LI) (e f g h i j : Int) (l : LI) : St := stOf [(1, xb 1), (3, xo 1000192), (4, xo 1000256), (5, xo 1000320), (7, xo 1000448), (8, xi e), (9, xi f), (34, xi g), (35, xi h)] [(1, (30, [yi i, yi j, .sn 3 tI l none]))] [(1000192, (⟨3, .int .i64, a, true, false⟩ : Row)), (1000256, (⟨3, .int .i64, b, true, false⟩ : Row)), (1000320, (⟨3, .int .i64, c, true, false⟩ : Row)), (1000448, (⟨3, .int .i64, d, true, false⟩ : Row))]
def f76l9 : Clean := ⟨[1, 3, 4, 5, 7, 8, 9, 34, 35], [1], [], [], [(⟨false, 3, 0⟩, 1000192), (⟨false, 4, 0⟩, 1000256), (⟨false, 5, 0⟩, 1000320), (⟨false, 7, 0⟩, 1000448)]⟩
def f76s10 (a b c d : LI) (e f g h i j l m : Int) (o : LI) : St := stOf [(1, xb 1), (3, xo 1000192), (4, xo 1000256), (5, xo 1000320), (7, xo 1000448), (8, xi e), (9, xi f), (34, xi g), (35, xi h), (62, xi i), (63, xi j)] [(1, (30, [yi l, yi m, .sn 3 tI o none]))] [(1000192, (⟨3, .int .i64, a, true, false⟩ : Row)), (1000256, (⟨3, .int .i64, b, true, false⟩ : Row)), (1000320, (⟨3, .int .i64, c, true, false⟩ : Row)), (1000448, (⟨3, .int .i64, d, true, false⟩ : Row))]
def f76l10 : Clean := ⟨[1, 3, 4, 5, 7, 8, 9, 34, 35, 62, 63], [1], [], [], [(⟨false, 3, 0⟩, 1000192), (⟨false, 4, 0⟩, 1000256), (⟨false, 5, 0⟩, 1000320), (⟨false, 7, 0⟩, 1000448)]⟩
def f76s11 (a b c d : LI) (e f g h i j : Int) (l : Bool) (m o : Int) (p : LI) : St := stOf [(1, xb 1), (3, xo 1000192), (4, xo 1000256), (5, xo 1000320), (7, xo 1000448), (8, xi e), (9, xi f), (34, xi g), (35, xi h), (62, xi i), (63, xi j), (64, xB l)] [(1, (30, [yi m, yi o, .sn 3 tI p none]))] [(1000192, (⟨3, .int .i64, a, true, false⟩ : Row)), (1000256, (⟨3, .int .i64, b, true, false⟩ : Row)), (1000320, (⟨3, .int .i64, c, true, false⟩ : Row)), (1000448, (⟨3, .int .i64, d, true, false⟩ : Row))]
def f76l11 : Clean := ⟨[1, 3, 4, 5, 7, 8, 9, 34, 35, 62, 63, 64], [1], [], [], [(⟨false, 3, 0⟩, 1000192), (⟨false, 4, 0⟩, 1000256), (⟨false, 5, 0⟩, 1000320), (⟨false, 7, 0⟩, 1000448)]⟩
def f76s12 (a b c d : LI) (e f g h i j l m o : Int) (p : LI) : St := stOf [(1, xb 1), (3, xo 1000192), (4, xo 1000256), (5, xo 1000320), (7, xo 1000448), (8, xi e), (9, xi f), (10, xi g), (34, xi h), (35, xi i), (62, xi j), (63, xi l)] [(1, (30, [yi m, yi o, .sn 3 tI p none]))] [(1000192, (⟨3, .int .i64, a, true, false⟩ : Row)), (1000256, (⟨3, .int .i64, b, true, false⟩ : Row)), (1000320, (⟨3, .int .i64, c, true, false⟩ : Row)), (1000448, (⟨3, .int .i64, d, true, false⟩ : Row))]
def f76l12 : Clean := ⟨[1, 3, 4, 5, 7, 8, 9, 10, 34, 35, 62, 63], [1], [], [], [(⟨false, 3, 0⟩, 1000192), (⟨false, 4, 0⟩, 1000256), (⟨false, 5, 0⟩, 1000320), (⟨false, 7, 0⟩, 1000448)]⟩
def f76s13 (a b c d : LI) (e f g h i j l m o p q : Int) (r : LI) : St := stOf [(1, xb 1), (3, xo 1000192), (4, xo 1000256), (5, xo 1000320), (7, xo 1000448), (8, xi e), (9, xi f), (10, xi g), (11, xi h), (12, xi i), (34, xi j), (35, xi l), (62, xi m), (63, xi o)] [(1, (30, [yi p, yi q, .sn 3 tI r none]))] [(1000192, (⟨3, .int .i64, a, true, false⟩ : Row)), (1000256, (⟨3, .int .i64, b, true, false⟩ : Row)), (1000320, (⟨3, .int .i64, c, true, false⟩ : Row)), (1000448, (⟨3, .int .i64, d, true, false⟩ : Row))]
def f76l13 : Clean := ⟨[1, 3, 4, 5, 7, 8, 9, 10, 11, 12, 34, 35, 62, 63], [1], [], [], [(⟨false, 3, 0⟩, 1000192), (⟨false, 4, 0⟩, 1000256), (⟨false, 5, 0⟩, 1000320), (⟨false, 7, 0⟩, 1000448)]⟩
def f76s14 (a b c d : LI) (e f g h i : Int) (j : LI) : St := stOf [(1, xb 1), (3, xo 1000192), (4, xo 1000256), (5, xo 1000320), (7, xo 1000448), (16, xi e), (34, xi f), (35, xi g)] [(1, (30, [yi h, yi i, .sn 3 tI j none]))] [(1000192, (⟨3, .int .i64, a, true, false⟩ : Row)), (1000256, (⟨3, .int .i64, b, true, false⟩ : Row)), (1000320, (⟨3, .int .i64, c, true, false⟩ : Row)), (1000448, (⟨3, .int .i64, d, true, false⟩ : Row))]
def f76l14 : Clean := ⟨[1, 3, 4, 5, 7, 16, 34, 35], [1], [], [], [(⟨false, 3, 0⟩, 1000192), (⟨false, 4, 0⟩, 1000256), (⟨false, 5, 0⟩, 1000320), (⟨false, 7, 0⟩, 1000448)]⟩
def f76s15 (a b c d : LI) (e f g h i j l : Int) (m : LI) : St := stOf [(1, xb 1), (3, xo 1000192), (4, xo 1000256), (5, xo 1000320), (7, xo 1000448), (16, xi e), (34, xi f), (35, xi g), (158, xo 1000448), (159, xi h), (160, xi i)] [(1, (30, [yi j, yi l, .sn 3 tI m none]))] [(1000192, (⟨3, .int .i64, a, true, false⟩ : Row)), (1000256, (⟨3, .int .i64, b, true, false⟩ : Row)), (1000320, (⟨3, .int .i64, c, true, false⟩ : Row)), (1000448, (⟨3, .int .i64, d, true, false⟩ : Row))]
def f76l15 : Clean := ⟨[1, 3, 4, 5, 7, 16, 34, 35, 158, 159, 160], [1], [], [], [(⟨false, 3, 0⟩, 1000192), (⟨false, 4, 0⟩, 1000256), (⟨false, 5, 0⟩, 1000320), (⟨false, 7, 0⟩, 1000448)]⟩
def f76s16 (a b c d : LI) (e f g h i j : Int) (l : LI) : St := stOf [(1, xb 1), (3, xo 1000192), (4, xo 1000256), (5, xo 1000320), (7, xo 1000448), (16, xi e), (19, xi f), (34, xi g), (35, xi h)] [(1, (30, [yi i, yi j, .sn 3 tI l none]))] [(1000192, (⟨3, .int .i64, a, true, false⟩ : Row)), (1000256, (⟨3, .int .i64, b, true, false⟩ : Row)), (1000320, (⟨3, .int .i64, c, true, false⟩ : Row)), (1000448, (⟨3, .int .i64, d, true, false⟩ : Row))]
def f76l16 : Clean := ⟨[1, 3, 4, 5, 7, 16, 19, 34, 35], [1], [], [], [(⟨false, 3, 0⟩, 1000192), (⟨false, 4, 0⟩, 1000256), (⟨false, 5, 0⟩, 1000320), (⟨false, 7, 0⟩, 1000448)]⟩
def f76s17 (a b c d : LI) (e f g h i j l m : Int) (o : LI) : St := stOf [(1, xb 1), (3, xo 1000192), (4, xo 1000256), (5, xo 1000320), (7, xo 1000448), (16, xi e), (19, xi f), (34, xi g), (35, xi h), (178, xo 1000448), (179, xi i), (180, xi j)] [(1, (30, [yi l, yi m, .sn 3 tI o none]))] [(1000192, (⟨3, .int .i64, a, true, false⟩ : Row)), (1000256, (⟨3, .int .i64, b, true, false⟩ : Row)), (1000320, (⟨3, .int .i64, c, true, false⟩ : Row)), (1000448, (⟨3, .int .i64, d, true, false⟩ : Row))]
def f76l17 : Clean := ⟨[1, 3, 4, 5, 7, 16, 19, 34, 35, 178, 179, 180], [1], [], [], [(⟨false, 3, 0⟩, 1000192), (⟨false, 4, 0⟩, 1000256), (⟨false, 5, 0⟩, 1000320), (⟨false, 7, 0⟩, 1000448)]⟩
def f76s18 (a b c d : LI) (e f g h i : Int) (j : LI) : St := stOf [(1, xb 1), (3, xo 1000192), (4, xo 1000256), (5, xo 1000320), (7, xo 1000448), (19, xi e), (34, xi f), (35, xi g)] [(1, (30, [yi h, yi i, .sn 3 tI j none]))] [(1000192, (⟨3, .int .i64, a, true, false⟩ : Row)), (1000256, (⟨3, .int .i64, b, true, false⟩ : Row)), (1000320, (⟨3, .int .i64, c, true, false⟩ : Row)), (1000448, (⟨3, .int .i64, d, true, false⟩ : Row))]
def f76l18 : Clean := ⟨[1, 3, 4, 5, 7, 19, 34, 35], [1], [], [], [(⟨false, 3, 0⟩, 1000192), (⟨false, 4, 0⟩, 1000256), (⟨false, 5, 0⟩, 1000320), (⟨false, 7, 0⟩, 1000448)]⟩
def f76s19 (a b c d : LI) (e f g h i j l : Int) (m : LI) : St := stOf [(1, xb 1), (3, xo 1000192), (4, xo 1000256), (5, xo 1000320), (19, xi e), (34, xi f), (35, xi g), (205, xo 1013120), (206, xi h), (207, xi i)] [(1, (30, [yi j, yi l, .sn 3 tI m none]))] [(1000192, (⟨3, .int .i64, a, true, false⟩ : Row)), (1000256, (⟨3, .int .i64, b, true, false⟩ : Row)), (1000320, (⟨3, .int .i64, c, true, false⟩ : Row)), (1013120, (⟨3, .int .i64, d, true, false⟩ : Row))]
def f76l19 : Clean := ⟨[1, 3, 4, 5, 19, 34, 35, 205, 206, 207], [1], [], [], [(⟨false, 3, 0⟩, 1000192), (⟨false, 4, 0⟩, 1000256), (⟨false, 5, 0⟩, 1000320), (⟨false, 205, 0⟩, 1013120)]⟩
def f76s20 (a : LI) : St := stOf [(5, xo 1000320)] [] [(1000320, (⟨3, .int .i64, a, true, false⟩ : Row))]
def f76l20 : Clean := ⟨[5], [], [], [], [(⟨false, 5, 0⟩, 1000320)]⟩
def f76s21 (a : LI) : St := stOf [(2, xo 1001000128)] [] [(1001000128, (⟨3, .int .i64, a, true, true⟩ : Row))]
def f76l21 : Clean := ⟨[2], [], [⟨⟨false, 2, 0⟩, 30000000, 3, .int .i64, true⟩], [], [(⟨false, 2, 0⟩, 1001000128)]⟩
def f76B : Nat → Option Clean := lookL [(5, f76l10), (4, f76l8), (3, f76l8), (2, f76l7), (6, f76l14), (8, f76l18), (10, f76l4), (1, f76l4), (0, f76l20), (1000000, f76l21)]
abbrev f76i {ρ : Type} (N : Nat) (c : Code) (p : Plan) (σ : St) (K : KT ρ) : Option ρ := iCode f76G tab f76B N c p σ K
def f76c (n : Nat) : Code := codeN 99 (bodyOf Try.f76) n
theorem f76t1 N a (K : KT ρ) : f76i N (f76c 2) .n (f76s0 a) (joinK (some f76l1) K) =
 impl_factors.Z1 N a (fun b c d => K .nrm (f76s1 b c d)) := by kernel_rfl
theorem f76t3 N a b c (K : KT ρ) : f76i N (f76c 5) .n (f76s1 a b c) (joinK (some f76l2) K) =
 impl_factors.Z3 N a b c (fun d e a b c => K .nrm (f76s2 d e a b c)) := by kernel_rfl
theorem f76t5 N a b c d e (K : KT ρ) : f76i N (f76c 11) .n (f76s2 a b c d e) (joinK (some f76l3) K) =
 impl_factors.Z5 N a b c d e (fun a b f c d e => K .nrm (f76s3 a b f c d e)) := by kernel_rfl
theorem f76t8 N a b c d e f (K : KT ρ) : f76i N (f76c 39) .n (f76s3 a b c d e f) (joinK (some f76l4) K) =
 impl_factors.Z8 N a b c d e f (fun a b c g h d e f => K .nrm (f76s4 a b c g h d e f)) := by kernel_rfl
theorem f76t12 N a b c d e f g h (K : KT ρ) : f76i N (f76c 279) .n (f76s4 a b c d e f g h) (joinK (some f76l5) K) =
 impl_factors.Z12 N a b c d e f g h (fun a b c d e i f g h => K .nrm (f76s5 a b c d e i f g h)) := by kernel_rfl
theorem f76t14 N b c a d e i f g h (K : KT ρ) : f76i N (f76c 663) .n (f76s5 b c a d e i f g h) (joinK (some f76l4) K) =
 impl_factors.Z14 N b c a d e i f g h (fun b c a d e f g h => K .nrm (f76s4 b c a d e f g h)) (fun a => K (.exit 0) (f76s20 a)) := by kernel_rfl
theorem f76t18 N a b c d e f g h (K : KT ρ) : f76i N (f76c 4503) .n (f76s4 a b c d e f g h) (joinK (some f76l6) K) =
 impl_factors.Z18 N a b c d e f g h (fun a b c i d e f g h => K .nrm (f76s6 a b c i d e f g h)) := by kernel_rfl
theorem f76t20 N a b c i d e f g h (K : KT ρ) : f76i N (f76c 10647) .n (f76s6 a b c i d e f g h) (joinK (some f76l6) K) =
 impl_factors.Z20 N a b c i d e f g h (fun a b c i d e f g h => K .nrm (f76s6 a b c i d e f g h)) (fun a b c d e f g h => K (.exit 1) (f76s4 a b c d e f g h)) := by kernel_rfl
theorem f76t22 N a b c d e f g h i (K : KT ρ) : f76i N (f76c 22935) .n (f76s6 a b c d e f g h i) (joinK (some f76l6) K) =
 impl_factors.Z22 N a b c d e f g h i (fun a b c d e f g h i => K .nrm (f76s6 a b c d e f g h i)) := by kernel_rfl
theorem f76t24 N a b c i d e f g h (K : KT ρ) : f76i N (f76c 47511) .n (f76s6 a b c i d e f g h) (joinK (some f76l7) K) =
 impl_factors.Z24 N a b c i d e f g h (fun a b c j d e f g h => K .nrm (f76s7 a b c j d e f g h)) := by kernel_rfl
theorem f76t27 N a b c d e f g h i (K : KT ρ) : f76i N (f76c 162199) .n (f76s7 a b c d e f g h i) (joinK (some f76l8) K) =
 impl_factors.Z27 N a b c d e f g h i (fun a b c d j e f g h i => K .nrm (f76s8 a b c d j e f g h i)) := by kernel_rfl
theorem f76t31 N a b c d j e f g h i (K : KT ρ) : f76i N (f76c 1145239) .n (f76s8 a b c d j e f g h i) (joinK (some f76l8) K) =
 impl_factors.Z31 N a b c d j e f g h i (fun a b c d j e f g h i => K .nrm (f76s8 a b c d j e f g h i)) (fun a b c d e f g h i => K (.exit 2) (f76s7 a b c d e f g h i)) := by kernel_rfl
theorem f76t35 N a b c d e f g h i j (K : KT ρ) : f76i N (f76c 9009559) .n (f76s8 a b c d e f g h i j) (joinK (some f76l9) K) =
 impl_factors.Z35 N a b c d e f g h i j (fun a b c d e l f g h i j => K .nrm (f76s9 a b c d e l f g h i j)) := by kernel_rfl
theorem f76t37 N a b c d e f g h i j l (K : KT ρ) : f76i N (f76c 21592471) .n (f76s9 a b c d e f g h i j l) (joinK (some f76l10) K) =
 impl_factors.Z37 N a b c d e f g h i j l (fun a b c d e f g h m o i j l => K .nrm (f76s10 a b c d e f g h m o i j l)) := by kernel_rfl
theorem f76t41 N a b c d e f g h i j l m o (K : KT ρ) : f76i N (f76c 147421591) .n (f76s10 a b c d e f g h i j l m o) (joinK (some f76l11) K) =
 impl_factors.Z41 N a b c d e f g h i j l m o (fun a b c d e f g h i j p l m o => K .nrm (f76s11 a b c d e f g h i j p l m o)) := by kernel_rfl
theorem f76t43 N a b c d e l f g m o p h i j (K : KT ρ) : f76i N (f76c 348748183) .n (f76s11 a b c d e l f g m o p h i j) (joinK (some f76l10) K) =
 impl_factors.Z43 N a b c d e l f g m o p h i j (fun a b c d e l f g m o h i j => K .nrm (f76s10 a b c d e l f g m o h i j)) (fun a b c d e f g h i j => K (.exit 4) (f76s8 a b c d e f g h i j)) := by kernel_rfl
theorem f76t47 N a b c d e f g h i j l m o (K : KT ρ) : f76i N (f76c 2362014103) .n (f76s10 a b c d e f g h i j l m o) (joinK (some f76l12) K) =
 impl_factors.Z47 N a b c d e f g h i j l m o (fun a b c d e f p g h i j l m o => K .nrm (f76s12 a b c d e f p g h i j l m o)) := by kernel_rfl
theorem f76t49 N a b c d e f g h i j l m o p (K : KT ρ) : f76i N (f76c 5583239575) .n (f76s12 a b c d e f g h i j l m o p) (joinK (some f76l13) K) =
 impl_factors.Z49 N a b c d e f g h i j l m o p (fun a b c d e f g q r h i j l m o p => K .nrm (f76s13 a b c d e f g q r h i j l m o p)) := by kernel_rfl
theorem f76t51 N a b c d e f p q r g h i j l m o (K : KT ρ) : f76i N (f76c 12025690519) .n (f76s13 a b c d e f p q r g h i j l m o) (joinK (some f76l13) K) =
 impl_factors.Z51 N a b c d e f p q r g h i j l m o (fun a b c d e f p q r g h i j l m o => K .nrm (f76s13 a b c d e f p q r g h i j l m o)) (fun a b c d e f g h i j l m o => K (.exit 5) (f76s10 a b c d e f g h i j l m o)) := by kernel_rfl
theorem f76t52 N a b c d e f p q r g h i j l m o (K : KT ρ) : f76i N (f76c 16320657815) .n (f76s13 a b c d e f p q r g h i j l m o) (joinK (some f76l10) K) =
 impl_factors.Z52 N a b c d e f p q r g h i j l m o (fun a b c d e f g h i j l m o => K .nrm (f76s10 a b c d e f g h i j l m o)) (fun s => K .ret (f76s21 s)) := by kernel_rfl
def f76p50 : Plan := .mk (some f76l13) none .n .n
theorem f76t50 N a b c d e f p q r g h i j l m o (K : KT ρ) : f76i N (f76c 7730723223) f76p50 (f76s13 a b c d e f p q r g h i j l m o) (joinK (some f76l10) K) =
  impl_factors.Z50 N a b c d e f p q r g h i j l m o (fun a b c d e f g h i j l m o => K .nrm (f76s10 a b c d e f g h i j l m o)) (fun a b c d e f g h i j l m o => K (.exit 5) (f76s10 a b c d e f g h i j l m o)) (fun s => K .ret (f76s21 s)) :=
 viaSeqS (fun k => impl_factors.Z51 N a b c d e f p q r g h i j l m o k (fun a b c d e f g h i j l m o => K (.exit 5) (f76s10 a b c d e f g h i j l m o))) (by kernel_rfl) (f76t51 N (K := seqK (fun σ => f76i N (f76c 16320657815) .n σ (joinK (some f76l10) K)) (joinK (some f76l10) K)) ..) (fx16 fun a b c d e f p q r g h i j l m o => f76t52 N a b c d e f p q r g h i j l m o K) (by kernel_rfl)
def f76p48 : Plan := .mk (some f76l13) none .n f76p50
theorem f76t48 N a b c d e f p g h i j l m o (K : KT ρ) : f76i N (f76c 3435755927) f76p48 (f76s12 a b c d e f p g h i j l m o) (joinK (some f76l10) K) =
  impl_factors.Z48 N a b c d e f p g h i j l m o (fun a b c d e f g h i j l m o => K .nrm (f76s10 a b c d e f g h i j l m o)) (fun a b c d e f g h i j l m o => K (.exit 5) (f76s10 a b c d e f g h i j l m o)) (fun q => K .ret (f76s21 q)) :=
 viaSeqS (fun k => impl_factors.Z49 N a b c d e f p g h i j l m o k) (by kernel_rfl) (f76t49 N (K := seqK (fun σ => f76i N (f76c 7730723223) f76p50 σ (joinK (some f76l10) K)) (joinK (some f76l10) K)) ..) (fx16 fun a b c d e f p r s g h i j l m o => f76t50 N a b c d e f p r s g h i j l m o K) (by kernel_rfl)
def f76p46 : Plan := .mk (some f76l12) none .n f76p48
theorem f76t46 N a b c d e f g h i j l m o (K : KT ρ) : f76i N (f76c 1288272279) f76p46 (f76s10 a b c d e f g h i j l m o) (joinK (some f76l10) K) =
  impl_factors.Z46 N a b c d e f g h i j l m o (fun a b c d e f g h i j l m o => K .nrm (f76s10 a b c d e f g h i j l m o)) (fun a b c d e f g h i j l m o => K (.exit 5) (f76s10 a b c d e f g h i j l m o)) (fun p => K .ret (f76s21 p)) :=
 viaSeqS (fun k => impl_factors.Z47 N a b c d e f g h i j l m o k) (by kernel_rfl) (f76t47 N (K := seqK (fun σ => f76i N (f76c 3435755927) f76p48 σ (joinK (some f76l10) K)) (joinK (some f76l10) K)) ..) (fx14 fun a b c d e f q g h i j l m o => f76t48 N a b c d e f q g h i j l m o K) (by kernel_rfl)
def f76p45 : Plan := .mk (some f76l10) none f76p46 .n
theorem f76t45 N a b c d e f g h i j l m o (K : KT ρ) : f76i N (f76c 751401367) f76p45 (f76s10 a b c d e f g h i j l m o) (joinK (some f76l10) K) =
  impl_factors.Z45 N a b c d e f g h i j l m o (fun a b c d e f g h i j l m o => K .nrm (f76s10 a b c d e f g h i j l m o)) (fun p => K .ret (f76s21 p)) :=
 viaBlockS (by kernel_rfl) (f76t46 N (K := blockK 5 (joinK (some f76l10) K)) ..) (by kernel_rfl)
theorem f76t53 N a b c d e f g h i j l m o (K : KT ρ) : f76i N (f76c 1019836823) .n (f76s10 a b c d e f g h i j l m o) (joinK (some f76l10) K) =
 impl_factors.Z53 N a b c d e f g h i j l m o (fun a b c d e f g h i j l m o => K .nrm (f76s10 a b c d e f g h i j l m o)) := by kernel_rfl
def f76p44 : Plan := .mk (some f76l10) none f76p45 .n
theorem f76t44 N a b c d e f g h i j l m o (K : KT ρ) : f76i N (f76c 482965911) f76p44 (f76s10 a b c d e f g h i j l m o) (joinK (some f76l10) K) =
  impl_factors.Z44 N a b c d e f g h i j l m o (fun a b c d e f g h i j l m o => K .nrm (f76s10 a b c d e f g h i j l m o)) (fun p => K .ret (f76s21 p)) :=
 viaSeqS (fun k => impl_factors.Z45 N a b c d e f g h i j l m o k (fun p => K .ret (f76s21 p))) (by kernel_rfl) (f76t45 N (K := seqK (fun σ => f76i N (f76c 1019836823) .n σ (joinK (some f76l10) K)) (joinK (some f76l10) K)) ..) (fx13 fun a b c d e f g h i j l m o => f76t53 N a b c d e f g h i j l m o K) (by kernel_rfl)
def f76p42 : Plan := .mk (some f76l10) none .n f76p44
theorem f76t42 N a b c d e l f g m o p h i j (K : KT ρ) : f76i N (f76c 214530455) f76p42 (f76s11 a b c d e l f g m o p h i j) (joinK (some f76l10) K) =
  impl_factors.Z42 N a b c d e l f g m o p h i j (fun a b c d e l f g m o h i j => K .nrm (f76s10 a b c d e l f g m o h i j)) (fun a b c d e f g h i j => K (.exit 4) (f76s8 a b c d e f g h i j)) (fun q => K .ret (f76s21 q)) :=
 viaSeqS (fun k => impl_factors.Z43 N a b c d e l f g m o p h i j k (fun a b c d e f g h i j => K (.exit 4) (f76s8 a b c d e f g h i j))) (by kernel_rfl) (f76t43 N (K := seqK (fun σ => f76i N (f76c 482965911) f76p44 σ (joinK (some f76l10) K)) (joinK (some f76l10) K)) ..) (fx13 fun a b c d e l f g m o h i j => f76t44 N a b c d e l f g m o h i j K) (by kernel_rfl)
def f76p40 : Plan := .mk (some f76l11) none .n f76p42
theorem f76t40 N a b c d e l f g m o h i j (K : KT ρ) : f76i N (f76c 80312727) f76p40 (f76s10 a b c d e l f g m o h i j) (joinK (some f76l10) K) =
  impl_factors.Z40 N a b c d e l f g m o h i j (fun a b c d e l f g m o h i j => K .nrm (f76s10 a b c d e l f g m o h i j)) (fun a b c d e f g h i j => K (.exit 4) (f76s8 a b c d e f g h i j)) (fun p => K .ret (f76s21 p)) :=
 viaSeqS (fun k => impl_factors.Z41 N a b c d e l f g m o h i j k) (by kernel_rfl) (f76t41 N (K := seqK (fun σ => f76i N (f76c 214530455) f76p42 σ (joinK (some f76l10) K)) (joinK (some f76l10) K)) ..) (fx14 fun a b c d e l f g m o q h i j => f76t42 N a b c d e l f g m o q h i j K) (by kernel_rfl)
def f76p39 : Plan := .mk none (some f76l10) f76p40 .n
abbrev f76w39 {ρ : Type} (N M : Nat) (σ : St) (K : KT ρ) : Option ρ := loopC (fun σ K => f76i N (f76c 80312727) f76p40 σ K) f76l10 M σ K
theorem f76t39L {ρ : Type} (N : Nat) (K : KT ρ) : ∀ (M : Nat) (a b c d : LI) (e l f g m o h i : Int) (j : LI), f76w39 N M (f76s10 a b c d e l f g m o h i j) K =
 impl_factors.Z39L N (fun a b c d e f g h i j => K (.exit 4) (f76s8 a b c d e f g h i j)) (fun p => K .ret (f76s21 p)) M a b c d e l f g m o h i j
 | 0, _, _, _, _, _, _, _, _, _, _, _, _, _ => rfl
 | M + 1, a, b, c, d, e, l, f, g, m, o, h, i, j => viaRoundS (fun k => impl_factors.Z40 N a b c d e l f g m o h i j k (fun a b c d e f g h i j => K (.exit 4) (f76s8 a b c d e f g h i j)) (fun p => K .ret (f76s21 p))) (f76t40 N (K := seqK (fun σ => f76w39 N M σ K) K) ..) (fx13 fun a b c d e l f g m o h i j => f76t39L N K M a b c d e l f g m o h i j) (by kernel_rfl)
theorem f76t39 N a b c d e l f g m o h i j (K : KT ρ) : f76i N (f76c 46758295) f76p39 (f76s10 a b c d e l f g m o h i j) (joinK (some f76l8) K) =
  impl_factors.Z39 N a b c d e l f g m o h i j (fun a b c d e f g h i j => K (.exit 4) (f76s8 a b c d e f g h i j)) (fun p => K .ret (f76s21 p)) :=
 viaLoopS (by kernel_rfl) (f76t39L N (joinK (some f76l8) K) N a b c d e l f g m o h i j) (by kernel_rfl)
def f76p38 : Plan := .mk (some f76l8) none f76p39 .n
theorem f76t38 N a b c d e l f g m o h i j (K : KT ρ) : f76i N (f76c 29981079) f76p38 (f76s10 a b c d e l f g m o h i j) (joinK (some f76l8) K) =
  impl_factors.Z38 N a b c d e l f g m o h i j (fun a b c d e f g h i j => K .nrm (f76s8 a b c d e f g h i j)) (fun p => K .ret (f76s21 p)) :=
 viaBlockS (by kernel_rfl) (f76t39 N (K := blockK 4 (joinK (some f76l8) K)) ..) (by kernel_rfl)
def f76p36 : Plan := .mk (some f76l10) none .n f76p38
theorem f76t36 N a b c d e l f g h i j (K : KT ρ) : f76i N (f76c 13203863) f76p36 (f76s9 a b c d e l f g h i j) (joinK (some f76l8) K) =
  impl_factors.Z36 N a b c d e l f g h i j (fun a b c d e f g h i j => K .nrm (f76s8 a b c d e f g h i j)) (fun m => K .ret (f76s21 m)) :=
 viaSeqS (fun k => impl_factors.Z37 N a b c d e l f g h i j k) (by kernel_rfl) (f76t37 N (K := seqK (fun σ => f76i N (f76c 29981079) f76p38 σ (joinK (some f76l8) K)) (joinK (some f76l8) K)) ..) (fx13 fun a b c d e l f g o p h i j => f76t38 N a b c d e l f g o p h i j K) (by kernel_rfl)
def f76p34 : Plan := .mk (some f76l9) none .n f76p36
theorem f76t34 N a b c d e f g h i j (K : KT ρ) : f76i N (f76c 4815255) f76p34 (f76s8 a b c d e f g h i j) (joinK (some f76l8) K) =
  impl_factors.Z34 N a b c d e f g h i j (fun a b c d e f g h i j => K .nrm (f76s8 a b c d e f g h i j)) (fun l => K .ret (f76s21 l)) :=
 viaSeqS (fun k => impl_factors.Z35 N a b c d e f g h i j k) (by kernel_rfl) (f76t35 N (K := seqK (fun σ => f76i N (f76c 13203863) f76p36 σ (joinK (some f76l8) K)) (joinK (some f76l8) K)) ..) (fx11 fun a b c d e m f g h i j => f76t36 N a b c d e m f g h i j K) (by kernel_rfl)
def f76p33 : Plan := .mk (some f76l8) none f76p34 .n
theorem f76t33 N a b c d e f g h i j (K : KT ρ) : f76i N (f76c 2718103) f76p33 (f76s8 a b c d e f g h i j) (joinK (some f76l8) K) =
  impl_factors.Z33 N a b c d e f g h i j (fun a b c d e f g h i j => K .nrm (f76s8 a b c d e f g h i j)) (fun l => K .ret (f76s21 l)) :=
 viaBlockS (by kernel_rfl) (f76t34 N (K := blockK 3 (joinK (some f76l8) K)) ..) (by kernel_rfl)
theorem f76t54 N a b c d e f g h i j (K : KT ρ) : f76i N (f76c 3766679) .n (f76s8 a b c d e f g h i j) (joinK (some f76l8) K) =
 impl_factors.Z54 N a b c d e f g h i j (fun a b c d e f g h i j => K .nrm (f76s8 a b c d e f g h i j)) := by kernel_rfl
def f76p32 : Plan := .mk (some f76l8) none f76p33 .n
theorem f76t32 N a b c d e f g h i j (K : KT ρ) : f76i N (f76c 1669527) f76p32 (f76s8 a b c d e f g h i j) (joinK (some f76l8) K) =
  impl_factors.Z32 N a b c d e f g h i j (fun a b c d e f g h i j => K .nrm (f76s8 a b c d e f g h i j)) (fun l => K .ret (f76s21 l)) :=
 viaSeqS (fun k => impl_factors.Z33 N a b c d e f g h i j k (fun l => K .ret (f76s21 l))) (by kernel_rfl) (f76t33 N (K := seqK (fun σ => f76i N (f76c 3766679) .n σ (joinK (some f76l8) K)) (joinK (some f76l8) K)) ..) (fx10 fun a b c d e f g h i j => f76t54 N a b c d e f g h i j K) (by kernel_rfl)
def f76p30 : Plan := .mk (some f76l8) none .n f76p32
theorem f76t30 N a b c d j e f g h i (K : KT ρ) : f76i N (f76c 620951) f76p30 (f76s8 a b c d j e f g h i) (joinK (some f76l8) K) =
  impl_factors.Z30 N a b c d j e f g h i (fun a b c d j e f g h i => K .nrm (f76s8 a b c d j e f g h i)) (fun a b c d e f g h i => K (.exit 2) (f76s7 a b c d e f g h i)) (fun l => K .ret (f76s21 l)) :=
 viaSeqS (fun k => impl_factors.Z31 N a b c d j e f g h i k (fun a b c d e f g h i => K (.exit 2) (f76s7 a b c d e f g h i))) (by kernel_rfl) (f76t31 N (K := seqK (fun σ => f76i N (f76c 1669527) f76p32 σ (joinK (some f76l8) K)) (joinK (some f76l8) K)) ..) (fx10 fun a b c d j e f g h i => f76t32 N a b c d j e f g h i K) (by kernel_rfl)
def f76p29 : Plan := .mk none (some f76l8) f76p30 .n
abbrev f76w29 {ρ : Type} (N M : Nat) (σ : St) (K : KT ρ) : Option ρ := loopC (fun σ K => f76i N (f76c 620951) f76p30 σ K) f76l8 M σ K
theorem f76t29L {ρ : Type} (N : Nat) (K : KT ρ) : ∀ (M : Nat) (a b c d : LI) (j e f g h : Int) (i : LI), f76w29 N M (f76s8 a b c d j e f g h i) K =
 impl_factors.Z29L N (fun a b c d e f g h i => K (.exit 2) (f76s7 a b c d e f g h i)) (fun l => K .ret (f76s21 l)) M a b c d j e f g h i
 | 0, _, _, _, _, _, _, _, _, _, _ => rfl
 | M + 1, a, b, c, d, j, e, f, g, h, i => viaRoundS (fun k => impl_factors.Z30 N a b c d j e f g h i k (fun a b c d e f g h i => K (.exit 2) (f76s7 a b c d e f g h i)) (fun l => K .ret (f76s21 l))) (f76t30 N (K := seqK (fun σ => f76w29 N M σ K) K) ..) (fx10 fun a b c d j e f g h i => f76t29L N K M a b c d j e f g h i) (by kernel_rfl)
theorem f76t29 N a b c d j e f g h i (K : KT ρ) : f76i N (f76c 358807) f76p29 (f76s8 a b c d j e f g h i) (joinK (some f76l7) K) =
  impl_factors.Z29 N a b c d j e f g h i (fun a b c d e f g h i => K (.exit 2) (f76s7 a b c d e f g h i)) (fun l => K .ret (f76s21 l)) :=
 viaLoopS (by kernel_rfl) (f76t29L N (joinK (some f76l7) K) N a b c d j e f g h i) (by kernel_rfl)
def f76p28 : Plan := .mk (some f76l7) none f76p29 .n
theorem f76t28 N a b c d j e f g h i (K : KT ρ) : f76i N (f76c 227735) f76p28 (f76s8 a b c d j e f g h i) (joinK (some f76l7) K) =
  impl_factors.Z28 N a b c d j e f g h i (fun a b c d e f g h i => K .nrm (f76s7 a b c d e f g h i)) (fun l => K .ret (f76s21 l)) :=
 viaBlockS (by kernel_rfl) (f76t29 N (K := blockK 2 (joinK (some f76l7) K)) ..) (by kernel_rfl)
def f76p26 : Plan := .mk (some f76l8) none .n f76p28
theorem f76t26 N a b c d e f g h i (K : KT ρ) : f76i N (f76c 96663) f76p26 (f76s7 a b c d e f g h i) (joinK (some f76l7) K) =
  impl_factors.Z26 N a b c d e f g h i (fun a b c d e f g h i => K .nrm (f76s7 a b c d e f g h i)) (fun j => K .ret (f76s21 j)) :=
 viaSeqS (fun k => impl_factors.Z27 N a b c d e f g h i k) (by kernel_rfl) (f76t27 N (K := seqK (fun σ => f76i N (f76c 227735) f76p28 σ (joinK (some f76l7) K)) (joinK (some f76l7) K)) ..) (fx10 fun a b c d l e f g h i => f76t28 N a b c d l e f g h i K) (by kernel_rfl)
theorem f76t56 N a b c d e f g h i (K : KT ρ) : f76i N (f76c 194967) .n (f76s7 a b c d e f g h i) (joinK (some f76l14) K) =
 impl_factors.Z56 N a b c d e f g h i (fun a b c d j e f g h i => K .nrm (f76s14 a b c d j e f g h i)) := by kernel_rfl
theorem f76t59 N a b c d e f g h i j (K : KT ρ) : f76i N (f76c 653719) .n (f76s14 a b c d e f g h i j) (joinK (some f76l15) K) =
 impl_factors.Z59 N a b c d e f g h i j (fun a b c d e f g l m h i j => K .nrm (f76s15 a b c d e f g l m h i j)) := by kernel_rfl
theorem f76t62 N a b c d e f g l m h i j (K : KT ρ) : f76i N (f76c 2488727) .n (f76s15 a b c d e f g l m h i j) (joinK (some f76l15) K) =
 impl_factors.Z62 N a b c d e f g l m h i j (fun a b c d e f g l m h i j => K .nrm (f76s15 a b c d e f g l m h i j)) (fun a b c d e f g h i j => K (.exit 6) (f76s14 a b c d e f g h i j)) := by kernel_rfl
def f76p61 : Plan := .mk none (some f76l15) .n .n
abbrev f76w61 {ρ : Type} (N M : Nat) (σ : St) (K : KT ρ) : Option ρ := loopC (fun σ K => f76i N (f76c 2488727) .n σ K) f76l15 M σ K
theorem f76t61L {ρ : Type} (N : Nat) (K : KT ρ) : ∀ (M : Nat) (a b c d : LI) (e f g l m h i : Int) (j : LI), f76w61 N M (f76s15 a b c d e f g l m h i j) K =
 impl_factors.Z61L N (fun a b c d e f g h i j => K (.exit 6) (f76s14 a b c d e f g h i j)) M a b c d e f g l m h i j
 | 0, _, _, _, _, _, _, _, _, _, _, _, _ => rfl
 | M + 1, a, b, c, d, e, f, g, l, m, h, i, j => viaRoundS (fun k => impl_factors.Z62 N a b c d e f g l m h i j k (fun a b c d e f g h i j => K (.exit 6) (f76s14 a b c d e f g h i j))) (f76t62 N (K := seqK (fun σ => f76w61 N M σ K) K) ..) (fx12 fun a b c d e f g l m h i j => f76t61L N K M a b c d e f g l m h i j) (by kernel_rfl)
theorem f76t61 N a b c d e f g l m h i j (K : KT ρ) : f76i N (f76c 1440151) f76p61 (f76s15 a b c d e f g l m h i j) (joinK (some f76l14) K) =
  impl_factors.Z61 N a b c d e f g l m h i j (fun a b c d e f g h i j => K (.exit 6) (f76s14 a b c d e f g h i j)) :=
 viaLoopS (by kernel_rfl) (f76t61L N (joinK (some f76l14) K) N a b c d e f g l m h i j) (by kernel_rfl)
def f76p60 : Plan := .mk (some f76l14) none f76p61 .n
theorem f76t60 N a b c d e f g l m h i j (K : KT ρ) : f76i N (f76c 915863) f76p60 (f76s15 a b c d e f g l m h i j) (joinK (some f76l14) K) =
  impl_factors.Z60 N a b c d e f g l m h i j (fun a b c d e f g h i j => K .nrm (f76s14 a b c d e f g h i j)) :=
 viaBlockS (by kernel_rfl) (f76t61 N (K := blockK 6 (joinK (some f76l14) K)) ..) (by kernel_rfl)
def f76p58 : Plan := .mk (some f76l15) none .n f76p60
theorem f76t58 N a b c d e f g h i j (K : KT ρ) : f76i N (f76c 391575) f76p58 (f76s14 a b c d e f g h i j) (joinK (some f76l14) K) =
  impl_factors.Z58 N a b c d e f g h i j (fun a b c d e f g h i j => K .nrm (f76s14 a b c d e f g h i j)) :=
 viaSeqS (fun k => impl_factors.Z59 N a b c d e f g h i j k) (by kernel_rfl) (f76t59 N (K := seqK (fun σ => f76i N (f76c 915863) f76p60 σ (joinK (some f76l14) K)) (joinK (some f76l14) K)) ..) (fx12 fun a b c d e f g l m h i j => f76t60 N a b c d e f g l m h i j K) (by kernel_rfl)
theorem f76t64 N a b c d e f g h i j (K : KT ρ) : f76i N (f76c 784791) .n (f76s14 a b c d e f g h i j) (joinK (some f76l16) K) =
 impl_factors.Z64 N a b c d e f g h i j (fun a b c d e l f g h i j => K .nrm (f76s16 a b c d e l f g h i j)) := by kernel_rfl
theorem f76t67 N a b c d e f g h i j l (K : KT ρ) : f76i N (f76c 2619799) .n (f76s16 a b c d e f g h i j l) (joinK (some f76l17) K) =
 impl_factors.Z67 N a b c d e f g h i j l (fun a b c d e f g h m o i j l => K .nrm (f76s17 a b c d e f g h m o i j l)) := by kernel_rfl
theorem f76t70 N a b c d l e f g m o h i j (K : KT ρ) : f76i N (f76c 9959831) .n (f76s17 a b c d l e f g m o h i j) (joinK (some f76l17) K) =
 impl_factors.Z70 N a b c d l e f g m o h i j (fun a b c d l e f g m o h i j => K .nrm (f76s17 a b c d l e f g m o h i j)) (fun a b c d e f g h i j => K (.exit 8) (f76s18 a b c d e f g h i j)) := by kernel_rfl
def f76p69 : Plan := .mk none (some f76l17) .n .n
abbrev f76w69 {ρ : Type} (N M : Nat) (σ : St) (K : KT ρ) : Option ρ := loopC (fun σ K => f76i N (f76c 9959831) .n σ K) f76l17 M σ K
theorem f76t69L {ρ : Type} (N : Nat) (K : KT ρ) : ∀ (M : Nat) (a b c d : LI) (l e f g m o h i : Int) (j : LI), f76w69 N M (f76s17 a b c d l e f g m o h i j) K =
 impl_factors.Z69L N (fun a b c d e f g h i j => K (.exit 8) (f76s18 a b c d e f g h i j)) M a b c d l e f g m o h i j
 | 0, _, _, _, _, _, _, _, _, _, _, _, _, _ => rfl
 | M + 1, a, b, c, d, l, e, f, g, m, o, h, i, j => viaRoundS (fun k => impl_factors.Z70 N a b c d l e f g m o h i j k (fun a b c d e f g h i j => K (.exit 8) (f76s18 a b c d e f g h i j))) (f76t70 N (K := seqK (fun σ => f76w69 N M σ K) K) ..) (fx13 fun a b c d l e f g m o h i j => f76t69L N K M a b c d l e f g m o h i j) (by kernel_rfl)
theorem f76t69 N a b c d l e f g m o h i j (K : KT ρ) : f76i N (f76c 5765527) f76p69 (f76s17 a b c d l e f g m o h i j) (joinK (some f76l18) K) =
  impl_factors.Z69 N a b c d l e f g m o h i j (fun a b c d e f g h i j => K (.exit 8) (f76s18 a b c d e f g h i j)) :=
 viaLoopS (by kernel_rfl) (f76t69L N (joinK (some f76l18) K) N a b c d l e f g m o h i j) (by kernel_rfl)
def f76p68 : Plan := .mk (some f76l18) none f76p69 .n
theorem f76t68 N a b c d l e f g m o h i j (K : KT ρ) : f76i N (f76c 3668375) f76p68 (f76s17 a b c d l e f g m o h i j) (joinK (some f76l18) K) =
  impl_factors.Z68 N a b c d l e f g m o h i j (fun a b c d e f g h i j => K .nrm (f76s18 a b c d e f g h i j)) :=
 viaBlockS (by kernel_rfl) (f76t69 N (K := blockK 8 (joinK (some f76l18) K)) ..) (by kernel_rfl)
def f76p66 : Plan := .mk (some f76l17) none .n f76p68
theorem f76t66 N a b c d l e f g h i j (K : KT ρ) : f76i N (f76c 1571223) f76p66 (f76s16 a b c d l e f g h i j) (joinK (some f76l18) K) =
  impl_factors.Z66 N a b c d l e f g h i j (fun a b c d e f g h i j => K .nrm (f76s18 a b c d e f g h i j)) :=
 viaSeqS (fun k => impl_factors.Z67 N a b c d l e f g h i j k) (by kernel_rfl) (f76t67 N (K := seqK (fun σ => f76i N (f76c 3668375) f76p68 σ (joinK (some f76l18) K)) (joinK (some f76l18) K)) ..) (fx13 fun a b c d l e f g m o h i j => f76t68 N a b c d l e f g m o h i j K) (by kernel_rfl)
theorem f76t72 N a b c j d e f g h i (K : KT ρ) : f76i N (f76c 3144087) .n (f76s18 a b c j d e f g h i) (joinK (some f76l19) K) =
 impl_factors.Z72 N a b c j d e f g h i (fun a b c l d e f m o g h i => K .nrm (f76s19 a b c l d e f m o g h i)) := by kernel_rfl
theorem f76t75 N a b c i j d e l m f g h (K : KT ρ) : f76i N (f76c 10484119) .n (f76s19 a b c i j d e l m f g h) (joinK (some f76l19) K) =
 impl_factors.Z75 N a b c i j d e l m f g h (fun a b c i j d e l m f g h => K .nrm (f76s19 a b c i j d e l m f g h)) (fun a b c d e f g h => K (.exit 10) (f76s4 a b c d e f g h)) := by kernel_rfl
def f76p74 : Plan := .mk none (some f76l19) .n .n
abbrev f76w74 {ρ : Type} (N M : Nat) (σ : St) (K : KT ρ) : Option ρ := loopC (fun σ K => f76i N (f76c 10484119) .n σ K) f76l19 M σ K
theorem f76t74L {ρ : Type} (N : Nat) (K : KT ρ) : ∀ (M : Nat) (a b c i : LI) (j d e l m f g : Int) (h : LI), f76w74 N M (f76s19 a b c i j d e l m f g h) K =
 impl_factors.Z74L N (fun a b c d e f g h => K (.exit 10) (f76s4 a b c d e f g h)) M a b c i j d e l m f g h
 | 0, _, _, _, _, _, _, _, _, _, _, _, _ => rfl
 | M + 1, a, b, c, i, j, d, e, l, m, f, g, h => viaRoundS (fun k => impl_factors.Z75 N a b c i j d e l m f g h k (fun a b c d e f g h => K (.exit 10) (f76s4 a b c d e f g h))) (f76t75 N (K := seqK (fun σ => f76w74 N M σ K) K) ..) (fx12 fun a b c i j d e l m f g h => f76t74L N K M a b c i j d e l m f g h) (by kernel_rfl)
theorem f76t74 N a b c i j d e l m f g h (K : KT ρ) : f76i N (f76c 6289815) f76p74 (f76s19 a b c i j d e l m f g h) (joinK (some f76l4) K) =
  impl_factors.Z74 N a b c i j d e l m f g h (fun a b c d e f g h => K (.exit 10) (f76s4 a b c d e f g h)) :=
 viaLoopS (by kernel_rfl) (f76t74L N (joinK (some f76l4) K) N a b c i j d e l m f g h) (by kernel_rfl)
def f76p73 : Plan := .mk (some f76l4) none f76p74 .n
theorem f76t73 N a b c i j d e l m f g h (K : KT ρ) : f76i N (f76c 4192663) f76p73 (f76s19 a b c i j d e l m f g h) (joinK (some f76l4) K) =
  impl_factors.Z73 N a b c i j d e l m f g h (fun a b c d e f g h => K .nrm (f76s4 a b c d e f g h)) :=
 viaBlockS (by kernel_rfl) (f76t74 N (K := blockK 10 (joinK (some f76l4) K)) ..) (by kernel_rfl)
def f76p71 : Plan := .mk (some f76l19) none .n f76p73
theorem f76t71 N a b c j i d e f g h (K : KT ρ) : f76i N (f76c 2095511) f76p71 (f76s18 a b c j i d e f g h) (joinK (some f76l4) K) =
  impl_factors.Z71 N a b c j i d e f g h (fun a b c d e f g h => K .nrm (f76s4 a b c d e f g h)) :=
 viaSeqS (fun k => impl_factors.Z72 N a b c j i d e f g h k) (by kernel_rfl) (f76t72 N (K := seqK (fun σ => f76i N (f76c 4192663) f76p73 σ (joinK (some f76l4) K)) (joinK (some f76l4) K)) ..) (fx12 fun a b c l i d e m o f g h => f76t73 N a b c l i d e m o f g h K) (by kernel_rfl)
def f76p65 : Plan := .mk (some f76l18) none f76p66 f76p71
theorem f76t65 N a b c i l j d e f g h (K : KT ρ) : f76i N (f76c 1046935) f76p65 (f76s16 a b c i l j d e f g h) (joinK (some f76l4) K) =
  impl_factors.Z65 N a b c i l j d e f g h (fun a b c d e f g h => K .nrm (f76s4 a b c d e f g h)) :=
 viaSeqS (fun k => impl_factors.Z66 N a b c i l j d e f g h k) (by kernel_rfl) (f76t66 N (K := seqK (fun σ => f76i N (f76c 2095511) f76p71 σ (joinK (some f76l4) K)) (joinK (some f76l4) K)) ..) (fx10 fun a b c i j d e f g h => f76t71 N a b c i j d e f g h K) (by kernel_rfl)
def f76p63 : Plan := .mk (some f76l16) none .n f76p65
theorem f76t63 N a b c i j d e f g h (K : KT ρ) : f76i N (f76c 522647) f76p63 (f76s14 a b c i j d e f g h) (joinK (some f76l4) K) =
  impl_factors.Z63 N a b c i j d e f g h (fun a b c d e f g h => K .nrm (f76s4 a b c d e f g h)) :=
 viaSeqS (fun k => impl_factors.Z64 N a b c i j d e f g h k) (by kernel_rfl) (f76t64 N (K := seqK (fun σ => f76i N (f76c 1046935) f76p65 σ (joinK (some f76l4) K)) (joinK (some f76l4) K)) ..) (fx11 fun a b c i j l d e f g h => f76t65 N a b c i j l d e f g h K) (by kernel_rfl)
def f76p57 : Plan := .mk (some f76l14) none f76p58 f76p63
theorem f76t57 N a b c i j d e f g h (K : KT ρ) : f76i N (f76c 260503) f76p57 (f76s14 a b c i j d e f g h) (joinK (some f76l4) K) =
  impl_factors.Z57 N a b c i j d e f g h (fun a b c d e f g h => K .nrm (f76s4 a b c d e f g h)) :=
 viaSeqS (fun k => impl_factors.Z58 N a b c i j d e f g h k) (by kernel_rfl) (f76t58 N (K := seqK (fun σ => f76i N (f76c 522647) f76p63 σ (joinK (some f76l4) K)) (joinK (some f76l4) K)) ..) (fx10 fun a b c i j d e f g h => f76t63 N a b c i j d e f g h K) (by kernel_rfl)
def f76p55 : Plan := .mk (some f76l14) none .n f76p57
theorem f76t55 N a b c i d e f g h (K : KT ρ) : f76i N (f76c 129431) f76p55 (f76s7 a b c i d e f g h) (joinK (some f76l4) K) =
  impl_factors.Z55 N a b c i d e f g h (fun a b c d e f g h => K .nrm (f76s4 a b c d e f g h)) :=
 viaSeqS (fun k => impl_factors.Z56 N a b c i d e f g h k) (by kernel_rfl) (f76t56 N (K := seqK (fun σ => f76i N (f76c 260503) f76p57 σ (joinK (some f76l4) K)) (joinK (some f76l4) K)) ..) (fx10 fun a b c i j d e f g h => f76t57 N a b c i j d e f g h K) (by kernel_rfl)
def f76p25 : Plan := .mk (some f76l7) none f76p26 f76p55
theorem f76t25 N a b c i d e f g h (K : KT ρ) : f76i N (f76c 63895) f76p25 (f76s7 a b c i d e f g h) (joinK (some f76l4) K) =
  impl_factors.Z25 N a b c i d e f g h (fun a b c d e f g h => K .nrm (f76s4 a b c d e f g h)) (fun j => K .ret (f76s21 j)) :=
 viaSeqS (fun k => impl_factors.Z26 N a b c i d e f g h k (fun j => K .ret (f76s21 j))) (by kernel_rfl) (f76t26 N (K := seqK (fun σ => f76i N (f76c 129431) f76p55 σ (joinK (some f76l4) K)) (joinK (some f76l4) K)) ..) (fx9 fun a b c i d e f g h => f76t55 N a b c i d e f g h K) (by kernel_rfl)
def f76p23 : Plan := .mk (some f76l7) none .n f76p25
theorem f76t23 N a b c i d e f g h (K : KT ρ) : f76i N (f76c 31127) f76p23 (f76s6 a b c i d e f g h) (joinK (some f76l4) K) =
  impl_factors.Z23 N a b c i d e f g h (fun a b c d e f g h => K .nrm (f76s4 a b c d e f g h)) (fun j => K .ret (f76s21 j)) :=
 viaSeqS (fun k => impl_factors.Z24 N a b c i d e f g h k) (by kernel_rfl) (f76t24 N (K := seqK (fun σ => f76i N (f76c 63895) f76p25 σ (joinK (some f76l4) K)) (joinK (some f76l4) K)) ..) (fx9 fun a b c l d e f g h => f76t25 N a b c l d e f g h K) (by kernel_rfl)
def f76p21 : Plan := .mk (some f76l6) none .n f76p23
theorem f76t21 N a b c i d e f g h (K : KT ρ) : f76i N (f76c 14743) f76p21 (f76s6 a b c i d e f g h) (joinK (some f76l4) K) =
  impl_factors.Z21 N a b c i d e f g h (fun a b c d e f g h => K .nrm (f76s4 a b c d e f g h)) (fun j => K .ret (f76s21 j)) :=
 viaSeqS (fun k => impl_factors.Z22 N a b c i d e f g h k) (by kernel_rfl) (f76t22 N (K := seqK (fun σ => f76i N (f76c 31127) f76p23 σ (joinK (some f76l4) K)) (joinK (some f76l4) K)) ..) (fx9 fun a b c i d e f g h => f76t23 N a b c i d e f g h K) (by kernel_rfl)
def f76p19 : Plan := .mk (some f76l6) none .n f76p21
theorem f76t19 N a b c i d e f g h (K : KT ρ) : f76i N (f76c 6551) f76p19 (f76s6 a b c i d e f g h) (joinK (some f76l4) K) =
  impl_factors.Z19 N a b c i d e f g h (fun a b c d e f g h => K .nrm (f76s4 a b c d e f g h)) (fun a b c d e f g h => K (.exit 1) (f76s4 a b c d e f g h)) (fun j => K .ret (f76s21 j)) :=
 viaSeqS (fun k => impl_factors.Z20 N a b c i d e f g h k (fun a b c d e f g h => K (.exit 1) (f76s4 a b c d e f g h))) (by kernel_rfl) (f76t20 N (K := seqK (fun σ => f76i N (f76c 14743) f76p21 σ (joinK (some f76l4) K)) (joinK (some f76l4) K)) ..) (fx9 fun a b c i d e f g h => f76t21 N a b c i d e f g h K) (by kernel_rfl)
def f76p17 : Plan := .mk (some f76l6) none .n f76p19
theorem f76t17 N a b c d e f g h (K : KT ρ) : f76i N (f76c 2455) f76p17 (f76s4 a b c d e f g h) (joinK (some f76l4) K) =
  impl_factors.Z17 N a b c d e f g h (fun a b c d e f g h => K .nrm (f76s4 a b c d e f g h)) (fun a b c d e f g h => K (.exit 1) (f76s4 a b c d e f g h)) (fun i => K .ret (f76s21 i)) :=
 viaSeqS (fun k => impl_factors.Z18 N a b c d e f g h k) (by kernel_rfl) (f76t18 N (K := seqK (fun σ => f76i N (f76c 6551) f76p19 σ (joinK (some f76l4) K)) (joinK (some f76l4) K)) ..) (fx9 fun a b c j d e f g h => f76t19 N a b c j d e f g h K) (by kernel_rfl)
def f76p16 : Plan := .mk (some f76l4) none f76p17 .n
theorem f76t16 N a b c d e f g h (K : KT ρ) : f76i N (f76c 1431) f76p16 (f76s4 a b c d e f g h) (joinK (some f76l4) K) =
  impl_factors.Z16 N a b c d e f g h (fun a b c d e f g h => K .nrm (f76s4 a b c d e f g h)) (fun i => K .ret (f76s21 i)) :=
 viaBlockS (by kernel_rfl) (f76t17 N (K := blockK 1 (joinK (some f76l4) K)) ..) (by kernel_rfl)
theorem f76t76 N a b c d e f g h (K : KT ρ) : f76i N (f76c 1943) .n (f76s4 a b c d e f g h) (joinK (some f76l4) K) =
 impl_factors.Z76 N a b c d e f g h (fun a b c d e f g h => K .nrm (f76s4 a b c d e f g h)) := by kernel_rfl
def f76p15 : Plan := .mk (some f76l4) none f76p16 .n
theorem f76t15 N a b c d e f g h (K : KT ρ) : f76i N (f76c 919) f76p15 (f76s4 a b c d e f g h) (joinK (some f76l4) K) =
  impl_factors.Z15 N a b c d e f g h (fun a b c d e f g h => K .nrm (f76s4 a b c d e f g h)) (fun i => K .ret (f76s21 i)) :=
 viaSeqS (fun k => impl_factors.Z16 N a b c d e f g h k (fun i => K .ret (f76s21 i))) (by kernel_rfl) (f76t16 N (K := seqK (fun σ => f76i N (f76c 1943) .n σ (joinK (some f76l4) K)) (joinK (some f76l4) K)) ..) (fx8 fun a b c d e f g h => f76t76 N a b c d e f g h K) (by kernel_rfl)
def f76p13 : Plan := .mk (some f76l4) none .n f76p15
theorem f76t13 N b c a d e i f g h (K : KT ρ) : f76i N (f76c 407) f76p13 (f76s5 b c a d e i f g h) (joinK (some f76l4) K) =
  impl_factors.Z13 N b c a d e i f g h (fun b c a d e f g h => K .nrm (f76s4 b c a d e f g h)) (fun a => K (.exit 0) (f76s20 a)) (fun j => K .ret (f76s21 j)) :=
 viaSeqS (fun k => impl_factors.Z14 N b c a d e i f g h k (fun a => K (.exit 0) (f76s20 a))) (by kernel_rfl) (f76t14 N (K := seqK (fun σ => f76i N (f76c 919) f76p15 σ (joinK (some f76l4) K)) (joinK (some f76l4) K)) ..) (fx8 fun b c a d e f g h => f76t15 N b c a d e f g h K) (by kernel_rfl)
def f76p11 : Plan := .mk (some f76l5) none .n f76p13
theorem f76t11 N b c a d e f g h (K : KT ρ) : f76i N (f76c 151) f76p11 (f76s4 b c a d e f g h) (joinK (some f76l4) K) =
  impl_factors.Z11 N b c a d e f g h (fun b c a d e f g h => K .nrm (f76s4 b c a d e f g h)) (fun a => K (.exit 0) (f76s20 a)) (fun i => K .ret (f76s21 i)) :=
 viaSeqS (fun k => impl_factors.Z12 N b c a d e f g h k) (by kernel_rfl) (f76t12 N (K := seqK (fun σ => f76i N (f76c 407) f76p13 σ (joinK (some f76l4) K)) (joinK (some f76l4) K)) ..) (fx9 fun b c a d e j f g h => f76t13 N b c a d e j f g h K) (by kernel_rfl)
def f76p10 : Plan := .mk none (some f76l4) f76p11 .n
abbrev f76w10 {ρ : Type} (N M : Nat) (σ : St) (K : KT ρ) : Option ρ := loopC (fun σ K => f76i N (f76c 151) f76p11 σ K) f76l4 M σ K
theorem f76t10L {ρ : Type} (N : Nat) (K : KT ρ) : ∀ (M : Nat) (b c a : LI) (d e f g : Int) (h : LI), f76w10 N M (f76s4 b c a d e f g h) K =
 impl_factors.Z10L N (fun a => K (.exit 0) (f76s20 a)) (fun i => K .ret (f76s21 i)) M b c a d e f g h
 | 0, _, _, _, _, _, _, _, _ => rfl
 | M + 1, b, c, a, d, e, f, g, h => viaRoundS (fun k => impl_factors.Z11 N b c a d e f g h k (fun a => K (.exit 0) (f76s20 a)) (fun i => K .ret (f76s21 i))) (f76t11 N (K := seqK (fun σ => f76w10 N M σ K) K) ..) (fx8 fun b c a d e f g h => f76t10L N K M b c a d e f g h) (by kernel_rfl)
theorem f76t10 N b c a d e f g h (K : KT ρ) : f76i N (f76c 87) f76p10 (f76s4 b c a d e f g h) (joinK (some f76l20) K) =
  impl_factors.Z10 N b c a d e f g h (fun a => K (.exit 0) (f76s20 a)) (fun i => K .ret (f76s21 i)) :=
 viaLoopS (by kernel_rfl) (f76t10L N (joinK (some f76l20) K) N b c a d e f g h) (by kernel_rfl)
def f76p9 : Plan := .mk (some f76l20) none f76p10 .n
theorem f76t9 N b c a d e f g h (K : KT ρ) : f76i N (f76c 55) f76p9 (f76s4 b c a d e f g h) (joinK (some f76l20) K) =
  impl_factors.Z9 N b c a d e f g h (fun a => K .nrm (f76s20 a)) (fun i => K .ret (f76s21 i)) :=
 viaBlockS (by kernel_rfl) (f76t10 N (K := blockK 0 (joinK (some f76l20) K)) ..) (by kernel_rfl)
def f76p7 : Plan := .mk (some f76l4) none .n f76p9
theorem f76t7 N b c a d e f (K : KT ρ) : f76i N (f76c 23) f76p7 (f76s3 b c a d e f) (joinK (some f76l20) K) =
  impl_factors.Z7 N b c a d e f (fun a => K .nrm (f76s20 a)) (fun g => K .ret (f76s21 g)) :=
 viaSeqS (fun k => impl_factors.Z8 N b c a d e f k) (by kernel_rfl) (f76t8 N (K := seqK (fun σ => f76i N (f76c 55) f76p9 σ (joinK (some f76l20) K)) (joinK (some f76l20) K)) ..) (fx8 fun b c a h i d e f => f76t9 N b c a h i d e f K) (by kernel_rfl)
theorem f76t77 N a (K : KT ρ) : f76i N (f76c 31) .n (f76s20 a) (joinK (some f76lE) K) =
 impl_factors.Z77 N a (fun b => K .ret (f76s21 b)) := by kernel_rfl
def f76p6 : Plan := .mk (some f76l20) none f76p7 .n
theorem f76t6 N b c a d e f (K : KT ρ) : f76i N (f76c 15) f76p6 (f76s3 b c a d e f) (joinK (some f76lE) K) =
  impl_factors.Z6 N b c a d e f (fun g => K .ret (f76s21 g)) :=
 viaSeqS (fun k => impl_factors.Z7 N b c a d e f k (fun g => K .ret (f76s21 g))) (by kernel_rfl) (f76t7 N (K := seqK (fun σ => f76i N (f76c 31) .n σ (joinK (some f76lE) K)) (joinK (some f76lE) K)) ..) (funext fun a => f76t77 N a K) (by kernel_rfl)
def f76p4 : Plan := .mk (some f76l3) none .n f76p6
theorem f76t4 N a b c d e (K : KT ρ) : f76i N (f76c 7) f76p4 (f76s2 a b c d e) (joinK (some f76lE) K) =
  impl_factors.Z4 N a b c d e (fun f => K .ret (f76s21 f)) :=
 viaSeqS (fun k => impl_factors.Z5 N a b c d e k) (by kernel_rfl) (f76t5 N (K := seqK (fun σ => f76i N (f76c 15) f76p6 σ (joinK (some f76lE) K)) (joinK (some f76lE) K)) ..) (fx6 fun a b g c d e => f76t6 N a b g c d e K) (by kernel_rfl)
def f76p2 : Plan := .mk (some f76l2) none .n f76p4
theorem f76t2 N a b c (K : KT ρ) : f76i N (f76c 3) f76p2 (f76s1 a b c) (joinK (some f76lE) K) =
  impl_factors.Z2 N a b c (fun d => K .ret (f76s21 d)) :=
 viaSeqS (fun k => impl_factors.Z3 N a b c k) (by kernel_rfl) (f76t3 N (K := seqK (fun σ => f76i N (f76c 7) f76p4 σ (joinK (some f76lE) K)) (joinK (some f76lE) K)) ..) (fx5 fun e f a b c => f76t4 N e f a b c K) (by kernel_rfl)
def f76p0 : Plan := .mk (some f76l1) none .n f76p2
theorem f76t0 N a (K : KT ρ) : f76i N (f76c 1) f76p0 (f76s0 a) (joinK (some f76lE) K) =
  impl_factors.Z0 N a (fun b => K .ret (f76s21 b)) :=
 viaSeqS (fun k => impl_factors.Z1 N a k) (by kernel_rfl) (f76t1 N (K := seqK (fun σ => f76i N (f76c 3) f76p2 σ (joinK (some f76lE) K)) (joinK (some f76lE) K)) ..) (fx3 fun c d e => f76t2 N c d e K) (by kernel_rfl)
theorem f76m (N : Nat) (a : MT) : f76i N (f76c 1) f76p0 (f76s0 a) (joinK (some f76lE) (finK tab f76sig Try.f76.results.toList)) = impl_factors.Z0 N a (fun b => some ((), (b, ()))) :=
 (f76t0 N a (finK tab f76sig Try.f76.results.toList)).trans (by kernel_rfl)
theorem f76ok (h : impl_factors.Spec) : EntryOk Try.prog 76 e76 :=
 entry_of_code (sig := f76sig) (c := (f76c 1)) (pl := f76p0) (je := (some f76lE)) (B := f76B) Try.func76 (by kernel_rfl) (by kernel_rfl) (by kernel_rfl) tabOk f76GOk (by kernel_rfl) (by kernel_rfl) (by kernel_rfl) (by kernel_rfl) fun X hb hp => by
  obtain ⟨a, _⟩ := X
  obtain ⟨N, h⟩ := h a hb.1 hp
  exact ⟨N, (f76m N a).trans (h N (Nat.le_refl N))⟩
theorem e76ok : EntryOk Try.prog 76 e76 := f76ok impl_factors.ok
end Go.Fw
namespace Go.Fw
variable {ρ : Type}
open Go.Proofs
def f31sig : Sig := ⟨[⟨.pair (.int .i64) (.pair (.int .i64) (.sl 3 (.int .i64))), true, false⟩], [⟨.bool, false, false⟩]⟩
def e31 : Entry := ⟨f31sig, none, fun X => ((), ((impl_MatrixOk.g X.1), ()))⟩
def f31G : Gm := addG (addG emptyG 75 e75) 76 e76
theorem f31GOk : GOk Try.prog f31G := ((GOk.nil).add e75ok (by kernel_rfl)).add e76ok (by kernel_rfl)
def f31lE : Clean := ⟨[], [], [], [], []⟩
def f31s0 (a : MT) : St := initSt f31sig.ps (a, ())
def f31s1 (a : Bool) : St := stOf [(2, xB a)] [] []
def f31l1 : Clean := ⟨[2], [], [], [], []⟩
def f31B : Nat → Option Clean := lookL [(1000000, f31l1)]
abbrev f31i {ρ : Type} (N : Nat) (c : Code) (p : Plan) (σ : St) (K : KT ρ) : Option ρ := iCode f31G tab f31B N c p σ K
def f31c (n : Nat) : Code := codeN 99 (bodyOf Try.f31) n
theorem f31t0 N a (K : KT ρ) : f31i N (f31c 1) .n (f31s0 a) (joinK (some f31lE) K) =
 impl_MatrixOk.Z0 N a (fun b => K .ret (f31s1 b)) := by kernel_rfl
theorem f31m (N : Nat) (a : MT) : f31i N (f31c 1) .n (f31s0 a) (joinK (some f31lE) (finK tab f31sig Try.f31.results.toList)) = impl_MatrixOk.Z0 N a (fun b => some ((), (b, ()))) :=
 (f31t0 N a (finK tab f31sig Try.f31.results.toList)).trans (by kernel_rfl)
theorem f31ok (h : impl_MatrixOk.Spec) : EntryOk Try.prog 31 e31 :=
 entry_of_code (sig := f31sig) (c := (f31c 1)) (pl := .n) (je := (some f31lE)) (B := f31B) Try.func31 (by kernel_rfl) (by kernel_rfl) (by kernel_rfl) tabOk f31GOk (by kernel_rfl) (by kernel_rfl) (by kernel_rfl) (by kernel_rfl) fun X hb hp => by
  obtain ⟨a, _⟩ := X
  obtain ⟨N, h⟩ := h a hb.1
  exact ⟨N, (f31m N a).trans (h N (Nat.le_refl N))⟩
theorem e31ok : EntryOk Try.prog 31 e31 := f31ok impl_MatrixOk.ok
end Go.Fw
namespace Go.Fw
variable {ρ : Type}
open Go.Proofs
def f91sig : Sig := ⟨[⟨.sl 3 (.int .i64), false, false⟩], [⟨.sl 3 (.int .i64), false, false⟩]⟩
def e91 : Entry := ⟨f91sig, (some fun X => slices_Clone_int_int.P X.1), fun X => ((), ((slices_Clone_int_int.g X.1), ()))⟩
def f91G : Gm := emptyG
theorem f91GOk : GOk Try.prog f91G := GOk.nil
def f91lE : Clean := ⟨[], [], [], [], []⟩
def f91s0 (a : LI) : St := initSt f91sig.ps (a, ())
def f91s1 (a : LI) : St := stOf [(2, xo 1000128)] [] [(1000128, (⟨3, .int .i64, a, true, false⟩ : Row))]
def f91l1 : Clean := ⟨[2], [], [⟨⟨false, 2, 0⟩, 30000000, 3, .int .i64, true⟩], [], [(⟨false, 2, 0⟩, 1000128)]⟩
def f91B : Nat → Option Clean := lookL [(1000000, f91l1)]
abbrev f91i {ρ : Type} (N : Nat) (c : Code) (p : Plan) (σ : St) (K : KT ρ) : Option ρ := iCode f91G tab f91B N c p σ K
def f91c (n : Nat) : Code := codeN 99 (bodyOf Try.f91) n
theorem f91t0 N a (K : KT ρ) : f91i N (f91c 1) .n (f91s0 a) (joinK (some f91lE) K) =
 slices_Clone_int_int.Z0 N a (fun b => K .ret (f91s1 b)) := by kernel_rfl
theorem f91m (N : Nat) (a : LI) : f91i N (f91c 1) .n (f91s0 a) (joinK (some f91lE) (finK tab f91sig Try.f91.results.toList)) = slices_Clone_int_int.Z0 N a (fun b => some ((), (b, ()))) :=
 (f91t0 N a (finK tab f91sig Try.f91.results.toList)).trans (by kernel_rfl)
theorem f91ok (h : slices_Clone_int_int.Spec) : EntryOk Try.prog 91 e91 :=
 entry_of_code (sig := f91sig) (c := (f91c 1)) (pl := .n) (je := (some f91lE)) (B := f91B) Try.func91 (by kernel_rfl) (by kernel_rfl) (by kernel_rfl) tabOk f91GOk (by kernel_rfl) (by kernel_rfl) (by kernel_rfl) (by kernel_rfl) fun X hb hp => by
  obtain ⟨a, _⟩ := X
  obtain ⟨N, h⟩ := h a hb.1 hp
  exact ⟨N, (f91m N a).trans (h N (Nat.le_refl N))⟩
theorem e91ok : EntryOk Try.prog 91 e91 := f91ok slices_Clone_int_int.ok
end Go.Fw
namespace Go.Fw
variable {ρ : Type}
open Go.Proofs
def f71sig : Sig := ⟨[⟨.pair (.int .i64) (.pair (.int .i64) (.sl 3 (.int .i64))), true, false⟩, ⟨.int .i64, false, false⟩], [⟨.pair (.int .i64) (.pair (.int .i64) (.sl 3 (.int .i64))), true, false⟩]⟩
def e71 : Entry := ⟨f71sig, (some fun X => impl_mutated.P X.1 X.2.1), fun X => ((), ((impl_mutated.g X.1 X.2.1), ()))⟩
def f71G : Gm := addG (addG emptyG 83 e83) 91 e91
theorem f71GOk : GOk Try.prog f71G := ((GOk.nil).add e83ok (by kernel_rfl)).add e91ok (by kernel_rfl)
def f71lE : Clean := ⟨[], [], [], [], []⟩
def f71s0 (a : MT) (b : Int) : St := initSt f71sig.ps (a, (b, ()))
def f71s1 (a b c : Int) (d : LI) (e f : Int) : St := stOf [(1, xi a), (2, xb 2), (4, xb 4)] [(2, (30, [yi b, yi c, .sn 3 tI d none])), (4, (30, [yi e, yi f, .nil]))] []
def f71l1 : Clean := ⟨[1, 2, 4], [2, 4], [], [], []⟩
def f71s2 (a : LI) (b c d : Int) (e : LI) (f g h i : Int) : St := stOf [(1, xi b), (2, xb 2), (4, xb 4), (5, xb 5)] [(2, (30, [yi c, yi d, .sn 3 tI e none])), (4, (30, [yi f, yi g, .nil])), (5, (30, [yi h, yi i, .own 20000322]))] [(20000322, (⟨3, .int .i64, a, true, false⟩ : Row))]
def f71l2 : Clean := ⟨[1, 2, 4, 5], [2, 4, 5], [], [], [(⟨true, 5, 2⟩, 20000322)]⟩
def f71s3 (a : LI) (b c d e : Int) (f : LI) (g h i j : Int) : St := stOf [(1, xi b), (2, xb 2), (4, xb 4), (5, xb 5), (6, xi c)] [(2, (30, [yi d, yi e, .sn 3 tI f none])), (4, (30, [yi g, yi h, .nil])), (5, (30, [yi i, yi j, .own 20000322]))] [(20000322, (⟨3, .int .i64, a, true, false⟩ : Row))]
def f71l3 : Clean := ⟨[1, 2, 4, 5, 6], [2, 4, 5], [], [], [(⟨true, 5, 2⟩, 20000322)]⟩
def f71s4 (a : LI) (b c d e f : Int) (g : LI) (h i j l : Int) : St := stOf [(1, xi b), (2, xb 2), (4, xb 4), (5, xb 5), (6, xi c), (7, xi d)] [(2, (30, [yi e, yi f, .sn 3 tI g none])), (4, (30, [yi h, yi i, .nil])), (5, (30, [yi j, yi l, .own 20000322]))] [(20000322, (⟨3, .int .i64, a, true, false⟩ : Row))]
def f71l4 : Clean := ⟨[1, 2, 4, 5, 6, 7], [2, 4, 5], [], [], [(⟨true, 5, 2⟩, 20000322)]⟩
def f71s5 (a : LI) (b d e f g h : Int) (i : LI) (j l m o : Int) : St := stOf [(1, xi b), (2, xb 2), (4, xb 4), (5, xb 5), (6, xi d), (7, xi e), (8, .c (.elt 20000322 f 0))] [(2, (30, [yi g, yi h, .sn 3 tI i none])), (4, (30, [yi j, yi l, .nil])), (5, (30, [yi m, yi o, .own 20000322]))] [(20000322, (⟨3, .int .i64, a, true, false⟩ : Row))]
def f71l5 : Clean := ⟨[1, 2, 4, 5, 6, 7, 8], [2, 4, 5], [], [], [(⟨true, 5, 2⟩, 20000322)]⟩
def f71s6 (a : LI) (b d e f g h i j : Int) (l : LI) (m o p q : Int) : St := stOf [(1, xi b), (2, xb 2), (4, xb 4), (5, xb 5), (6, xi d), (7, xi e), (8, .c (.elt 20000322 f 0)), (9, xi g), (10, xi h)] [(2, (30, [yi i, yi j, .sn 3 tI l none])), (4, (30, [yi m, yi o, .nil])), (5, (30, [yi p, yi q, .own 20000322]))] [(20000322, (⟨3, .int .i64, a, true, false⟩ : Row))]
def f71l6 : Clean := ⟨[1, 2, 4, 5, 6, 7, 8, 9, 10], [2, 4, 5], [], [], [(⟨true, 5, 2⟩, 20000322)]⟩
def f71s7 (a : LI) (b d e f g h : Int) (i : Bool) (j l : Int) (m : LI) (o p q r : Int) : St := stOf [(1, xi b), (2, xb 2), (4, xb 4), (5, xb 5), (6, xi d), (7, xi e), (8, .c (.elt 20000322 f 0)), (9, xi g), (10, xi h), (48, xB i)] [(2, (30, [yi j, yi l, .sn 3 tI m none])), (4, (30, [yi o, yi p, .nil])), (5, (30, [yi q, yi r, .own 20000322]))] [(20000322, (⟨3, .int .i64, a, true, false⟩ : Row))]
def f71l7 : Clean := ⟨[1, 2, 4, 5, 6, 7, 8, 9, 10, 48], [2, 4, 5], [], [], [(⟨true, 5, 2⟩, 20000322)]⟩
def f71s8 (a : LI) (b c d e : Int) : St := stOf [(4, xb 4), (5, xb 5)] [(4, (30, [yi b, yi c, .nil])), (5, (30, [yi d, yi e, .own 20000322]))] [(20000322, (⟨3, .int .i64, a, true, false⟩ : Row))]
def f71l8 : Clean := ⟨[4, 5], [4, 5], [], [], [(⟨true, 5, 2⟩, 20000322)]⟩
def f71s9 (a : LI) (b c : Int) : St := stOf [(4, xb 4)] [(4, (30, [yi b, yi c, .own 20000258]))] [(20000258, (⟨3, .int .i64, a, true, false⟩ : Row))]
def f71l9 : Clean := ⟨[4], [4], [], [], [(⟨true, 4, 2⟩, 20000258)]⟩
def f71B : Nat → Option Clean := lookL [(4, f71l4), (3, f71l4), (2, f71l3), (1, f71l3), (0, f71l8), (1000000, f71l9)]
abbrev f71i {ρ : Type} (N : Nat) (c : Code) (p : Plan) (σ : St) (K : KT ρ) : Option ρ := iCode f71G tab f71B N c p σ K
def f71c (n : Nat) : Code := codeN 99 (bodyOf Try.f71) n
theorem f71t1 N b a (K : KT ρ) : f71i N (f71c 2) .n (f71s0 b a) (joinK (some f71l1) K) =
 impl_mutated.Z1 N b a (fun a c d e f g => K .nrm (f71s1 a c d e f g)) := by kernel_rfl
theorem f71t3 N a b c d e f (K : KT ρ) : f71i N (f71c 5) .n (f71s1 a b c d e f) (joinK (some f71l2) K) =
 impl_mutated.Z3 N a b c d e f (fun g a b c d e f h i => K .nrm (f71s2 g a b c d e f h i)) := by kernel_rfl
theorem f71t6 N a b c d e f g h i (K : KT ρ) : f71i N (f71c 19) .n (f71s2 a b c d e f g h i) (joinK (some f71l3) K) =
 impl_mutated.Z6 N a b c d e f g h i (fun a b j c d e f g h i => K .nrm (f71s3 a b j c d e f g h i)) := by kernel_rfl
theorem f71t10 N a f g h i j b c d e (K : KT ρ) : f71i N (f71c 139) .n (f71s3 a f g h i j b c d e) (joinK (some f71l3) K) =
 impl_mutated.Z10 N a f g h i j b c d e (fun a f g h i j b c d e => K .nrm (f71s3 a f g h i j b c d e)) (fun a b c d e => K (.exit 0) (f71s8 a b c d e)) := by kernel_rfl
theorem f71t14 N a b c d e f g h i j (K : KT ρ) : f71i N (f71c 1099) .n (f71s3 a b c d e f g h i j) (joinK (some f71l4) K) =
 impl_mutated.Z14 N a b c d e f g h i j (fun a b c l d e f g h i j => K .nrm (f71s4 a b c l d e f g h i j)) := by kernel_rfl
theorem f71t18 N a b c l d e f g h i j (K : KT ρ) : f71i N (f71c 8779) .n (f71s4 a b c l d e f g h i j) (joinK (some f71l4) K) =
 impl_mutated.Z18 N a b c l d e f g h i j (fun a b c l d e f g h i j => K .nrm (f71s4 a b c l d e f g h i j)) (fun a b c d e f g h i j => K (.exit 2) (f71s3 a b c d e f g h i j)) := by kernel_rfl
theorem f71t22 N a b c d e f g h i j l (K : KT ρ) : f71i N (f71c 70219) .n (f71s4 a b c d e f g h i j l) (joinK (some f71l5) K) =
 impl_mutated.Z22 N a b c d e f g h i j l (fun a b c d m e f g h i j l => K .nrm (f71s5 a b c d m e f g h i j l)) := by kernel_rfl
theorem f71t24 N a b c d e f g h i j l m (K : KT ρ) : f71i N (f71c 168523) .n (f71s5 a b c d e f g h i j l m) (joinK (some f71l6) K) =
 impl_mutated.Z24 N a b c d e f g h i j l m (fun a b c d e o p f g h i j l m => K .nrm (f71s6 a b c d e o p f g h i j l m)) := by kernel_rfl
theorem f71t27 N a b c d e f g h i j l m o p (K : KT ρ) : f71i N (f71c 627275) .n (f71s6 a b c d e f g h i j l m o p) (joinK (some f71l7) K) =
 impl_mutated.Z27 N a b c d e f g h i j l m o p (fun a b c d e f g q h i j l m o p => K .nrm (f71s7 a b c d e f g q h i j l m o p)) := by kernel_rfl
theorem f71t28 N a b c d m o p q e f g h i j l (K : KT ρ) : f71i N (f71c 889419) .n (f71s7 a b c d m o p q e f g h i j l) (joinK (some f71l4) K) =
 impl_mutated.Z28 N a b c d m o p q e f g h i j l (fun a b c d e f g h i j l => K .nrm (f71s4 a b c d e f g h i j l)) := by kernel_rfl
def f71p26 : Plan := .mk (some f71l7) none .n .n
theorem f71t26 N a b c d m o p e f g h i j l (K : KT ρ) : f71i N (f71c 365131) f71p26 (f71s6 a b c d m o p e f g h i j l) (joinK (some f71l4) K) =
  impl_mutated.Z26 N a b c d m o p e f g h i j l (fun a b c d e f g h i j l => K .nrm (f71s4 a b c d e f g h i j l)) :=
 viaSeqS (fun k => impl_mutated.Z27 N a b c d m o p e f g h i j l k) (by kernel_rfl) (f71t27 N (K := seqK (fun σ => f71i N (f71c 889419) .n σ (joinK (some f71l4) K)) (joinK (some f71l4) K)) ..) (fx15 fun a b c d m o p q e f g h i j l => f71t28 N a b c d m o p q e f g h i j l K) (by kernel_rfl)
def f71p25 : Plan := .mk (some f71l4) none f71p26 .n
theorem f71t25 N a b c d m o p e f g h i j l (K : KT ρ) : f71i N (f71c 234059) f71p25 (f71s6 a b c d m o p e f g h i j l) (joinK (some f71l4) K) =
  impl_mutated.Z25 N a b c d m o p e f g h i j l (fun a b c d e f g h i j l => K .nrm (f71s4 a b c d e f g h i j l)) :=
 viaBlockS (by kernel_rfl) (f71t26 N (K := blockK 4 (joinK (some f71l4) K)) ..) (by kernel_rfl)
def f71p23 : Plan := .mk (some f71l6) none .n f71p25
theorem f71t23 N a b c d m e f g h i j l (K : KT ρ) : f71i N (f71c 102987) f71p23 (f71s5 a b c d m e f g h i j l) (joinK (some f71l4) K) =
  impl_mutated.Z23 N a b c d m e f g h i j l (fun a b c d e f g h i j l => K .nrm (f71s4 a b c d e f g h i j l)) :=
 viaSeqS (fun k => impl_mutated.Z24 N a b c d m e f g h i j l k) (by kernel_rfl) (f71t24 N (K := seqK (fun σ => f71i N (f71c 234059) f71p25 σ (joinK (some f71l4) K)) (joinK (some f71l4) K)) ..) (fx14 fun a b c d m o p e f g h i j l => f71t25 N a b c d m o p e f g h i j l K) (by kernel_rfl)
def f71p21 : Plan := .mk (some f71l5) none .n f71p23
theorem f71t21 N a b c d e f g h i j l (K : KT ρ) : f71i N (f71c 37451) f71p21 (f71s4 a b c d e f g h i j l) (joinK (some f71l4) K) =
  impl_mutated.Z21 N a b c d e f g h i j l (fun a b c d e f g h i j l => K .nrm (f71s4 a b c d e f g h i j l)) :=
 viaSeqS (fun k => impl_mutated.Z22 N a b c d e f g h i j l k) (by kernel_rfl) (f71t22 N (K := seqK (fun σ => f71i N (f71c 102987) f71p23 σ (joinK (some f71l4) K)) (joinK (some f71l4) K)) ..) (fx12 fun a b c d m e f g h i j l => f71t23 N a b c d m e f g h i j l K) (by kernel_rfl)
def f71p20 : Plan := .mk (some f71l4) none f71p21 .n
theorem f71t20 N a b c d e f g h i j l (K : KT ρ) : f71i N (f71c 21067) f71p20 (f71s4 a b c d e f g h i j l) (joinK (some f71l4) K) =
  impl_mutated.Z20 N a b c d e f g h i j l (fun a b c d e f g h i j l => K .nrm (f71s4 a b c d e f g h i j l)) :=
 viaBlockS (by kernel_rfl) (f71t21 N (K := blockK 3 (joinK (some f71l4) K)) ..) (by kernel_rfl)
theorem f71t29 N a b c d e f g h i j l (K : KT ρ) : f71i N (f71c 29259) .n (f71s4 a b c d e f g h i j l) (joinK (some f71l4) K) =
 impl_mutated.Z29 N a b c d e f g h i j l (fun a b c d e f g h i j l => K .nrm (f71s4 a b c d e f g h i j l)) := by kernel_rfl
def f71p19 : Plan := .mk (some f71l4) none f71p20 .n
theorem f71t19 N a b c d e f g h i j l (K : KT ρ) : f71i N (f71c 12875) f71p19 (f71s4 a b c d e f g h i j l) (joinK (some f71l4) K) =
  impl_mutated.Z19 N a b c d e f g h i j l (fun a b c d e f g h i j l => K .nrm (f71s4 a b c d e f g h i j l)) :=
 viaSeqS (fun k => impl_mutated.Z20 N a b c d e f g h i j l k) (by kernel_rfl) (f71t20 N (K := seqK (fun σ => f71i N (f71c 29259) .n σ (joinK (some f71l4) K)) (joinK (some f71l4) K)) ..) (fx11 fun a b c d e f g h i j l => f71t29 N a b c d e f g h i j l K) (by kernel_rfl)
def f71p17 : Plan := .mk (some f71l4) none .n f71p19
theorem f71t17 N a b c l d e f g h i j (K : KT ρ) : f71i N (f71c 4683) f71p17 (f71s4 a b c l d e f g h i j) (joinK (some f71l4) K) =
  impl_mutated.Z17 N a b c l d e f g h i j (fun a b c l d e f g h i j => K .nrm (f71s4 a b c l d e f g h i j)) (fun a b c d e f g h i j => K (.exit 2) (f71s3 a b c d e f g h i j)) :=
 viaSeqS (fun k => impl_mutated.Z18 N a b c l d e f g h i j k (fun a b c d e f g h i j => K (.exit 2) (f71s3 a b c d e f g h i j))) (by kernel_rfl) (f71t18 N (K := seqK (fun σ => f71i N (f71c 12875) f71p19 σ (joinK (some f71l4) K)) (joinK (some f71l4) K)) ..) (fx11 fun a b c l d e f g h i j => f71t19 N a b c l d e f g h i j K) (by kernel_rfl)
def f71p16 : Plan := .mk none (some f71l4) f71p17 .n
abbrev f71w16 {ρ : Type} (N M : Nat) (σ : St) (K : KT ρ) : Option ρ := loopC (fun σ K => f71i N (f71c 4683) f71p17 σ K) f71l4 M σ K
theorem f71t16L {ρ : Type} (N : Nat) (K : KT ρ) : ∀ (M : Nat) (a : LI) (b c l d e : Int) (f : LI) (g h i j : Int), f71w16 N M (f71s4 a b c l d e f g h i j) K =
 impl_mutated.Z16L N (fun a b c d e f g h i j => K (.exit 2) (f71s3 a b c d e f g h i j)) M a b c l d e f g h i j
 | 0, _, _, _, _, _, _, _, _, _, _, _ => rfl
 | M + 1, a, b, c, l, d, e, f, g, h, i, j => viaRoundS (fun k => impl_mutated.Z17 N a b c l d e f g h i j k (fun a b c d e f g h i j => K (.exit 2) (f71s3 a b c d e f g h i j))) (f71t17 N (K := seqK (fun σ => f71w16 N M σ K) K) ..) (fx11 fun a b c l d e f g h i j => f71t16L N K M a b c l d e f g h i j) (by kernel_rfl)
theorem f71t16 N a b c l d e f g h i j (K : KT ρ) : f71i N (f71c 2635) f71p16 (f71s4 a b c l d e f g h i j) (joinK (some f71l3) K) =
  impl_mutated.Z16 N a b c l d e f g h i j (fun a b c d e f g h i j => K (.exit 2) (f71s3 a b c d e f g h i j)) :=
 viaLoopS (by kernel_rfl) (f71t16L N (joinK (some f71l3) K) N a b c l d e f g h i j) (by kernel_rfl)
def f71p15 : Plan := .mk (some f71l3) none f71p16 .n
theorem f71t15 N a b c l d e f g h i j (K : KT ρ) : f71i N (f71c 1611) f71p15 (f71s4 a b c l d e f g h i j) (joinK (some f71l3) K) =
  impl_mutated.Z15 N a b c l d e f g h i j (fun a b c d e f g h i j => K .nrm (f71s3 a b c d e f g h i j)) :=
 viaBlockS (by kernel_rfl) (f71t16 N (K := blockK 2 (joinK (some f71l3) K)) ..) (by kernel_rfl)
def f71p13 : Plan := .mk (some f71l4) none .n f71p15
theorem f71t13 N a b c d e f g h i j (K : KT ρ) : f71i N (f71c 587) f71p13 (f71s3 a b c d e f g h i j) (joinK (some f71l3) K) =
  impl_mutated.Z13 N a b c d e f g h i j (fun a b c d e f g h i j => K .nrm (f71s3 a b c d e f g h i j)) :=
 viaSeqS (fun k => impl_mutated.Z14 N a b c d e f g h i j k) (by kernel_rfl) (f71t14 N (K := seqK (fun σ => f71i N (f71c 1611) f71p15 σ (joinK (some f71l3) K)) (joinK (some f71l3) K)) ..) (fx11 fun a b c l d e f g h i j => f71t15 N a b c l d e f g h i j K) (by kernel_rfl)
def f71p12 : Plan := .mk (some f71l3) none f71p13 .n
theorem f71t12 N a b c d e f g h i j (K : KT ρ) : f71i N (f71c 331) f71p12 (f71s3 a b c d e f g h i j) (joinK (some f71l3) K) =
  impl_mutated.Z12 N a b c d e f g h i j (fun a b c d e f g h i j => K .nrm (f71s3 a b c d e f g h i j)) :=
 viaBlockS (by kernel_rfl) (f71t13 N (K := blockK 1 (joinK (some f71l3) K)) ..) (by kernel_rfl)
theorem f71t30 N a b c d e f g h i j (K : KT ρ) : f71i N (f71c 459) .n (f71s3 a b c d e f g h i j) (joinK (some f71l3) K) =
 impl_mutated.Z30 N a b c d e f g h i j (fun a b c d e f g h i j => K .nrm (f71s3 a b c d e f g h i j)) := by kernel_rfl
def f71p11 : Plan := .mk (some f71l3) none f71p12 .n
theorem f71t11 N a b c d e f g h i j (K : KT ρ) : f71i N (f71c 203) f71p11 (f71s3 a b c d e f g h i j) (joinK (some f71l3) K) =
  impl_mutated.Z11 N a b c d e f g h i j (fun a b c d e f g h i j => K .nrm (f71s3 a b c d e f g h i j)) :=
 viaSeqS (fun k => impl_mutated.Z12 N a b c d e f g h i j k) (by kernel_rfl) (f71t12 N (K := seqK (fun σ => f71i N (f71c 459) .n σ (joinK (some f71l3) K)) (joinK (some f71l3) K)) ..) (fx10 fun a b c d e f g h i j => f71t30 N a b c d e f g h i j K) (by kernel_rfl)
def f71p9 : Plan := .mk (some f71l3) none .n f71p11
theorem f71t9 N a f g h i j b c d e (K : KT ρ) : f71i N (f71c 75) f71p9 (f71s3 a f g h i j b c d e) (joinK (some f71l3) K) =
  impl_mutated.Z9 N a f g h i j b c d e (fun a f g h i j b c d e => K .nrm (f71s3 a f g h i j b c d e)) (fun a b c d e => K (.exit 0) (f71s8 a b c d e)) :=
 viaSeqS (fun k => impl_mutated.Z10 N a f g h i j b c d e k (fun a b c d e => K (.exit 0) (f71s8 a b c d e))) (by kernel_rfl) (f71t10 N (K := seqK (fun σ => f71i N (f71c 203) f71p11 σ (joinK (some f71l3) K)) (joinK (some f71l3) K)) ..) (fx10 fun a f g h i j b c d e => f71t11 N a f g h i j b c d e K) (by kernel_rfl)
def f71p8 : Plan := .mk none (some f71l3) f71p9 .n
abbrev f71w8 {ρ : Type} (N M : Nat) (σ : St) (K : KT ρ) : Option ρ := loopC (fun σ K => f71i N (f71c 75) f71p9 σ K) f71l3 M σ K
theorem f71t8L {ρ : Type} (N : Nat) (K : KT ρ) : ∀ (M : Nat) (a : LI) (f g h i : Int) (j : LI) (b c d e : Int), f71w8 N M (f71s3 a f g h i j b c d e) K =
 impl_mutated.Z8L N (fun a b c d e => K (.exit 0) (f71s8 a b c d e)) M a f g h i j b c d e
 | 0, _, _, _, _, _, _, _, _, _, _ => rfl
 | M + 1, a, f, g, h, i, j, b, c, d, e => viaRoundS (fun k => impl_mutated.Z9 N a f g h i j b c d e k (fun a b c d e => K (.exit 0) (f71s8 a b c d e))) (f71t9 N (K := seqK (fun σ => f71w8 N M σ K) K) ..) (fx10 fun a f g h i j b c d e => f71t8L N K M a f g h i j b c d e) (by kernel_rfl)
theorem f71t8 N a f g h i j b c d e (K : KT ρ) : f71i N (f71c 43) f71p8 (f71s3 a f g h i j b c d e) (joinK (some f71l8) K) =
  impl_mutated.Z8 N a f g h i j b c d e (fun a b c d e => K (.exit 0) (f71s8 a b c d e)) :=
 viaLoopS (by kernel_rfl) (f71t8L N (joinK (some f71l8) K) N a f g h i j b c d e) (by kernel_rfl)
def f71p7 : Plan := .mk (some f71l8) none f71p8 .n
theorem f71t7 N a f g h i j b c d e (K : KT ρ) : f71i N (f71c 27) f71p7 (f71s3 a f g h i j b c d e) (joinK (some f71l8) K) =
  impl_mutated.Z7 N a f g h i j b c d e (fun a b c d e => K .nrm (f71s8 a b c d e)) :=
 viaBlockS (by kernel_rfl) (f71t8 N (K := blockK 0 (joinK (some f71l8) K)) ..) (by kernel_rfl)
def f71p5 : Plan := .mk (some f71l3) none .n f71p7
theorem f71t5 N a f g h i b c d e (K : KT ρ) : f71i N (f71c 11) f71p5 (f71s2 a f g h i b c d e) (joinK (some f71l8) K) =
  impl_mutated.Z5 N a f g h i b c d e (fun a b c d e => K .nrm (f71s8 a b c d e)) :=
 viaSeqS (fun k => impl_mutated.Z6 N a f g h i b c d e k) (by kernel_rfl) (f71t6 N (K := seqK (fun σ => f71i N (f71c 27) f71p7 σ (joinK (some f71l8) K)) (joinK (some f71l8) K)) ..) (fx10 fun a f j g h i b c d e => f71t7 N a f j g h i b c d e K) (by kernel_rfl)
theorem f71t31 N c a b d e (K : KT ρ) : f71i N (f71c 15) .n (f71s8 c a b d e) (joinK (some f71lE) K) =
 impl_mutated.Z31 N c a b d e (fun f a b => K .ret (f71s9 f a b)) := by kernel_rfl
def f71p4 : Plan := .mk (some f71l8) none f71p5 .n
theorem f71t4 N c f g h i a b d e (K : KT ρ) : f71i N (f71c 7) f71p4 (f71s2 c f g h i a b d e) (joinK (some f71lE) K) =
  impl_mutated.Z4 N c f g h i a b d e (fun j a b => K .ret (f71s9 j a b)) :=
 viaSeqS (fun k => impl_mutated.Z5 N c f g h i a b d e k) (by kernel_rfl) (f71t5 N (K := seqK (fun σ => f71i N (f71c 15) .n σ (joinK (some f71lE) K)) (joinK (some f71lE) K)) ..) (fx5 fun c a b d e => f71t31 N c a b d e K) (by kernel_rfl)
def f71p2 : Plan := .mk (some f71l2) none .n f71p4
theorem f71t2 N c d e f a b (K : KT ρ) : f71i N (f71c 3) f71p2 (f71s1 c d e f a b) (joinK (some f71lE) K) =
  impl_mutated.Z2 N c d e f a b (fun g a b => K .ret (f71s9 g a b)) :=
 viaSeqS (fun k => impl_mutated.Z3 N c d e f a b k) (by kernel_rfl) (f71t3 N (K := seqK (fun σ => f71i N (f71c 7) f71p4 σ (joinK (some f71lE) K)) (joinK (some f71lE) K)) ..) (fx9 fun h c d e f a b i j => f71t4 N h c d e f a b i j K) (by kernel_rfl)
def f71p0 : Plan := .mk (some f71l1) none .n f71p2
theorem f71t0 N b a (K : KT ρ) : f71i N (f71c 1) f71p0 (f71s0 b a) (joinK (some f71lE) K) =
  impl_mutated.Z0 N b a (fun e c d => K .ret (f71s9 e c d)) :=
 viaSeqS (fun k => impl_mutated.Z1 N b a k) (by kernel_rfl) (f71t1 N (K := seqK (fun σ => f71i N (f71c 3) f71p2 σ (joinK (some f71lE) K)) (joinK (some f71lE) K)) ..) (fx6 fun a f g h c d => f71t2 N a f g h c d K) (by kernel_rfl)
theorem f71m (N : Nat) (a : MT) (b : Int) : f71i N (f71c 1) f71p0 (f71s0 a b) (joinK (some f71lE) (finK tab f71sig Try.f71.results.toList)) = impl_mutated.Z0 N a b (fun c d e => some ((), ((d, (e, c)), ()))) :=
 (f71t0 N a b (finK tab f71sig Try.f71.results.toList)).trans (by kernel_rfl)
theorem f71ok (h : impl_mutated.Spec) : EntryOk Try.prog 71 e71 :=
 entry_of_code (sig := f71sig) (c := (f71c 1)) (pl := f71p0) (je := (some f71lE)) (B := f71B) Try.func71 (by kernel_rfl) (by kernel_rfl) (by kernel_rfl) tabOk f71GOk (by kernel_rfl) (by kernel_rfl) (by kernel_rfl) (by kernel_rfl) fun X hb hp => by
  obtain ⟨a, b, _⟩ := X
  obtain ⟨N, h⟩ := h a b hb.1 hp
  exact ⟨N, (f71m N a b).trans (h N (Nat.le_refl N))⟩
theorem e71ok : EntryOk Try.prog 71 e71 := f71ok impl_mutated.ok
end Go.Fw
namespace Go.Fw
variable {ρ : Type}
open Go.Proofs
def f27sig : Sig := ⟨[⟨.pair (.int .i64) (.pair (.int .i64) (.sl 3 (.int .i64))), true, false⟩, ⟨.int .i64, false, false⟩], [⟨.pair (.int .i64) (.pair (.int .i64) (.sl 3 (.int .i64))), true, false⟩, ⟨.bool, false, false⟩]⟩
def e27 : Entry := ⟨f27sig, none, fun X => ((), ((impl_MutateMatrix.g X.1 X.2.1).1, ((impl_MutateMatrix.g X.1 X.2.1).2, ())))⟩
def f27G : Gm := addG (addG (addG emptyG 31 e31) 70 e70) 71 e71
theorem f27GOk : GOk Try.prog f27G := (((GOk.nil).add e31ok (by kernel_rfl)).add e70ok (by kernel_rfl)).add e71ok (by kernel_rfl)
def f27lE : Clean := ⟨[], [], [], [], []⟩
def f27s0 (a : MT) (b : Int) : St := initSt f27sig.ps (a, (b, ()))
def f27s1 (a : LI) (b : Bool) (c d : Int) : St := stOf [(4, xb 4), (5, xB b)] [(4, (30, [yi c, yi d, .own 20000258]))] [(20000258, (⟨3, .int .i64, a, true, false⟩ : Row))]
def f27l1 : Clean := ⟨[4, 5], [4], [⟨⟨true, 4, 2⟩, 30000000, 3, .int .i64, true⟩], [], [(⟨true, 4, 2⟩, 20000258)]⟩
def f27B : Nat → Option Clean := lookL [(1000000, f27l1)]
abbrev f27i {ρ : Type} (N : Nat) (c : Code) (p : Plan) (σ : St) (K : KT ρ) : Option ρ := iCode f27G tab f27B N c p σ K
def f27c (n : Nat) : Code := codeN 99 (bodyOf Try.f27) n
theorem f27t0 N a b (K : KT ρ) : f27i N (f27c 1) .n (f27s0 a b) (joinK (some f27lE) K) =
 impl_MutateMatrix.Z0 N a b (fun c d e f => K .ret (f27s1 c d e f)) := by kernel_rfl
theorem f27m (N : Nat) (a : MT) (b : Int) : f27i N (f27c 1) .n (f27s0 a b) (joinK (some f27lE) (finK tab f27sig Try.f27.results.toList)) = impl_MutateMatrix.Z0 N a b (fun c d e f => some ((), ((e, (f, c)), (d, ())))) :=
 (f27t0 N a b (finK tab f27sig Try.f27.results.toList)).trans (by kernel_rfl)
theorem f27ok (h : impl_MutateMatrix.Spec) : EntryOk Try.prog 27 e27 :=
 entry_of_code (sig := f27sig) (c := (f27c 1)) (pl := .n) (je := (some f27lE)) (B := f27B) Try.func27 (by kernel_rfl) (by kernel_rfl) (by kernel_rfl) tabOk f27GOk (by kernel_rfl) (by kernel_rfl) (by kernel_rfl) (by kernel_rfl) fun X hb hp => by
  obtain ⟨a, b, _⟩ := X
  obtain ⟨N, h⟩ := h a b hb.1
  exact ⟨N, (f27m N a b).trans (h N (Nat.le_refl N))⟩
theorem e27ok : EntryOk Try.prog 27 e27 := f27ok impl_MutateMatrix.ok
end Go.Fw
namespace Go.Fw
variable {ρ : Type}
open Go.Proofs
def f29sig : Sig := ⟨[⟨.pair (.int .i64) (.pair (.int .i64) (.sl 3 (.int .i64))), true, false⟩], [⟨.sl 3 (.int .i64), false, false⟩]⟩
def e29 : Entry := ⟨f29sig, none, fun X => ((), ((impl_SymmetrizerOf.g X.1), ()))⟩
def f29G : Gm := addG (addG emptyG 75 e75) 76 e76
theorem f29GOk : GOk Try.prog f29G := ((GOk.nil).add e75ok (by kernel_rfl)).add e76ok (by kernel_rfl)
def f29lE : Clean := ⟨[], [], [], [], []⟩
def f29s0 (a : MT) : St := initSt f29sig.ps (a, ())
def f29s1 (a : LI) : St := stOf [(2, xo 1000128)] [] [(1000128, (⟨3, .int .i64, a, true, false⟩ : Row))]
def f29l1 : Clean := ⟨[2], [], [⟨⟨false, 2, 0⟩, 30000000, 3, .int .i64, true⟩], [], [(⟨false, 2, 0⟩, 1000128)]⟩
def f29B : Nat → Option Clean := lookL [(1000000, f29l1)]
abbrev f29i {ρ : Type} (N : Nat) (c : Code) (p : Plan) (σ : St) (K : KT ρ) : Option ρ := iCode f29G tab f29B N c p σ K
def f29c (n : Nat) : Code := codeN 99 (bodyOf Try.f29) n
theorem f29t0 N a (K : KT ρ) : f29i N (f29c 1) .n (f29s0 a) (joinK (some f29lE) K) =
 impl_SymmetrizerOf.Z0 N a (fun b => K .ret (f29s1 b)) := by kernel_rfl
theorem f29m (N : Nat) (a : MT) : f29i N (f29c 1) .n (f29s0 a) (joinK (some f29lE) (finK tab f29sig Try.f29.results.toList)) = impl_SymmetrizerOf.Z0 N a (fun b => some ((), (b, ()))) :=
 (f29t0 N a (finK tab f29sig Try.f29.results.toList)).trans (by kernel_rfl)
theorem f29ok (h : impl_SymmetrizerOf.Spec) : EntryOk Try.prog 29 e29 :=
 entry_of_code (sig := f29sig) (c := (f29c 1)) (pl := .n) (je := (some f29lE)) (B := f29B) Try.func29 (by kernel_rfl) (by kernel_rfl) (by kernel_rfl) tabOk f29GOk (by kernel_rfl) (by kernel_rfl) (by kernel_rfl) (by kernel_rfl) fun X hb hp => by
  obtain ⟨a, _⟩ := X
  obtain ⟨N, h⟩ := h a hb.1
  exact ⟨N, (f29m N a).trans (h N (Nat.le_refl N))⟩
theorem e29ok : EntryOk Try.prog 29 e29 := f29ok impl_SymmetrizerOf.ok
end Go.Fw
namespace Go.Fw
variable {ρ : Type}
open Go.Proofs
def f32sig : Sig := ⟨[⟨.sl 3 (.int .i64), false, false⟩, ⟨.sl 3 (.int .i64), false, false⟩], [⟨.bool, false, false⟩]⟩
def e32 : Entry := ⟨f32sig, none, fun X => ((), ((laws_ints.g X.1 X.2.1), ()))⟩
def f32G : Gm := emptyG
theorem f32GOk : GOk Try.prog f32G := GOk.nil
def f32lE : Clean := ⟨[], [], [], [], []⟩
def f32s0 (a b : LI) : St := initSt f32sig.ps (a, (b, ()))
def f32s1 (a b : LI) : St := stOf [(0, .c (.sn 3 tI a none)), (1, .c (.sn 3 tI b none))] [] []
def f32l1 : Clean := ⟨[0, 1], [], [], [], []⟩
def f32s2 (a b : LI) (d : Int) : St := stOf [(0, .c (.sn 3 tI a none)), (1, .c (.sn 3 tI b none)), (5, xi d)] [] []
def f32l2 : Clean := ⟨[0, 1, 5], [], [], [], []⟩
def f32s3  : St := stOf [] [] []
def f32l3 : Clean := ⟨[], [], [], [], []⟩
def f32s4 (a : Bool) : St := stOf [(4, xB a)] [] []
def f32l4 : Clean := ⟨[4], [], [], [], []⟩
def f32B : Nat → Option Clean := lookL [(0, f32l3), (1000000, f32l4)]
abbrev f32i {ρ : Type} (N : Nat) (c : Code) (p : Plan) (σ : St) (K : KT ρ) : Option ρ := iCode f32G tab f32B N c p σ K
def f32c (n : Nat) : Code := codeN 99 (bodyOf Try.f32) n
theorem f32t1 N a b (K : KT ρ) : f32i N (f32c 2) .n (f32s0 a b) (joinK (some f32l1) K) =
 laws_ints.Z1 N a b (fun a b => K .nrm (f32s1 a b)) := by kernel_rfl
theorem f32t3 N a b (K : KT ρ) : f32i N (f32c 5) .n (f32s1 a b) (joinK (some f32l1) K) =
 laws_ints.Z3 N a b (fun a b => K .nrm (f32s1 a b)) (fun c => K .ret (f32s4 c)) := by kernel_rfl
theorem f32t6 N a b (K : KT ρ) : f32i N (f32c 19) .n (f32s1 a b) (joinK (some f32l2) K) =
 laws_ints.Z6 N a b (fun a b c => K .nrm (f32s2 a b c)) := by kernel_rfl
theorem f32t9 N a b c (K : KT ρ) : f32i N (f32c 75) .n (f32s2 a b c) (joinK (some f32l2) K) =
 laws_ints.Z9 N a b c (fun a b c => K .nrm (f32s2 a b c)) (K (.exit 0) f32s3) (fun d => K .ret (f32s4 d)) := by kernel_rfl
def f32p8 : Plan := .mk none (some f32l2) .n .n
abbrev f32w8 {ρ : Type} (N M : Nat) (σ : St) (K : KT ρ) : Option ρ := loopC (fun σ K => f32i N (f32c 75) .n σ K) f32l2 M σ K
theorem f32t8L {ρ : Type} (N : Nat) (K : KT ρ) : ∀ (M : Nat) (a b : LI) (c : Int), f32w8 N M (f32s2 a b c) K =
 laws_ints.Z8L N (K (.exit 0) f32s3) (fun d => K .ret (f32s4 d)) M a b c
 | 0, _, _, _ => rfl
 | M + 1, a, b, c => viaRoundS (fun k => laws_ints.Z9 N a b c k (K (.exit 0) f32s3) (fun d => K .ret (f32s4 d))) (f32t9 N (K := seqK (fun σ => f32w8 N M σ K) K) ..) (fx3 fun a b c => f32t8L N K M a b c) (by kernel_rfl)
theorem f32t8 N a b c (K : KT ρ) : f32i N (f32c 43) f32p8 (f32s2 a b c) (joinK (some f32l3) K) =
  laws_ints.Z8 N a b c (K (.exit 0) f32s3) (fun d => K .ret (f32s4 d)) :=
 viaLoopS (by kernel_rfl) (f32t8L N (joinK (some f32l3) K) N a b c) (by kernel_rfl)
def f32p7 : Plan := .mk (some f32l3) none f32p8 .n
theorem f32t7 N a b c (K : KT ρ) : f32i N (f32c 27) f32p7 (f32s2 a b c) (joinK (some f32l3) K) =
  laws_ints.Z7 N a b c (K .nrm f32s3) (fun d => K .ret (f32s4 d)) :=
 viaBlockS (by kernel_rfl) (f32t8 N (K := blockK 0 (joinK (some f32l3) K)) ..) (by kernel_rfl)
def f32p5 : Plan := .mk (some f32l2) none .n f32p7
theorem f32t5 N a b (K : KT ρ) : f32i N (f32c 11) f32p5 (f32s1 a b) (joinK (some f32l3) K) =
  laws_ints.Z5 N a b (K .nrm f32s3) (fun c => K .ret (f32s4 c)) :=
 viaSeqS (fun k => laws_ints.Z6 N a b k) (by kernel_rfl) (f32t6 N (K := seqK (fun σ => f32i N (f32c 27) f32p7 σ (joinK (some f32l3) K)) (joinK (some f32l3) K)) ..) (fx3 fun a b d => f32t7 N a b d K) (by kernel_rfl)
theorem f32t10 N  (K : KT ρ) : f32i N (f32c 15) .n f32s3 (joinK (some f32lE) K) =
 laws_ints.Z10 N (fun a => K .ret (f32s4 a)) := by kernel_rfl
def f32p4 : Plan := .mk (some f32l3) none f32p5 .n
theorem f32t4 N a b (K : KT ρ) : f32i N (f32c 7) f32p4 (f32s1 a b) (joinK (some f32lE) K) =
  laws_ints.Z4 N a b (fun c => K .ret (f32s4 c)) :=
 viaSeqS (fun k => laws_ints.Z5 N a b k (fun c => K .ret (f32s4 c))) (by kernel_rfl) (f32t5 N (K := seqK (fun σ => f32i N (f32c 15) .n σ (joinK (some f32lE) K)) (joinK (some f32lE) K)) ..) (f32t10 N K) (by kernel_rfl)
def f32p2 : Plan := .mk (some f32l1) none .n f32p4
theorem f32t2 N a b (K : KT ρ) : f32i N (f32c 3) f32p2 (f32s1 a b) (joinK (some f32lE) K) =
  laws_ints.Z2 N a b (fun c => K .ret (f32s4 c)) :=
 viaSeqS (fun k => laws_ints.Z3 N a b k (fun c => K .ret (f32s4 c))) (by kernel_rfl) (f32t3 N (K := seqK (fun σ => f32i N (f32c 7) f32p4 σ (joinK (some f32lE) K)) (joinK (some f32lE) K)) ..) (fx2 fun a b => f32t4 N a b K) (by kernel_rfl)
def f32p0 : Plan := .mk (some f32l1) none .n f32p2
theorem f32t0 N a b (K : KT ρ) : f32i N (f32c 1) f32p0 (f32s0 a b) (joinK (some f32lE) K) =
  laws_ints.Z0 N a b (fun c => K .ret (f32s4 c)) :=
 viaSeqS (fun k => laws_ints.Z1 N a b k) (by kernel_rfl) (f32t1 N (K := seqK (fun σ => f32i N (f32c 3) f32p2 σ (joinK (some f32lE) K)) (joinK (some f32lE) K)) ..) (fx2 fun a b => f32t2 N a b K) (by kernel_rfl)
theorem f32m (N : Nat) (a b : LI) : f32i N (f32c 1) f32p0 (f32s0 a b) (joinK (some f32lE) (finK tab f32sig Try.f32.results.toList)) = laws_ints.Z0 N a b (fun c => some ((), (c, ()))) :=
 (f32t0 N a b (finK tab f32sig Try.f32.results.toList)).trans (by kernel_rfl)
theorem f32ok (h : laws_ints.Spec) : EntryOk Try.prog 32 e32 :=
 entry_of_code (sig := f32sig) (c := (f32c 1)) (pl := f32p0) (je := (some f32lE)) (B := f32B) Try.func32 (by kernel_rfl) (by kernel_rfl) (by kernel_rfl) tabOk f32GOk (by kernel_rfl) (by kernel_rfl) (by kernel_rfl) (by kernel_rfl) fun X hb hp => by
  obtain ⟨a, b, _⟩ := X
  obtain ⟨N, h⟩ := h a b hb.1 hb.2.1
  exact ⟨N, (f32m N a b).trans (h N (Nat.le_refl N))⟩
theorem e32ok : EntryOk Try.prog 32 e32 := f32ok laws_ints.ok
end Go.Fw
namespace Go.Fw
variable {ρ : Type}
open Go.Proofs
def f30sig : Sig := ⟨[⟨.pair (.int .i64) (.pair (.int .i64) (.sl 3 (.int .i64))), true, false⟩, ⟨.pair (.int .i64) (.pair (.int .i64) (.sl 3 (.int .i64))), true, false⟩], [⟨.bool, false, false⟩]⟩
def e30 : Entry := ⟨f30sig, none, fun X => ((), ((laws_matrices.g X.1 X.2.1), ()))⟩
def f30G : Gm := addG emptyG 32 e32
theorem f30GOk : GOk Try.prog f30G := (GOk.nil).add e32ok (by kernel_rfl)
def f30lE : Clean := ⟨[], [], [], [], []⟩
def f30s0 (a b : MT) : St := initSt f30sig.ps (a, (b, ()))
def f30s1 (a : Bool) : St := stOf [(4, xB a)] [] []
def f30l1 : Clean := ⟨[4], [], [], [], []⟩
def f30B : Nat → Option Clean := lookL [(1000000, f30l1)]
abbrev f30i {ρ : Type} (N : Nat) (c : Code) (p : Plan) (σ : St) (K : KT ρ) : Option ρ := iCode f30G tab f30B N c p σ K
def f30c (n : Nat) : Code := codeN 99 (bodyOf Try.f30) n
theorem f30t0 N a b (K : KT ρ) : f30i N (f30c 1) .n (f30s0 a b) (joinK (some f30lE) K) =
 laws_matrices.Z0 N a b (fun c => K .ret (f30s1 c)) := by kernel_rfl
theorem f30m (N : Nat) (a b : MT) : f30i N (f30c 1) .n (f30s0 a b) (joinK (some f30lE) (finK tab f30sig Try.f30.results.toList)) = laws_matrices.Z0 N a b (fun c => some ((), (c, ()))) :=
 (f30t0 N a b (finK tab f30sig Try.f30.results.toList)).trans (by kernel_rfl)
theorem f30ok (h : laws_matrices.Spec) : EntryOk Try.prog 30 e30 :=
 entry_of_code (sig := f30sig) (c := (f30c 1)) (pl := .n) (je := (some f30lE)) (B := f30B) Try.func30 (by kernel_rfl) (by kernel_rfl) (by kernel_rfl) tabOk f30GOk (by kernel_rfl) (by kernel_rfl) (by kernel_rfl) (by kernel_rfl) fun X hb hp => by
  obtain ⟨a, b, _⟩ := X
  obtain ⟨N, h⟩ := h a b hb.1 hb.2.1
  exact ⟨N, (f30m N a b).trans (h N (Nat.le_refl N))⟩
theorem e30ok : EntryOk Try.prog 30 e30 := f30ok laws_matrices.ok
end Go.Fw
namespace Go.Fw
variable {ρ : Type}
open Go.Proofs
def f33sig : Sig := ⟨[⟨.pair (.int .i64) (.pair (.int .i64) (.sl 3 (.int .i64))), true, false⟩, ⟨.int .i64, false, false⟩, ⟨.int .i64, false, false⟩], [⟨.int .i64, false, false⟩]⟩
def e33 : Entry := ⟨f33sig, (some fun X => laws_entry.P X.1 X.2.1 X.2.2.1), fun X => ((), ((laws_entry.g X.1 X.2.1 X.2.2.1), ()))⟩
def f33G : Gm := emptyG
theorem f33GOk : GOk Try.prog f33G := GOk.nil
def f33lE : Clean := ⟨[], [], [], [], []⟩
def f33s0 (a : MT) (b c : Int) : St := initSt f33sig.ps (a, (b, (c, ())))
def f33s1 (a : Int) : St := stOf [(6, xi a)] [] []
def f33l1 : Clean := ⟨[6], [], [], [], []⟩
def f33B : Nat → Option Clean := lookL [(1000000, f33l1)]
abbrev f33i {ρ : Type} (N : Nat) (c : Code) (p : Plan) (σ : St) (K : KT ρ) : Option ρ := iCode f33G tab f33B N c p σ K
def f33c (n : Nat) : Code := codeN 99 (bodyOf Try.f33) n
theorem f33t0 N a b c (K : KT ρ) : f33i N (f33c 1) .n (f33s0 a b c) (joinK (some f33lE) K) =
 laws_entry.Z0 N a b c (fun d => K .ret (f33s1 d)) := by kernel_rfl
theorem f33m (N : Nat) (a : MT) (b c : Int) : f33i N (f33c 1) .n (f33s0 a b c) (joinK (some f33lE) (finK tab f33sig Try.f33.results.toList)) = laws_entry.Z0 N a b c (fun d => some ((), (d, ()))) :=
 (f33t0 N a b c (finK tab f33sig Try.f33.results.toList)).trans (by kernel_rfl)
theorem f33ok (h : laws_entry.Spec) : EntryOk Try.prog 33 e33 :=
 entry_of_code (sig := f33sig) (c := (f33c 1)) (pl := .n) (je := (some f33lE)) (B := f33B) Try.func33 (by kernel_rfl) (by kernel_rfl) (by kernel_rfl) tabOk f33GOk (by kernel_rfl) (by kernel_rfl) (by kernel_rfl) (by kernel_rfl) fun X hb hp => by
  obtain ⟨a, b, d, _⟩ := X
  obtain ⟨N, h⟩ := h a b d hb.1 hp
  exact ⟨N, (f33m N a b d).trans (h N (Nat.le_refl N))⟩
theorem e33ok : EntryOk Try.prog 33 e33 := f33ok laws_entry.ok
end Go.Fw
namespace Go.Fw
variable {ρ : Type}
open Go.Proofs
def f5sig : Sig := ⟨[⟨.sl 5 (.int .u8), false, false⟩], [⟨.bool, false, false⟩]⟩
def e5 : Entry := ⟨f5sig, none, fun X => ((), ((laws_FnMutatesBack.g X.1), ()))⟩
def f5G : Gm := addG (addG (addG (addG (addG (addG (addG (addG (addG emptyG 25 e25) 26 e26) 27 e27) 28 e28) 29 e29) 30 e30) 31 e31) 32 e32) 33 e33
theorem f5GOk : GOk Try.prog f5G := (((((((((GOk.nil).add e25ok (by kernel_rfl)).add e26ok (by kernel_rfl)).add e27ok (by kernel_rfl)).add e28ok (by kernel_rfl)).add e29ok (by kernel_rfl)).add e30ok (by kernel_rfl)).add e31ok (by kernel_rfl)).add e32ok (by kernel_rfl)).add e33ok (by kernel_rfl)
def f5lE : Clean := ⟨[], [], [], [], []⟩
def f5s0 (a : List Int) : St := initSt f5sig.ps (a, ())
def f5s1 (a : List Int) : St := stOf [(0, .c (.sn 5 (.int .u8) a none))] [] []
def f5l1 : Clean := ⟨[0], [], [], [], []⟩
def f5s2 (a : LI) (b c d : Int) : St := stOf [(3, xb 3), (5, xi b)] [(3, (30, [yi c, yi d, .own 20000194]))] [(20000194, (⟨3, .int .i64, a, true, false⟩ : Row))]
def f5l2 : Clean := ⟨[3, 5], [3], [], [], [(⟨true, 3, 2⟩, 20000194)]⟩
def f5s3 (a b : LI) (c : Int) (d : Bool) (e f g h : Int) : St := stOf [(3, xb 3), (5, xi c), (6, xb 6), (7, xB d)] [(3, (30, [yi e, yi f, .own 20000194])), (6, (30, [yi g, yi h, .own 20000386]))] [(20000194, (⟨3, .int .i64, a, true, false⟩ : Row)), (20000386, (⟨3, .int .i64, b, true, false⟩ : Row))]
def f5l3 : Clean := ⟨[3, 5, 6, 7], [3, 6], [], [], [(⟨true, 3, 2⟩, 20000194), (⟨true, 6, 2⟩, 20000386)]⟩
def f5s4 (a b : LI) (c d e f g : Int) : St := stOf [(3, xb 3), (5, xi c), (6, xb 6)] [(3, (30, [yi d, yi e, .own 20000194])), (6, (30, [yi f, yi g, .own 20000386]))] [(20000194, (⟨3, .int .i64, a, true, false⟩ : Row)), (20000386, (⟨3, .int .i64, b, true, false⟩ : Row))]
def f5l4 : Clean := ⟨[3, 5, 6], [3, 6], [], [], [(⟨true, 3, 2⟩, 20000194), (⟨true, 6, 2⟩, 20000386)]⟩
def f5s5 (a b c : LI) (d : Bool) (e f g h i j : Int) : St := stOf [(3, xb 3), (6, xb 6), (10, xb 10), (11, xB d)] [(3, (30, [yi e, yi f, .own 20000194])), (6, (30, [yi g, yi h, .own 20000386])), (10, (30, [yi i, yi j, .own 20000642]))] [(20000194, (⟨3, .int .i64, a, true, false⟩ : Row)), (20000386, (⟨3, .int .i64, b, true, false⟩ : Row)), (20000642, (⟨3, .int .i64, c, true, false⟩ : Row))]
def f5l5 : Clean := ⟨[3, 6, 10, 11], [3, 6, 10], [], [], [(⟨true, 3, 2⟩, 20000194), (⟨true, 6, 2⟩, 20000386), (⟨true, 10, 2⟩, 20000642)]⟩
def f5s6 (a b c d : LI) (e : Bool) (f g h i j l : Int) : St := stOf [(3, xb 3), (6, xb 6), (10, xb 10), (11, xB e), (12, xo 1000768)] [(3, (30, [yi f, yi g, .own 20000194])), (6, (30, [yi h, yi i, .own 20000386])), (10, (30, [yi j, yi l, .own 20000642]))] [(1000768, (⟨3, .int .i64, a, true, false⟩ : Row)), (20000194, (⟨3, .int .i64, b, true, false⟩ : Row)), (20000386, (⟨3, .int .i64, c, true, false⟩ : Row)), (20000642, (⟨3, .int .i64, d, true, false⟩ : Row))]
def f5l6 : Clean := ⟨[3, 6, 10, 11, 12], [3, 6, 10], [], [], [(⟨false, 12, 0⟩, 1000768), (⟨true, 3, 2⟩, 20000194), (⟨true, 6, 2⟩, 20000386), (⟨true, 10, 2⟩, 20000642)]⟩
def f5s7 (a b c : LI) (d e f g : Int) : St := stOf [(3, xb 3), (6, xb 6), (12, xo 1000768)] [(3, (30, [yi d, yi e, .own 20000194])), (6, (30, [yi f, yi g, .own 20000386]))] [(1000768, (⟨3, .int .i64, a, true, false⟩ : Row)), (20000194, (⟨3, .int .i64, b, true, false⟩ : Row)), (20000386, (⟨3, .int .i64, c, true, false⟩ : Row))]
def f5l7 : Clean := ⟨[3, 6, 12], [3, 6], [], [], [(⟨false, 12, 0⟩, 1000768), (⟨true, 3, 2⟩, 20000194), (⟨true, 6, 2⟩, 20000386)]⟩
def f5s8 (a b c : LI) (d e f g h : Int) : St := stOf [(3, xb 3), (6, xb 6), (12, xo 1000768), (13, xi d)] [(3, (30, [yi e, yi f, .own 20000194])), (6, (30, [yi g, yi h, .own 20000386]))] [(1000768, (⟨3, .int .i64, a, true, false⟩ : Row)), (20000194, (⟨3, .int .i64, b, true, false⟩ : Row)), (20000386, (⟨3, .int .i64, c, true, false⟩ : Row))]
def f5l8 : Clean := ⟨[3, 6, 12, 13], [3, 6], [], [], [(⟨false, 12, 0⟩, 1000768), (⟨true, 3, 2⟩, 20000194), (⟨true, 6, 2⟩, 20000386)]⟩
def f5s9 (a b c : LI) (d e f g h i : Int) : St := stOf [(3, xb 3), (6, xb 6), (12, xo 1000768), (13, xi d), (14, xi e)] [(3, (30, [yi f, yi g, .own 20000194])), (6, (30, [yi h, yi i, .own 20000386]))] [(1000768, (⟨3, .int .i64, a, true, false⟩ : Row)), (20000194, (⟨3, .int .i64, b, true, false⟩ : Row)), (20000386, (⟨3, .int .i64, c, true, false⟩ : Row))]
def f5l9 : Clean := ⟨[3, 6, 12, 13, 14], [3, 6], [], [], [(⟨false, 12, 0⟩, 1000768), (⟨true, 3, 2⟩, 20000194), (⟨true, 6, 2⟩, 20000386)]⟩
def f5s10  : St := stOf [] [] []
def f5l10 : Clean := ⟨[], [], [], [], []⟩
def f5s11 (a : Bool) : St := stOf [(2, xB a)] [] []
def f5l11 : Clean := ⟨[2], [], [], [], []⟩
def f5B : Nat → Option Clean := lookL [(2, f5l8), (1, f5l8), (0, f5l10), (1000000, f5l11)]
abbrev f5i {ρ : Type} (N : Nat) (c : Code) (p : Plan) (σ : St) (K : KT ρ) : Option ρ := iCode f5G tab f5B N c p σ K
def f5c (n : Nat) : Code := codeN 99 (bodyOf Try.f5) n
theorem f5t1 N a (K : KT ρ) : f5i N (f5c 2) .n (f5s0 a) (joinK (some f5l1) K) =
 laws_FnMutatesBack.Z1 N a (fun a => K .nrm (f5s1 a)) := by kernel_rfl
theorem f5t3 N a (K : KT ρ) : f5i N (f5c 5) .n (f5s1 a) (joinK (some f5l1) K) =
 laws_FnMutatesBack.Z3 N a (fun a => K .nrm (f5s1 a)) (fun b => K .ret (f5s11 b)) := by kernel_rfl
theorem f5t5 N a (K : KT ρ) : f5i N (f5c 11) .n (f5s1 a) (joinK (some f5l2) K) =
 laws_FnMutatesBack.Z5 N a (fun b c d e => K .nrm (f5s2 b c d e)) := by kernel_rfl
theorem f5t7 N a b c d (K : KT ρ) : f5i N (f5c 23) .n (f5s2 a b c d) (joinK (some f5l3) K) =
 laws_FnMutatesBack.Z7 N a b c d (fun a e b f c d g h => K .nrm (f5s3 a e b f c d g h)) := by kernel_rfl
theorem f5t9 N a b c h d e f g (K : KT ρ) : f5i N (f5c 47) .n (f5s3 a b c h d e f g) (joinK (some f5l4) K) =
 laws_FnMutatesBack.Z9 N a b c h d e f g (fun a b c d e f g => K .nrm (f5s4 a b c d e f g)) (fun i => K .ret (f5s11 i)) := by kernel_rfl
theorem f5t11 N a b g c d e f (K : KT ρ) : f5i N (f5c 95) .n (f5s4 a b g c d e f) (joinK (some f5l5) K) =
 laws_FnMutatesBack.Z11 N a b g c d e f (fun a b h i c d e f j l => K .nrm (f5s5 a b h i c d e f j l)) := by kernel_rfl
theorem f5t13 N a b c d e f g h i j (K : KT ρ) : f5i N (f5c 191) .n (f5s5 a b c d e f g h i j) (joinK (some f5l6) K) =
 laws_FnMutatesBack.Z13 N a b c d e f g h i j (fun l a b c d e f g h i j => K .nrm (f5s6 l a b c d e f g h i j)) := by kernel_rfl
theorem f5t15 N a b c h i d e f g j l (K : KT ρ) : f5i N (f5c 383) .n (f5s6 a b c h i d e f g j l) (joinK (some f5l7) K) =
 laws_FnMutatesBack.Z15 N a b c h i d e f g j l (fun a b c d e f g => K .nrm (f5s7 a b c d e f g)) (fun m => K .ret (f5s11 m)) := by kernel_rfl
theorem f5t18 N a b c d e f g (K : KT ρ) : f5i N (f5c 1279) .n (f5s7 a b c d e f g) (joinK (some f5l8) K) =
 laws_FnMutatesBack.Z18 N a b c d e f g (fun a b c h d e f g => K .nrm (f5s8 a b c h d e f g)) := by kernel_rfl
theorem f5t22 N a b c d e f g h (K : KT ρ) : f5i N (f5c 8959) .n (f5s8 a b c d e f g h) (joinK (some f5l8) K) =
 laws_FnMutatesBack.Z22 N a b c d e f g h (fun a b c d e f g h => K .nrm (f5s8 a b c d e f g h)) (K (.exit 0) f5s10) := by kernel_rfl
theorem f5t26 N a b c d e f g h (K : KT ρ) : f5i N (f5c 70399) .n (f5s8 a b c d e f g h) (joinK (some f5l9) K) =
 laws_FnMutatesBack.Z26 N a b c d e f g h (fun a b c d i e f g h => K .nrm (f5s9 a b c d i e f g h)) := by kernel_rfl
theorem f5t29 N a b c d i e f g h (K : KT ρ) : f5i N (f5c 299775) .n (f5s9 a b c d i e f g h) (joinK (some f5l9) K) =
 laws_FnMutatesBack.Z29 N a b c d i e f g h (fun a b c d i e f g h => K .nrm (f5s9 a b c d i e f g h)) (fun a b c d e f g h => K (.exit 2) (f5s8 a b c d e f g h)) (fun j => K .ret (f5s11 j)) := by kernel_rfl
def f5p28 : Plan := .mk none (some f5l9) .n .n
abbrev f5w28 {ρ : Type} (N M : Nat) (σ : St) (K : KT ρ) : Option ρ := loopC (fun σ K => f5i N (f5c 299775) .n σ K) f5l9 M σ K
theorem f5t28L {ρ : Type} (N : Nat) (K : KT ρ) : ∀ (M : Nat) (a b c : LI) (d i e f g h : Int), f5w28 N M (f5s9 a b c d i e f g h) K =
 laws_FnMutatesBack.Z28L N (fun a b c d e f g h => K (.exit 2) (f5s8 a b c d e f g h)) (fun j => K .ret (f5s11 j)) M a b c d i e f g h
 | 0, _, _, _, _, _, _, _, _, _ => rfl
 | M + 1, a, b, c, d, i, e, f, g, h => viaRoundS (fun k => laws_FnMutatesBack.Z29 N a b c d i e f g h k (fun a b c d e f g h => K (.exit 2) (f5s8 a b c d e f g h)) (fun j => K .ret (f5s11 j))) (f5t29 N (K := seqK (fun σ => f5w28 N M σ K) K) ..) (fx9 fun a b c d i e f g h => f5t28L N K M a b c d i e f g h) (by kernel_rfl)
theorem f5t28 N a b c d i e f g h (K : KT ρ) : f5i N (f5c 168703) f5p28 (f5s9 a b c d i e f g h) (joinK (some f5l8) K) =
  laws_FnMutatesBack.Z28 N a b c d i e f g h (fun a b c d e f g h => K (.exit 2) (f5s8 a b c d e f g h)) (fun j => K .ret (f5s11 j)) :=
 viaLoopS (by kernel_rfl) (f5t28L N (joinK (some f5l8) K) N a b c d i e f g h) (by kernel_rfl)
def f5p27 : Plan := .mk (some f5l8) none f5p28 .n
theorem f5t27 N a b c d i e f g h (K : KT ρ) : f5i N (f5c 103167) f5p27 (f5s9 a b c d i e f g h) (joinK (some f5l8) K) =
  laws_FnMutatesBack.Z27 N a b c d i e f g h (fun a b c d e f g h => K .nrm (f5s8 a b c d e f g h)) (fun j => K .ret (f5s11 j)) :=
 viaBlockS (by kernel_rfl) (f5t28 N (K := blockK 2 (joinK (some f5l8) K)) ..) (by kernel_rfl)
def f5p25 : Plan := .mk (some f5l9) none .n f5p27
theorem f5t25 N a b c d e f g h (K : KT ρ) : f5i N (f5c 37631) f5p25 (f5s8 a b c d e f g h) (joinK (some f5l8) K) =
  laws_FnMutatesBack.Z25 N a b c d e f g h (fun a b c d e f g h => K .nrm (f5s8 a b c d e f g h)) (fun i => K .ret (f5s11 i)) :=
 viaSeqS (fun k => laws_FnMutatesBack.Z26 N a b c d e f g h k) (by kernel_rfl) (f5t26 N (K := seqK (fun σ => f5i N (f5c 103167) f5p27 σ (joinK (some f5l8) K)) (joinK (some f5l8) K)) ..) (fx9 fun a b c d j e f g h => f5t27 N a b c d j e f g h K) (by kernel_rfl)
def f5p24 : Plan := .mk (some f5l8) none f5p25 .n
theorem f5t24 N a b c d e f g h (K : KT ρ) : f5i N (f5c 21247) f5p24 (f5s8 a b c d e f g h) (joinK (some f5l8) K) =
  laws_FnMutatesBack.Z24 N a b c d e f g h (fun a b c d e f g h => K .nrm (f5s8 a b c d e f g h)) (fun i => K .ret (f5s11 i)) :=
 viaBlockS (by kernel_rfl) (f5t25 N (K := blockK 1 (joinK (some f5l8) K)) ..) (by kernel_rfl)
theorem f5t30 N a b c d e f g h (K : KT ρ) : f5i N (f5c 29439) .n (f5s8 a b c d e f g h) (joinK (some f5l8) K) =
 laws_FnMutatesBack.Z30 N a b c d e f g h (fun a b c d e f g h => K .nrm (f5s8 a b c d e f g h)) := by kernel_rfl
def f5p23 : Plan := .mk (some f5l8) none f5p24 .n
theorem f5t23 N a b c d e f g h (K : KT ρ) : f5i N (f5c 13055) f5p23 (f5s8 a b c d e f g h) (joinK (some f5l8) K) =
  laws_FnMutatesBack.Z23 N a b c d e f g h (fun a b c d e f g h => K .nrm (f5s8 a b c d e f g h)) (fun i => K .ret (f5s11 i)) :=
 viaSeqS (fun k => laws_FnMutatesBack.Z24 N a b c d e f g h k (fun i => K .ret (f5s11 i))) (by kernel_rfl) (f5t24 N (K := seqK (fun σ => f5i N (f5c 29439) .n σ (joinK (some f5l8) K)) (joinK (some f5l8) K)) ..) (fx8 fun a b c d e f g h => f5t30 N a b c d e f g h K) (by kernel_rfl)
def f5p21 : Plan := .mk (some f5l8) none .n f5p23
theorem f5t21 N a b c d e f g h (K : KT ρ) : f5i N (f5c 4863) f5p21 (f5s8 a b c d e f g h) (joinK (some f5l8) K) =
  laws_FnMutatesBack.Z21 N a b c d e f g h (fun a b c d e f g h => K .nrm (f5s8 a b c d e f g h)) (K (.exit 0) f5s10) (fun i => K .ret (f5s11 i)) :=
 viaSeqS (fun k => laws_FnMutatesBack.Z22 N a b c d e f g h k (K (.exit 0) f5s10)) (by kernel_rfl) (f5t22 N (K := seqK (fun σ => f5i N (f5c 13055) f5p23 σ (joinK (some f5l8) K)) (joinK (some f5l8) K)) ..) (fx8 fun a b c d e f g h => f5t23 N a b c d e f g h K) (by kernel_rfl)
def f5p20 : Plan := .mk none (some f5l8) f5p21 .n
abbrev f5w20 {ρ : Type} (N M : Nat) (σ : St) (K : KT ρ) : Option ρ := loopC (fun σ K => f5i N (f5c 4863) f5p21 σ K) f5l8 M σ K
theorem f5t20L {ρ : Type} (N : Nat) (K : KT ρ) : ∀ (M : Nat) (a b c : LI) (d e f g h : Int), f5w20 N M (f5s8 a b c d e f g h) K =
 laws_FnMutatesBack.Z20L N (K (.exit 0) f5s10) (fun i => K .ret (f5s11 i)) M a b c d e f g h
 | 0, _, _, _, _, _, _, _, _ => rfl
 | M + 1, a, b, c, d, e, f, g, h => viaRoundS (fun k => laws_FnMutatesBack.Z21 N a b c d e f g h k (K (.exit 0) f5s10) (fun i => K .ret (f5s11 i))) (f5t21 N (K := seqK (fun σ => f5w20 N M σ K) K) ..) (fx8 fun a b c d e f g h => f5t20L N K M a b c d e f g h) (by kernel_rfl)
theorem f5t20 N a b c d e f g h (K : KT ρ) : f5i N (f5c 2815) f5p20 (f5s8 a b c d e f g h) (joinK (some f5l10) K) =
  laws_FnMutatesBack.Z20 N a b c d e f g h (K (.exit 0) f5s10) (fun i => K .ret (f5s11 i)) :=
 viaLoopS (by kernel_rfl) (f5t20L N (joinK (some f5l10) K) N a b c d e f g h) (by kernel_rfl)
def f5p19 : Plan := .mk (some f5l10) none f5p20 .n
theorem f5t19 N a b c d e f g h (K : KT ρ) : f5i N (f5c 1791) f5p19 (f5s8 a b c d e f g h) (joinK (some f5l10) K) =
  laws_FnMutatesBack.Z19 N a b c d e f g h (K .nrm f5s10) (fun i => K .ret (f5s11 i)) :=
 viaBlockS (by kernel_rfl) (f5t20 N (K := blockK 0 (joinK (some f5l10) K)) ..) (by kernel_rfl)
def f5p17 : Plan := .mk (some f5l8) none .n f5p19
theorem f5t17 N a b c d e f g (K : KT ρ) : f5i N (f5c 767) f5p17 (f5s7 a b c d e f g) (joinK (some f5l10) K) =
  laws_FnMutatesBack.Z17 N a b c d e f g (K .nrm f5s10) (fun h => K .ret (f5s11 h)) :=
 viaSeqS (fun k => laws_FnMutatesBack.Z18 N a b c d e f g k) (by kernel_rfl) (f5t18 N (K := seqK (fun σ => f5i N (f5c 1791) f5p19 σ (joinK (some f5l10) K)) (joinK (some f5l10) K)) ..) (fx8 fun a b c i d e f g => f5t19 N a b c i d e f g K) (by kernel_rfl)
theorem f5t31 N  (K : KT ρ) : f5i N (f5c 1023) .n f5s10 (joinK (some f5lE) K) =
 laws_FnMutatesBack.Z31 N (fun a => K .ret (f5s11 a)) := by kernel_rfl
def f5p16 : Plan := .mk (some f5l10) none f5p17 .n
theorem f5t16 N a b c d e f g (K : KT ρ) : f5i N (f5c 511) f5p16 (f5s7 a b c d e f g) (joinK (some f5lE) K) =
  laws_FnMutatesBack.Z16 N a b c d e f g (fun h => K .ret (f5s11 h)) :=
 viaSeqS (fun k => laws_FnMutatesBack.Z17 N a b c d e f g k (fun h => K .ret (f5s11 h))) (by kernel_rfl) (f5t17 N (K := seqK (fun σ => f5i N (f5c 1023) .n σ (joinK (some f5lE) K)) (joinK (some f5lE) K)) ..) (f5t31 N K) (by kernel_rfl)
def f5p14 : Plan := .mk (some f5l7) none .n f5p16
theorem f5t14 N a b c h i d e f g j l (K : KT ρ) : f5i N (f5c 255) f5p14 (f5s6 a b c h i d e f g j l) (joinK (some f5lE) K) =
  laws_FnMutatesBack.Z14 N a b c h i d e f g j l (fun m => K .ret (f5s11 m)) :=
 viaSeqS (fun k => laws_FnMutatesBack.Z15 N a b c h i d e f g j l k (fun m => K .ret (f5s11 m))) (by kernel_rfl) (f5t15 N (K := seqK (fun σ => f5i N (f5c 511) f5p16 σ (joinK (some f5lE) K)) (joinK (some f5lE) K)) ..) (fx7 fun a b c d e f g => f5t16 N a b c d e f g K) (by kernel_rfl)
def f5p12 : Plan := .mk (some f5l6) none .n f5p14
theorem f5t12 N a b c d e f g h i j (K : KT ρ) : f5i N (f5c 127) f5p12 (f5s5 a b c d e f g h i j) (joinK (some f5lE) K) =
  laws_FnMutatesBack.Z12 N a b c d e f g h i j (fun l => K .ret (f5s11 l)) :=
 viaSeqS (fun k => laws_FnMutatesBack.Z13 N a b c d e f g h i j k) (by kernel_rfl) (f5t13 N (K := seqK (fun σ => f5i N (f5c 255) f5p14 σ (joinK (some f5lE) K)) (joinK (some f5lE) K)) ..) (fx11 fun m a b c d e f g h i j => f5t14 N m a b c d e f g h i j K) (by kernel_rfl)
def f5p10 : Plan := .mk (some f5l5) none .n f5p12
theorem f5t10 N a b g c d e f (K : KT ρ) : f5i N (f5c 63) f5p10 (f5s4 a b g c d e f) (joinK (some f5lE) K) =
  laws_FnMutatesBack.Z10 N a b g c d e f (fun h => K .ret (f5s11 h)) :=
 viaSeqS (fun k => laws_FnMutatesBack.Z11 N a b g c d e f k) (by kernel_rfl) (f5t11 N (K := seqK (fun σ => f5i N (f5c 127) f5p12 σ (joinK (some f5lE) K)) (joinK (some f5lE) K)) ..) (fx10 fun a b i j c d e f l m => f5t12 N a b i j c d e f l m K) (by kernel_rfl)
def f5p8 : Plan := .mk (some f5l4) none .n f5p10
theorem f5t8 N a b c h d e f g (K : KT ρ) : f5i N (f5c 31) f5p8 (f5s3 a b c h d e f g) (joinK (some f5lE) K) =
  laws_FnMutatesBack.Z8 N a b c h d e f g (fun i => K .ret (f5s11 i)) :=
 viaSeqS (fun k => laws_FnMutatesBack.Z9 N a b c h d e f g k (fun i => K .ret (f5s11 i))) (by kernel_rfl) (f5t9 N (K := seqK (fun σ => f5i N (f5c 63) f5p10 σ (joinK (some f5lE) K)) (joinK (some f5lE) K)) ..) (fx7 fun a b c d e f g => f5t10 N a b c d e f g K) (by kernel_rfl)
def f5p6 : Plan := .mk (some f5l3) none .n f5p8
theorem f5t6 N a b c d (K : KT ρ) : f5i N (f5c 15) f5p6 (f5s2 a b c d) (joinK (some f5lE) K) =
  laws_FnMutatesBack.Z6 N a b c d (fun e => K .ret (f5s11 e)) :=
 viaSeqS (fun k => laws_FnMutatesBack.Z7 N a b c d k) (by kernel_rfl) (f5t7 N (K := seqK (fun σ => f5i N (f5c 31) f5p8 σ (joinK (some f5lE) K)) (joinK (some f5lE) K)) ..) (fx8 fun a f b g c d h i => f5t8 N a f b g c d h i K) (by kernel_rfl)
def f5p4 : Plan := .mk (some f5l2) none .n f5p6
theorem f5t4 N a (K : KT ρ) : f5i N (f5c 7) f5p4 (f5s1 a) (joinK (some f5lE) K) =
  laws_FnMutatesBack.Z4 N a (fun b => K .ret (f5s11 b)) :=
 viaSeqS (fun k => laws_FnMutatesBack.Z5 N a k) (by kernel_rfl) (f5t5 N (K := seqK (fun σ => f5i N (f5c 15) f5p6 σ (joinK (some f5lE) K)) (joinK (some f5lE) K)) ..) (fx4 fun c d e f => f5t6 N c d e f K) (by kernel_rfl)
def f5p2 : Plan := .mk (some f5l1) none .n f5p4
theorem f5t2 N a (K : KT ρ) : f5i N (f5c 3) f5p2 (f5s1 a) (joinK (some f5lE) K) =
  laws_FnMutatesBack.Z2 N a (fun b => K .ret (f5s11 b)) :=
 viaSeqS (fun k => laws_FnMutatesBack.Z3 N a k (fun b => K .ret (f5s11 b))) (by kernel_rfl) (f5t3 N (K := seqK (fun σ => f5i N (f5c 7) f5p4 σ (joinK (some f5lE) K)) (joinK (some f5lE) K)) ..) (funext fun a => f5t4 N a K) (by kernel_rfl)
def f5p0 : Plan := .mk (some f5l1) none .n f5p2
theorem f5t0 N a (K : KT ρ) : f5i N (f5c 1) f5p0 (f5s0 a) (joinK (some f5lE) K) =
  laws_FnMutatesBack.Z0 N a (fun b => K .ret (f5s11 b)) :=
 viaSeqS (fun k => laws_FnMutatesBack.Z1 N a k) (by kernel_rfl) (f5t1 N (K := seqK (fun σ => f5i N (f5c 3) f5p2 σ (joinK (some f5lE) K)) (joinK (some f5lE) K)) ..) (funext fun a => f5t2 N a K) (by kernel_rfl)
theorem f5m (N : Nat) (a : List Int) : f5i N (f5c 1) f5p0 (f5s0 a) (joinK (some f5lE) (finK tab f5sig Try.f5.results.toList)) = laws_FnMutatesBack.Z0 N a (fun b => some ((), (b, ()))) :=
 (f5t0 N a (finK tab f5sig Try.f5.results.toList)).trans (by kernel_rfl)
theorem f5ok (h : laws_FnMutatesBack.Spec) : EntryOk Try.prog 5 e5 :=
 entry_of_code (sig := f5sig) (c := (f5c 1)) (pl := f5p0) (je := (some f5lE)) (B := f5B) Try.func5 (by kernel_rfl) (by kernel_rfl) (by kernel_rfl) tabOk f5GOk (by kernel_rfl) (by kernel_rfl) (by kernel_rfl) (by kernel_rfl) fun X hb hp => by
  obtain ⟨a, _⟩ := X
  obtain ⟨N, h⟩ := h a hb.1
  exact ⟨N, (f5m N a).trans (h N (Nat.le_refl N))⟩
theorem e5ok : EntryOk Try.prog 5 e5 := f5ok laws_FnMutatesBack.ok
end Go.Fw
