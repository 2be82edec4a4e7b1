/- The plain part: what the functions compute, in lists and numbers. Nothing is assumed. -/
import Derived.Test.YtakkbbpdfmkbnaaFwb
import Derived.Test.YtakkbbpdfmkbnaaPuFnExactCVectorsOfa
set_option linter.unusedVariables false
set_option linter.unusedSimpArgs false
set_option maxRecDepth 100000
namespace Go.Fw
noncomputable section
namespace spec_l1Mutate
def P (m : Int × Int × List Int) (k : Int) : Bool := shapedK m && (decide (0 ≤ k) && decide (k < m.1))
def g (m : Int × Int × List Int) (k : Int) : Int × Int × List Int := mutK m k.toNat
end spec_l1Mutate
namespace spec_l1Mutate
def Z1 {ρ : Type} (N : Nat) (v0 : Int × Int × List Int) (v1 : Int) (kn : Int → Int → Int → List Int → Int → Int → Option ρ) : Option ρ :=
 kn v1 v0.1 v0.2.1 v0.2.2 0 0
def Z3 {ρ : Type} (N : Nat) (v1 v2_0 v2_1 : Int) (v2_2 : List Int) (v4_0 v4_1 : Int) (kn : List Int → Int → Int → Int → List Int → Int → Int → Int → Int → Option ρ) : Option ρ :=
 cond (lk N (spec_l1CopyMatrix.P (v2_0, (v2_1, v2_2)))) (
  kn (spec_l1CopyMatrix.g (v2_0, (v2_1, v2_2))).2.2 v1 v2_0 v2_1 v2_2 v4_0 v4_1 (spec_l1CopyMatrix.g (v2_0, (v2_1, v2_2))).1 (spec_l1CopyMatrix.g (v2_0, (v2_1, v2_2))).2.1) none
def Z6 {ρ : Type} (N : Nat) (v5_2 : List Int) (v1 v2_0 v2_1 : Int) (v2_2 : List Int) (v4_0 v4_1 : Int) (v5_0 v5_1 : Int) (kn : List Int → Int → Int → Int → Int → List Int → Int → Int → Int → Int → Option ρ) : Option ρ :=
 kn v5_2 v1 0 v2_0 v2_1 v2_2 v4_0 v4_1 v5_0 v5_1
def Z10 {ρ : Type} (N : Nat) (v5_2 : List Int) (v1 v6 : Int) (v2_0 v2_1 : Int) (v2_2 : List Int) (v4_0 v4_1 : Int) (v5_0 v5_1 : Int) (kn : List Int → Int → Int → Int → Int → List Int → Int → Int → Int → Int → Option ρ) (k0 : List Int → Int → Int → Int → Int → Option ρ) : Option ρ :=
 cond (lk N (decide (v6 < v2_1)))
 (
  kn v5_2 v1 v6 v2_0 v2_1 v2_2 v4_0 v4_1 v5_0 v5_1)
 (
  k0 v5_2 v4_0 v4_1 v5_0 v5_1)
def Z14 {ρ : Type} (N : Nat) (v5_2 : List Int) (v1 v6 : Int) (v2_0 v2_1 : Int) (v2_2 : List Int) (v4_0 v4_1 : Int) (v5_0 v5_1 : Int) (kn : List Int → Int → Int → Int → Int → Int → List Int → Int → Int → Int → Int → Option ρ) : Option ρ :=
 kn v5_2 v1 v6 0 v2_0 v2_1 v2_2 v4_0 v4_1 v5_0 v5_1
def Z18 {ρ : Type} (N : Nat) (v5_2 : List Int) (v1 v6 : Int) (v7 v2_0 v2_1 : Int) (v2_2 : List Int) (v4_0 v4_1 : Int) (v5_0 v5_1 : Int) (kn : List Int → Int → Int → Int → Int → Int → List Int → Int → Int → Int → Int → Option ρ) (k2 : List Int → Int → Int → Int → Int → List Int → Int → Int → Int → Int → Option ρ) : Option ρ :=
 cond (lk N (decide (v7 < v2_0)))
 (
  kn v5_2 v1 v6 v7 v2_0 v2_1 v2_2 v4_0 v4_1 v5_0 v5_1)
 (
  k2 v5_2 v1 v6 v2_0 v2_1 v2_2 v4_0 v4_1 v5_0 v5_1)
def Z22 {ρ : Type} (N : Nat) (v5_2 : List Int) (v1 v6 : Int) (v7 v2_0 v2_1 : Int) (v2_2 : List Int) (v4_0 v4_1 : Int) (v5_0 v5_1 : Int) (kn : List Int → Int → Int → Int → Int → Int → Int → List Int → Int → Int → Int → Int → Option ρ) : Option ρ :=
 cond (lk N (spec_l1At.P (v2_0, (v2_1, v2_2)) v6 v1)) (
  kn v5_2 v1 v6 v7 (spec_l1At.g (v2_0, (v2_1, v2_2)) v6 v1) v2_0 v2_1 v2_2 v4_0 v4_1 v5_0 v5_1) none
def Z24 {ρ : Type} (N : Nat) (v5_2 : List Int) (v1 v6 : Int) (v7 v8 : Int) (v2_0 v2_1 : Int) (v2_2 : List Int) (v4_0 v4_1 : Int) (v5_0 v5_1 : Int) (kn : List Int → Int → Int → Int → Int → Int → Int → Int → List Int → Int → Int → Int → Int → Option ρ) : Option ρ :=
 cond (lk N (spec_l1At.P (v2_0, (v2_1, v2_2)) v1 v7)) (
  kn v5_2 v1 v6 v7 v8 (spec_l1At.g (v2_0, (v2_1, v2_2)) v1 v7) v2_0 v2_1 v2_2 v4_0 v4_1 v5_0 v5_1) none
def Z27 {ρ : Type} (N : Nat) (v5_2 : List Int) (v1 v6 : Int) (v7 v8 : Int) (v9 v2_0 v2_1 : Int) (v2_2 : List Int) (v4_0 v4_1 : Int) (v5_0 v5_1 : Int) (kn : List Int → Int → Int → Int → Int → Int → Bool → Int → Int → List Int → Int → Int → Int → Int → Option ρ) : Option ρ :=
 cond (lk N (decide (v6 = v1)))
 (
  kn v5_2 v1 v6 v7 v8 v9 true v2_0 v2_1 v2_2 v4_0 v4_1 v5_0 v5_1)
 (
  kn v5_2 v1 v6 v7 v8 v9 (lk N (decide (v7 = v1))) v2_0 v2_1 v2_2 v4_0 v4_1 v5_0 v5_1)
def Z28 {ρ : Type} (N : Nat) (v5_2 : List Int) (v1 v6 : Int) (v7 v8 v9 : Int) (v32 : Bool) (v2_0 v2_1 : Int) (v2_2 : List Int) (v4_0 v4_1 : Int) (v5_0 v5_1 : Int) (kn : List Int → Int → Int → Int → Int → Int → List Int → Int → Int → Int → Int → Option ρ) : Option ρ :=
 cond (v32)
 (
  cond (lk N (spec_l1At.P (v2_0, (v2_1, v2_2)) v6 v7)) (
   cond (lk N (inB (w64 ((w64 (v6 * v2_0)) + v7)) v5_2.length)) (
    kn (v5_2.set (w64 ((w64 (v6 * v2_0)) + v7)).toNat (w64 (0 - (spec_l1At.g (v2_0, (v2_1, v2_2)) v6 v7)))) v1 v6 v7 v2_0 v2_1 v2_2 v4_0 v4_1 v5_0 v5_1) none) none)
 (
  cond (lk N (decide (0 < v8)))
  (
   cond (lk N (decide (0 < v9)))
   (
    cond (lk N (spec_l1At.P (v2_0, (v2_1, v2_2)) v6 v7)) (
     cond (lk N (inB (w64 ((w64 (v6 * v2_0)) + v7)) v5_2.length)) (
      kn (v5_2.set (w64 ((w64 (v6 * v2_0)) + v7)).toNat (w64 ((spec_l1At.g (v2_0, (v2_1, v2_2)) v6 v7) + (w64 (v8 * v9))))) v1 v6 v7 v2_0 v2_1 v2_2 v4_0 v4_1 v5_0 v5_1) none) none)
   (
    cond (lk N (decide (v8 < 0)))
    (
     cond (lk N (decide (v9 < 0)))
     (
      cond (lk N (spec_l1At.P (v2_0, (v2_1, v2_2)) v6 v7)) (
       cond (lk N (inB (w64 ((w64 (v6 * v2_0)) + v7)) v5_2.length)) (
        kn (v5_2.set (w64 ((w64 (v6 * v2_0)) + v7)).toNat (w64 ((spec_l1At.g (v2_0, (v2_1, v2_2)) v6 v7) - (w64 (v8 * v9))))) v1 v6 v7 v2_0 v2_1 v2_2 v4_0 v4_1 v5_0 v5_1) none) none)
     (
      kn v5_2 v1 v6 v7 v2_0 v2_1 v2_2 v4_0 v4_1 v5_0 v5_1))
    (
     kn v5_2 v1 v6 v7 v2_0 v2_1 v2_2 v4_0 v4_1 v5_0 v5_1)))
  (
   cond (lk N (decide (v8 < 0)))
   (
    cond (lk N (decide (v9 < 0)))
    (
     cond (lk N (spec_l1At.P (v2_0, (v2_1, v2_2)) v6 v7)) (
      cond (lk N (inB (w64 ((w64 (v6 * v2_0)) + v7)) v5_2.length)) (
       kn (v5_2.set (w64 ((w64 (v6 * v2_0)) + v7)).toNat (w64 ((spec_l1At.g (v2_0, (v2_1, v2_2)) v6 v7) - (w64 (v8 * v9))))) v1 v6 v7 v2_0 v2_1 v2_2 v4_0 v4_1 v5_0 v5_1) none) none)
    (
     kn v5_2 v1 v6 v7 v2_0 v2_1 v2_2 v4_0 v4_1 v5_0 v5_1))
   (
    kn v5_2 v1 v6 v7 v2_0 v2_1 v2_2 v4_0 v4_1 v5_0 v5_1)))
def Z26 {ρ : Type} (N : Nat) (v5_2 : List Int) (v1 v6 : Int) (v7 v8 : Int) (v9 v2_0 v2_1 : Int) (v2_2 : List Int) (v4_0 v4_1 : Int) (v5_0 v5_1 : Int) (kn : List Int → Int → Int → Int → Int → Int → List Int → Int → Int → Int → Int → Option ρ) : Option ρ := Z27 N v5_2 v1 v6 v7 v8 v9 v2_0 v2_1 v2_2 v4_0 v4_1 v5_0 v5_1 (fun v5_2 v1 v6 v7 v8 v9 v32 v2_0 v2_1 v2_2 v4_0 v4_1 v5_0 v5_1 => Z28 N v5_2 v1 v6 v7 v8 v9 v32 v2_0 v2_1 v2_2 v4_0 v4_1 v5_0 v5_1 kn)
def Z25 {ρ : Type} (N : Nat) (v5_2 : List Int) (v1 v6 : Int) (v7 v8 : Int) (v9 v2_0 v2_1 : Int) (v2_2 : List Int) (v4_0 v4_1 : Int) (v5_0 v5_1 : Int) (kn : List Int → Int → Int → Int → Int → Int → List Int → Int → Int → Int → Int → Option ρ) : Option ρ := Z26 N v5_2 v1 v6 v7 v8 v9 v2_0 v2_1 v2_2 v4_0 v4_1 v5_0 v5_1 kn
def Z23 {ρ : Type} (N : Nat) (v5_2 : List Int) (v1 v6 : Int) (v7 v8 : Int) (v2_0 v2_1 : Int) (v2_2 : List Int) (v4_0 v4_1 : Int) (v5_0 v5_1 : Int) (kn : List Int → Int → Int → Int → Int → Int → List Int → Int → Int → Int → Int → Option ρ) : Option ρ := Z24 N v5_2 v1 v6 v7 v8 v2_0 v2_1 v2_2 v4_0 v4_1 v5_0 v5_1 (fun v5_2 v1 v6 v7 v8 v9 v2_0 v2_1 v2_2 v4_0 v4_1 v5_0 v5_1 => Z25 N v5_2 v1 v6 v7 v8 v9 v2_0 v2_1 v2_2 v4_0 v4_1 v5_0 v5_1 kn)
def Z21 {ρ : Type} (N : Nat) (v5_2 : List Int) (v1 v6 : Int) (v7 v2_0 v2_1 : Int) (v2_2 : List Int) (v4_0 v4_1 : Int) (v5_0 v5_1 : Int) (kn : List Int → Int → Int → Int → Int → Int → List Int → Int → Int → Int → Int → Option ρ) : Option ρ := Z22 N v5_2 v1 v6 v7 v2_0 v2_1 v2_2 v4_0 v4_1 v5_0 v5_1 (fun v5_2 v1 v6 v7 v8 v2_0 v2_1 v2_2 v4_0 v4_1 v5_0 v5_1 => Z23 N v5_2 v1 v6 v7 v8 v2_0 v2_1 v2_2 v4_0 v4_1 v5_0 v5_1 kn)
def Z20 {ρ : Type} (N : Nat) (v5_2 : List Int) (v1 v6 : Int) (v7 v2_0 v2_1 : Int) (v2_2 : List Int) (v4_0 v4_1 : Int) (v5_0 v5_1 : Int) (kn : List Int → Int → Int → Int → Int → Int → List Int → Int → Int → Int → Int → Option ρ) : Option ρ := Z21 N v5_2 v1 v6 v7 v2_0 v2_1 v2_2 v4_0 v4_1 v5_0 v5_1 kn
def Z29 {ρ : Type} (N : Nat) (v5_2 : List Int) (v1 v6 : Int) (v7 v2_0 v2_1 : Int) (v2_2 : List Int) (v4_0 v4_1 : Int) (v5_0 v5_1 : Int) (kn : List Int → Int → Int → Int → Int → Int → List Int → Int → Int → Int → Int → Option ρ) : Option ρ :=
 kn v5_2 v1 v6 (w64 (v7 + 1)) v2_0 v2_1 v2_2 v4_0 v4_1 v5_0 v5_1
def Z19 {ρ : Type} (N : Nat) (v5_2 : List Int) (v1 v6 : Int) (v7 v2_0 v2_1 : Int) (v2_2 : List Int) (v4_0 v4_1 : Int) (v5_0 v5_1 : Int) (kn : List Int → Int → Int → Int → Int → Int → List Int → Int → Int → Int → Int → Option ρ) : Option ρ := Z20 N v5_2 v1 v6 v7 v2_0 v2_1 v2_2 v4_0 v4_1 v5_0 v5_1 (fun v5_2 v1 v6 v7 v2_0 v2_1 v2_2 v4_0 v4_1 v5_0 v5_1 => Z29 N v5_2 v1 v6 v7 v2_0 v2_1 v2_2 v4_0 v4_1 v5_0 v5_1 kn)
def Z17 {ρ : Type} (N : Nat) (v5_2 : List Int) (v1 v6 : Int) (v7 v2_0 v2_1 : Int) (v2_2 : List Int) (v4_0 v4_1 : Int) (v5_0 v5_1 : Int) (kn : List Int → Int → Int → Int → Int → Int → List Int → Int → Int → Int → Int → Option ρ) (k2 : List Int → Int → Int → Int → Int → List Int → Int → Int → Int → Int → Option ρ) : Option ρ := Z18 N v5_2 v1 v6 v7 v2_0 v2_1 v2_2 v4_0 v4_1 v5_0 v5_1 (fun v5_2 v1 v6 v7 v2_0 v2_1 v2_2 v4_0 v4_1 v5_0 v5_1 => Z19 N v5_2 v1 v6 v7 v2_0 v2_1 v2_2 v4_0 v4_1 v5_0 v5_1 kn) k2
def Z16L {ρ : Type} (N : Nat) (k2 : List Int → Int → Int → Int → Int → List Int → Int → Int → Int → Int → Option ρ) : Nat → List Int → Int → Int → Int → Int → Int → List Int → Int → Int → Int → Int → Option ρ
  | 0, _, _, _, _, _, _, _, _, _, _, _ => none
  | M + 1, v5_2, v1, v6, v7, v2_0, v2_1, v2_2, v4_0, v4_1, v5_0, v5_1 => Z17 N v5_2 v1 v6 v7 v2_0 v2_1 v2_2 v4_0 v4_1 v5_0 v5_1 (fun v5_2 v1 v6 v7 v2_0 v2_1 v2_2 v4_0 v4_1 v5_0 v5_1 => Z16L N k2 M v5_2 v1 v6 v7 v2_0 v2_1 v2_2 v4_0 v4_1 v5_0 v5_1) k2
def Z16 {ρ : Type} (N : Nat) (v5_2 : List Int) (v1 v6 : Int) (v7 v2_0 v2_1 : Int) (v2_2 : List Int) (v4_0 v4_1 : Int) (v5_0 v5_1 : Int) (k2 : List Int → Int → Int → Int → Int → List Int → Int → Int → Int → Int → Option ρ) : Option ρ := Z16L N k2 N v5_2 v1 v6 v7 v2_0 v2_1 v2_2 v4_0 v4_1 v5_0 v5_1
def Z15 {ρ : Type} (N : Nat) (v5_2 : List Int) (v1 v6 : Int) (v7 v2_0 v2_1 : Int) (v2_2 : List Int) (v4_0 v4_1 : Int) (v5_0 v5_1 : Int) (kn : List Int → Int → Int → Int → Int → List Int → Int → Int → Int → Int → Option ρ) : Option ρ := Z16 N v5_2 v1 v6 v7 v2_0 v2_1 v2_2 v4_0 v4_1 v5_0 v5_1 kn
def Z13 {ρ : Type} (N : Nat) (v5_2 : List Int) (v1 v6 : Int) (v2_0 v2_1 : Int) (v2_2 : List Int) (v4_0 v4_1 : Int) (v5_0 v5_1 : Int) (kn : List Int → Int → Int → Int → Int → List Int → Int → Int → Int → Int → Option ρ) : Option ρ := Z14 N v5_2 v1 v6 v2_0 v2_1 v2_2 v4_0 v4_1 v5_0 v5_1 (fun v5_2 v1 v6 v7 v2_0 v2_1 v2_2 v4_0 v4_1 v5_0 v5_1 => Z15 N v5_2 v1 v6 v7 v2_0 v2_1 v2_2 v4_0 v4_1 v5_0 v5_1 kn)
def Z12 {ρ : Type} (N : Nat) (v5_2 : List Int) (v1 v6 : Int) (v2_0 v2_1 : Int) (v2_2 : List Int) (v4_0 v4_1 : Int) (v5_0 v5_1 : Int) (kn : List Int → Int → Int → Int → Int → List Int → Int → Int → Int → Int → Option ρ) : Option ρ := Z13 N v5_2 v1 v6 v2_0 v2_1 v2_2 v4_0 v4_1 v5_0 v5_1 kn
def Z30 {ρ : Type} (N : Nat) (v5_2 : List Int) (v1 v6 : Int) (v2_0 v2_1 : Int) (v2_2 : List Int) (v4_0 v4_1 : Int) (v5_0 v5_1 : Int) (kn : List Int → Int → Int → Int → Int → List Int → Int → Int → Int → Int → Option ρ) : Option ρ :=
 kn v5_2 v1 (w64 (v6 + 1)) v2_0 v2_1 v2_2 v4_0 v4_1 v5_0 v5_1
def Z11 {ρ : Type} (N : Nat) (v5_2 : List Int) (v1 v6 : Int) (v2_0 v2_1 : Int) (v2_2 : List Int) (v4_0 v4_1 : Int) (v5_0 v5_1 : Int) (kn : List Int → Int → Int → Int → Int → List Int → Int → Int → Int → Int → Option ρ) : Option ρ := Z12 N v5_2 v1 v6 v2_0 v2_1 v2_2 v4_0 v4_1 v5_0 v5_1 (fun v5_2 v1 v6 v2_0 v2_1 v2_2 v4_0 v4_1 v5_0 v5_1 => Z30 N v5_2 v1 v6 v2_0 v2_1 v2_2 v4_0 v4_1 v5_0 v5_1 kn)
def Z9 {ρ : Type} (N : Nat) (v5_2 : List Int) (v1 v6 : Int) (v2_0 v2_1 : Int) (v2_2 : List Int) (v4_0 v4_1 : Int) (v5_0 v5_1 : Int) (kn : List Int → Int → Int → Int → Int → List Int → Int → Int → Int → Int → Option ρ) (k0 : List Int → Int → Int → Int → Int → Option ρ) : Option ρ := Z10 N v5_2 v1 v6 v2_0 v2_1 v2_2 v4_0 v4_1 v5_0 v5_1 (fun v5_2 v1 v6 v2_0 v2_1 v2_2 v4_0 v4_1 v5_0 v5_1 => Z11 N v5_2 v1 v6 v2_0 v2_1 v2_2 v4_0 v4_1 v5_0 v5_1 kn) k0
def Z8L {ρ : Type} (N : Nat) (k0 : List Int → Int → Int → Int → Int → Option ρ) : Nat → List Int → Int → Int → Int → Int → List Int → Int → Int → Int → Int → Option ρ
  | 0, _, _, _, _, _, _, _, _, _, _ => none
  | M + 1, v5_2, v1, v6, v2_0, v2_1, v2_2, v4_0, v4_1, v5_0, v5_1 => Z9 N v5_2 v1 v6 v2_0 v2_1 v2_2 v4_0 v4_1 v5_0 v5_1 (fun v5_2 v1 v6 v2_0 v2_1 v2_2 v4_0 v4_1 v5_0 v5_1 => Z8L N k0 M v5_2 v1 v6 v2_0 v2_1 v2_2 v4_0 v4_1 v5_0 v5_1) k0
def Z8 {ρ : Type} (N : Nat) (v5_2 : List Int) (v1 v6 : Int) (v2_0 v2_1 : Int) (v2_2 : List Int) (v4_0 v4_1 : Int) (v5_0 v5_1 : Int) (k0 : List Int → Int → Int → Int → Int → Option ρ) : Option ρ := Z8L N k0 N v5_2 v1 v6 v2_0 v2_1 v2_2 v4_0 v4_1 v5_0 v5_1
def Z7 {ρ : Type} (N : Nat) (v5_2 : List Int) (v1 v6 : Int) (v2_0 v2_1 : Int) (v2_2 : List Int) (v4_0 v4_1 : Int) (v5_0 v5_1 : Int) (kn : List Int → Int → Int → Int → Int → Option ρ) : Option ρ := Z8 N v5_2 v1 v6 v2_0 v2_1 v2_2 v4_0 v4_1 v5_0 v5_1 kn
def Z5 {ρ : Type} (N : Nat) (v5_2 : List Int) (v1 v2_0 v2_1 : Int) (v2_2 : List Int) (v4_0 v4_1 : Int) (v5_0 v5_1 : Int) (kn : List Int → Int → Int → Int → Int → Option ρ) : Option ρ := Z6 N v5_2 v1 v2_0 v2_1 v2_2 v4_0 v4_1 v5_0 v5_1 (fun v5_2 v1 v6 v2_0 v2_1 v2_2 v4_0 v4_1 v5_0 v5_1 => Z7 N v5_2 v1 v6 v2_0 v2_1 v2_2 v4_0 v4_1 v5_0 v5_1 kn)
def Z31 {ρ : Type} (N : Nat) (v5_2 : List Int) (v4_0 v4_1 : Int) (v5_0 v5_1 : Int) (kr : List Int → Int → Int → Option ρ) : Option ρ :=
 kr v5_2 v5_0 v5_1
def Z4 {ρ : Type} (N : Nat) (v5_2 : List Int) (v1 v2_0 v2_1 : Int) (v2_2 : List Int) (v4_0 v4_1 : Int) (v5_0 v5_1 : Int) (kr : List Int → Int → Int → Option ρ) : Option ρ := Z5 N v5_2 v1 v2_0 v2_1 v2_2 v4_0 v4_1 v5_0 v5_1 (fun v5_2 v4_0 v4_1 v5_0 v5_1 => Z31 N v5_2 v4_0 v4_1 v5_0 v5_1 kr)
def Z2 {ρ : Type} (N : Nat) (v1 v2_0 v2_1 : Int) (v2_2 : List Int) (v4_0 v4_1 : Int) (kr : List Int → Int → Int → Option ρ) : Option ρ := Z3 N v1 v2_0 v2_1 v2_2 v4_0 v4_1 (fun v5_2 v1 v2_0 v2_1 v2_2 v4_0 v4_1 v5_0 v5_1 => Z4 N v5_2 v1 v2_0 v2_1 v2_2 v4_0 v4_1 v5_0 v5_1 kr)
def Z0 {ρ : Type} (N : Nat) (v0 : Int × Int × List Int) (v1 : Int) (kr : List Int → Int → Int → Option ρ) : Option ρ := Z1 N v0 v1 (fun v1 v2_0 v2_1 v2_2 v4_0 v4_1 => Z2 N v1 v2_0 v2_1 v2_2 v4_0 v4_1 kr)
def Spec : Prop := ∀  (v0 : Int × Int × List Int) (v1 : Int), Ty.bd (.pair (.int .i64) (.pair (.int .i64) (.sl 0 (.int .i64)))) v0 → P v0 v1 = true → ∃ N0, ∀ N, N0 ≤ N → Z0 N v0 v1 (fun v4_2 v4_0 v4_1 => some ((), ((v4_0, (v4_1, v4_2)), ()))) = some ((), ((g v0 v1), ()))

section
variable {ρ : Type} {N : Nat} {m : Int × Int × List Int} {k : Nat}
theorem at_g (hd : 0 ≤ m.1) (a b : Nat) : spec_l1At.g (m.1, (m.2.1, m.2.2)) (a : Int) (b : Int) = ent m a b := atK_nat hd a b
theorem at_p (hd : dimK m = true) {a b : Nat} (ha : a < m.2.1.toNat) (hb : b < m.1.toNat) : spec_l1At.P (m.1, (m.2.1, m.2.2)) (a : Int) (b : Int) = true := at_ok hd ha hb
def cur (m : Int × Int × List Int) (k p : Nat) : List Int := upto m.2.2.length p (mutF m k) (fun p => m.2.2.getD p 0)
theorem inner (hs : shapedK m = true) (hk : k < m.1.toNat) (k2 : List Int → Int → Int → Int → Int → List Int → Int → Int → Int → Int → Option ρ) (t0 t1 o0 o1 : Int) {i : Nat} (hi : i < m.2.1.toNat) : ∀ (M j : Nat), j ≤ m.1.toNat → m.1.toNat - j < M →
    Z16L N k2 M (cur m k (i * m.1.toNat + j)) (k : Int) (i : Int) (j : Int) m.1 m.2.1 m.2.2 t0 t1 o0 o1 = k2 (cur m k (i * m.1.toNat + m.1.toNat)) (k : Int) (i : Int) m.1 m.2.1 m.2.2 t0 t1 o0 o1 := by
  have hd := shaped_dim hs
  obtain ⟨n, r, hn, hr, hn1, hn5, hnr, hr8, hl⟩ := dim_nat hd
  intro M
  induction M with
  | zero => intro j _ h; omega
  | succ M ih =>
    intro j hj hM
    simp only [Z16L, Z17, Z18]
    by_cases h : j < m.1.toNat
    · have hlt : i * m.1.toNat + j < m.2.2.length := by
        have := ent_lt (n := n) (r := r) (i := i) (j := j) (by omega) (by omega)
        rw [hl, hn]; exact this
      have hidx : w64 (w64 ((i : Int) * m.1) + (j : Int)) = ((i * m.1.toNat + j : Nat) : Int) := by
        have e : (i : Int) * m.1 = ((i * m.1.toNat : Nat) : Int) := by rw [hn, Int.natCast_mul]; simp
        have hb : i * m.1.toNat ≤ 8 * 5 := Nat.mul_le_mul (by omega) (by omega)
        have e2 : w64 (((i * m.1.toNat : Nat) : Int)) = ((i * m.1.toNat : Nat) : Int) := w64_id (by omega) (by omega)
        rw [e, e2, w64_id (by omega) (by omega)]
        omega
      have b1 := ent_bound hs i j
      have b2 := ent_bound hs i k
      have b3 := ent_bound hs k j
      have hbc := mutE_bound (f := false) b1 b2 b3
      have hF := mutF_at (m := m) (k := k) (i := i) h
      have hcl : (cur m k (i * m.1.toNat + j)).length = m.2.2.length := upto_len
      have hset : ∀ v, v = mutF m k (i * m.1.toNat + j) → (cur m k (i * m.1.toNat + j)).set (i * m.1.toNat + j) v = cur m k (i * m.1.toNat + (j + 1)) := fun v hv => by
        subst hv
        exact upto_set hlt
      have hsame : mutF m k (i * m.1.toNat + j) = ent m i j → cur m k (i * m.1.toNat + j) = cur m k (i * m.1.toNat + (j + 1)) := fun hv => (upto_same hv).symm
      have iB : inB (((i * m.1.toNat + j : Nat) : Int)) (cur m k (i * m.1.toNat + j)).length = true := inB_nat (by rw [hcl]; exact hlt)
      have pij := at_p hd hi h
      rw [ct (dt (by omega))]
      simp only [Z19, Z20, Z21, Z22, Z23, Z24, Z25]
      rw [ct (at_p hd hi hk), ct (at_p hd (show k < m.2.1.toNat by omega) h), at_g (by omega), at_g (by omega)]
      have fin : ∀ c, c = cur m k (i * m.1.toNat + (j + 1)) → Z29 N c (k : Int) (i : Int) (j : Int) m.1 m.2.1 m.2.2 t0 t1 o0 o1 (fun out5_2 k1 i6 j7 m2_0 m2_1 m2_2 t4_0 t4_1 out5_0 out5_1 => Z16L N k2 M out5_2 k1 i6 j7 m2_0 m2_1 m2_2 t4_0 t4_1 out5_0 out5_1) = k2 (cur m k (i * m.1.toNat + m.1.toNat)) (k : Int) (i : Int) m.1 m.2.1 m.2.2 t0 t1 o0 o1 := by
        intro c hc
        subst hc
        simp only [Z29]
        rw [w64_succ (by rw [maxLen_val]; omega)]
        exact ih (j + 1) h (by omega)
      simp only [Z26, Z27, Z28, hidx, Int.toNat_natCast, at_g (show 0 ≤ m.1 by omega)]
      by_cases hik : i = k
      · rw [ct (dt (by omega)), ct' rfl, ct pij, ct iB, w64_id (by omega) (by omega)]
        refine fin _ (hset _ ?_)
        rw [hF, dt hik, Int.zero_sub]; rfl
      · rw [cf (df (by omega))]
        by_cases hjk : j = k
        · rw [ct' (by rw [lk_eq]; exact dt (by omega)), ct pij, ct iB, w64_id (by omega) (by omega)]
          refine fin _ (hset _ ?_)
          rw [hF, df hik, dt hjk, Int.zero_sub]; rfl
        · rw [cf' (by rw [lk_eq]; exact df (by omega))]
          rw [df hik, df hjk] at hF
          simp only [mutE, Bool.or_self, Bool.false_eq_true, if_false] at hF
          have wbc : w64 (ent m i k * ent m k j) = ent m i k * ent m k j := w64_id (by omega) (by omega)
          rw [wbc]
          by_cases a1 : 0 < ent m i k
          · rw [ct (dt a1)]
            by_cases a2 : 0 < ent m k j
            · rw [ct (dt a2), ct pij, ct iB, w64_id (by omega) (by omega)]
              refine fin _ (hset _ ?_)
              rw [hF, if_pos ⟨a1, a2⟩]
            · rw [cf (df a2), cf (df (by omega))]
              refine fin _ (hsame ?_)
              rw [hF, if_neg (by omega), if_neg (by omega)]
          · rw [cf (df a1)]
            by_cases a2 : ent m i k < 0
            · rw [ct (dt a2)]
              by_cases a3 : ent m k j < 0
              · rw [ct (dt a3), ct pij, ct iB, w64_id (by omega) (by omega)]
                refine fin _ (hset _ ?_)
                rw [hF, if_neg (by omega), if_pos ⟨a2, a3⟩]
              · rw [cf (df a3)]
                refine fin _ (hsame ?_)
                rw [hF, if_neg (by omega), if_neg (by omega)]
            · rw [cf (df a2)]
              refine fin _ (hsame ?_)
              rw [hF, if_neg (by omega), if_neg (by omega)]
    · rw [cf (df (by omega)), show j = m.1.toNat by omega]
theorem outer (hN : 10 ≤ N) (hs : shapedK m = true) (hk : k < m.1.toNat) (k0 : List Int → Int → Int → Int → Int → Option ρ) (t0 t1 o0 o1 : Int) : ∀ (M i : Nat), i ≤ m.2.1.toNat → m.2.1.toNat - i < M →
    Z8L N k0 M (cur m k (i * m.1.toNat)) (k : Int) (i : Int) m.1 m.2.1 m.2.2 t0 t1 o0 o1 = k0 (cur m k (m.2.1.toNat * m.1.toNat)) t0 t1 o0 o1 := by
  have hd := shaped_dim hs
  obtain ⟨n, r, hn, hr, hn1, hn5, hnr, hr8, hl⟩ := dim_nat hd
  intro M
  induction M with
  | zero => intro i _ h; omega
  | succ M ih =>
    intro i hi hM
    simp only [Z8L, Z9, Z10]
    by_cases h : i < m.2.1.toNat
    · rw [ct (dt (by omega))]
      simp only [Z11, Z12, Z13, Z14, Z15, Z16]
      have hin := inner (ρ := ρ) (N := N) hs hk (fun out5_2 k1 i6 m2_0 m2_1 m2_2 t4_0 t4_1 out5_0 out5_1 => Z30 N out5_2 k1 i6 m2_0 m2_1 m2_2 t4_0 t4_1 out5_0 out5_1 (fun out5_2 k1 i6 m2_0 m2_1 m2_2 t4_0 t4_1 out5_0 out5_1 => Z8L N k0 M out5_2 k1 i6 m2_0 m2_1 m2_2 t4_0 t4_1 out5_0 out5_1)) t0 t1 o0 o1 h N 0 (by omega) (by omega)
      rw [show ((0 : Nat) : Int) = 0 from rfl, Nat.add_zero] at hin
      rw [hin]
      simp only [Z30]
      rw [w64_succ (by rw [maxLen_val]; omega)]
      have := ih (i + 1) h (by omega)
      rw [Nat.add_mul, Nat.one_mul] at this
      exact this
    · rw [cf (df (by omega)), show i = m.2.1.toNat by omega]
end
theorem ok : Spec := fun m k hb hp => ⟨10, fun N hN => by
  simp only [P, Bool.and_eq_true, decide_eq_true_eq] at hp
  obtain ⟨hs, h0, h1⟩ := hp
  obtain ⟨x, rfl⟩ := Int.eq_ofNat_of_zero_le h0
  have hd := shaped_dim hs
  obtain ⟨n, r, hn, hr, hn1, hn5, hnr, hr8, hl⟩ := dim_nat hd
  have hlen : m.2.2.length ≤ 8 * 5 := by rw [hl]; exact Nat.mul_le_mul hr8 hn5
  simp only [Z0, Z1, Z2, Z3]
  rw [ct (show spec_l1CopyMatrix.P (m.1, (m.2.1, m.2.2)) = true from dt (show m.2.2.length < 1099511627776 by omega))]
  simp only [Z4, Z5, Z6, Z7, Z8]
  have hstart : cur m x 0 = m.2.2 := by
    unfold cur
    rw [upto_zero]
    exact list_map 0 rfl
  have hend : cur m x (m.2.1.toNat * m.1.toNat) = (mutK m x).2.2 := by
    have e : m.2.1.toNat * m.1.toNat = m.2.2.length := by rw [hl, hn, hr]; simp
    rw [e]
    exact upto_full
  have := outer (ρ := Unit × (Int × Int × List Int) × Unit) hN hs (show x < m.1.toNat by omega) (fun out5_2 t4_0 t4_1 out5_0 out5_1 => Z31 N out5_2 t4_0 t4_1 out5_0 out5_1 (fun t4_2 t4_0 t4_1 => some ((), ((t4_0, (t4_1, t4_2)), ())))) 0 0 m.1 m.2.1 N 0 (by omega) (by omega)
  rw [Nat.zero_mul, hstart, hend] at this
  exact this⟩

end spec_l1Mutate
end
end Go.Fw
set_option linter.unusedVariables false
set_option linter.unusedSimpArgs false
set_option maxRecDepth 100000
namespace Go.Fw
noncomputable section
namespace spec_MutateMatrix
def g (m : Int × Int × List Int) (k : Int) : (Int × Int × List Int) × Bool :=
  if ((sizesK m && !decide (facK m = [])) && (inK k 0 (m.1 - 1) && sizesK (mutK m k.toNat))) = true then (mutK m k.toNat, true) else ((0, 0, []), false)
end spec_MutateMatrix
namespace spec_MutateMatrix
def Z0 {ρ : Type} (N : Nat) (v0 : Int × Int × List Int) (v1 : Int) (kr : List Int → Bool → Int → Int → Option ρ) : Option ρ :=
 cond (!(lk N ((spec_MatrixOk.g v0))))
 (
  kr ([] : List Int) false 0 0)
 (
  cond (!(lk N ((spec_l1In.g v1 0 (w64 (v0.1 - 1))))))
  (
   kr ([] : List Int) false 0 0)
  (
   cond (lk N (spec_l1Mutate.P v0 v1)) (
    cond (!(lk N ((spec_l1Sizes.g (spec_l1Mutate.g v0 v1)))))
    (
     kr ([] : List Int) false 0 0)
    (
     kr (spec_l1Mutate.g v0 v1).2.2 true (spec_l1Mutate.g v0 v1).1 (spec_l1Mutate.g v0 v1).2.1)) none))
def Spec : Prop := ∀  (v0 : Int × Int × List Int) (v1 : Int), Ty.bd (.pair (.int .i64) (.pair (.int .i64) (.sl 0 (.int .i64)))) v0 → ∃ N0, ∀ N, N0 ≤ N → Z0 N v0 v1 (fun v4_2 v5 v4_0 v4_1 => some ((), ((v4_0, (v4_1, v4_2)), (v5, ())))) = some ((), ((g v0 v1).1, ((g v0 v1).2, ())))

theorem ok : Spec := fun m k hb => ⟨0, fun N hN => by
  simp only [Z0, lk_eq, g, spec_MatrixOk.g, spec_l1In.g, spec_l1Sizes.g]
  cases h1 : (sizesK m && !decide (facK m = []))
  · rfl
  have hs : sizesK m = true := by
    simp only [Bool.and_eq_true] at h1
    exact h1.1
  have hd := shaped_dim (sizes_shaped hs)
  obtain ⟨n, r, hn, hr, hn1, hn5, hnr, hr8, hl⟩ := dim_nat hd
  rw [w64_id (by omega) (by omega)]
  cases h2 : inK k 0 (m.1 - 1)
  · rfl
  have h3 := inK_iff.1 h2
  have hP : spec_l1Mutate.P m k = true := by
    simp only [spec_l1Mutate.P, Bool.and_eq_true, decide_eq_true_eq]
    exact ⟨sizes_shaped hs, by omega, by omega⟩
  rw [hP]
  have hg : spec_l1Mutate.g m k = mutK m k.toNat := rfl
  rw [hg]
  cases sizesK (mutK m k.toNat) <;> rfl⟩

end spec_MutateMatrix
end
end Go.Fw
/-! Both programs mutate alike. -/
set_option linter.unusedVariables false
namespace Go.Fw
theorem spec_mutG : spec_MutateMatrix.g = mutG := rfl
theorem impl_mutG : impl_MutateMatrix.g = mutG := by
  funext m k
  unfold impl_MutateMatrix.g mutG
  rw [ok_alike]
  cases h1 : (sizesK m && !decide (facK m = []))
  · rfl
  cases h2 : inK k 0 (m.1 - 1)
  · rfl
  have h3 := inK_iff.1 h2
  rw [mut_alike h1 (by omega)]
end Go.Fw
set_option linter.unusedVariables false
set_option linter.unusedSimpArgs false
set_option maxRecDepth 100000
namespace Go.Fw
noncomputable section
namespace impl_PrincipalMatrix
def g (m : Int × Int × List Int) : (Int × Int × List Int) × Bool :=
  if ((shapedK m && !decide (facK m = [])) && (decide (m.2.1 = m.1) && decide (2 * m.1 ≤ 8))) = true then (princK m, true) else ((0, 0, []), false)
end impl_PrincipalMatrix
namespace impl_PrincipalMatrix
def Z1 {ρ : Type} (N : Nat) (v0 : Int × Int × List Int) (kn : Int → Int → List Int → Int → Int → Option ρ) : Option ρ :=
 kn v0.1 v0.2.1 v0.2.2 0 0
def Z3 {ρ : Type} (N : Nat) (v1_0 v1_1 : Int) (v1_2 : List Int) (v2_0 v2_1 : Int) (kn : Int → Int → List Int → Int → Int → Option ρ) (kr : List Int → Bool → Int → Int → Option ρ) : Option ρ :=
 cond (!(lk N ((impl_MatrixOk.g (v1_0, (v1_1, v1_2))))))
 (
  kr ([] : List Int) false 0 0)
 (
  cond (lk N (!(decide (v1_1 = v1_0))))
  (
   kr ([] : List Int) false 0 0)
  (
   cond (lk N (decide (8 < (w64 (2 * v1_0)))))
   (
    kr ([] : List Int) false 0 0)
   (
    kn v1_0 v1_1 v1_2 v2_0 v2_1)))
def Z5 {ρ : Type} (N : Nat) (v1_0 v1_1 : Int) (v1_2 : List Int) (v2_0 v2_1 : Int) (kn : List Int → Int → Int → List Int → Int → Int → Int → Int → Option ρ) : Option ρ :=
 both (
  cond (lk N (slices_Clone_int_int.P v1_2)) (
   both (
    kn (slices_Clone_int_int.g v1_2) v1_0 v1_1 v1_2 v2_0 v2_1 v1_0 (w64 (2 * v1_0)))
   (
    kn (slices_Clone_int_int.g v1_2) v1_0 v1_1 v1_2 v2_0 v2_1 v1_0 (w64 (2 * v1_0)))) none)
 (
  cond (lk N (slices_Clone_int_int.P v1_2)) (
   kn (slices_Clone_int_int.g v1_2) v1_0 v1_1 v1_2 v2_0 v2_1 v1_0 (w64 (2 * v1_0))) none)
def Z8 {ρ : Type} (N : Nat) (v4_2 : List Int) (v1_0 v1_1 : Int) (v1_2 : List Int) (v2_0 v2_1 : Int) (v4_0 v4_1 : Int) (kn : List Int → Int → Int → Int → List Int → Int → Int → Int → Int → Option ρ) : Option ρ :=
 kn v4_2 0 v1_0 v1_1 v1_2 v2_0 v2_1 v4_0 v4_1
def Z12 {ρ : Type} (N : Nat) (v4_2 : List Int) (v5 v1_0 v1_1 : Int) (v1_2 : List Int) (v2_0 v2_1 : Int) (v4_0 v4_1 : Int) (kn : List Int → Int → Int → Int → List Int → Int → Int → Int → Int → Option ρ) (k0 : List Int → Int → Int → Int → Int → Option ρ) : Option ρ :=
 cond (lk N (decide (v5 < v1_0)))
 (
  kn v4_2 v5 v1_0 v1_1 v1_2 v2_0 v2_1 v4_0 v4_1)
 (
  k0 v4_2 v2_0 v2_1 v4_0 v4_1)
def Z16 {ρ : Type} (N : Nat) (v4_2 : List Int) (v5 v1_0 v1_1 : Int) (v1_2 : List Int) (v2_0 v2_1 : Int) (v4_0 v4_1 : Int) (kn : List Int → Int → Int → Int → Int → List Int → Int → Int → Int → Int → Option ρ) : Option ρ :=
 kn v4_2 v5 0 v1_0 v1_1 v1_2 v2_0 v2_1 v4_0 v4_1
def Z19 {ρ : Type} (N : Nat) (v4_2 : List Int) (v5 v6 : Int) (v1_0 v1_1 : Int) (v1_2 : List Int) (v2_0 v2_1 : Int) (v4_0 v4_1 : Int) (kn : List Int → Int → Int → Int → Int → List Int → Int → Int → Int → Int → Option ρ) (k2 : List Int → Int → Int → Int → List Int → Int → Int → Int → Int → Option ρ) : Option ρ :=
 cond (lk N (decide (v6 < v1_0)))
 (
  cond (lk N (decide (v5 = v6)))
  (
   cond (lk N (Nat.blt (v4_2.length + ([1] : List Int).length) 1099511627776)) (
    kn (v4_2 ++ ([1] : List Int)) v5 (w64 (v6 + 1)) v1_0 v1_1 v1_2 v2_0 v2_1 v4_0 v4_1) none)
  (
   cond (lk N (Nat.blt (v4_2.length + ([0] : List Int).length) 1099511627776)) (
    kn (v4_2 ++ ([0] : List Int)) v5 (w64 (v6 + 1)) v1_0 v1_1 v1_2 v2_0 v2_1 v4_0 v4_1) none))
 (
  k2 v4_2 v5 v1_0 v1_1 v1_2 v2_0 v2_1 v4_0 v4_1)
def Z18L {ρ : Type} (N : Nat) (k2 : List Int → Int → Int → Int → List Int → Int → Int → Int → Int → Option ρ) : Nat → List Int → Int → Int → Int → Int → List Int → Int → Int → Int → Int → Option ρ
  | 0, _, _, _, _, _, _, _, _, _, _ => none
  | M + 1, v4_2, v5, v6, v1_0, v1_1, v1_2, v2_0, v2_1, v4_0, v4_1 => Z19 N v4_2 v5 v6 v1_0 v1_1 v1_2 v2_0 v2_1 v4_0 v4_1 (fun v4_2 v5 v6 v1_0 v1_1 v1_2 v2_0 v2_1 v4_0 v4_1 => Z18L N k2 M v4_2 v5 v6 v1_0 v1_1 v1_2 v2_0 v2_1 v4_0 v4_1) k2
def Z18 {ρ : Type} (N : Nat) (v4_2 : List Int) (v5 v6 : Int) (v1_0 v1_1 : Int) (v1_2 : List Int) (v2_0 v2_1 : Int) (v4_0 v4_1 : Int) (k2 : List Int → Int → Int → Int → List Int → Int → Int → Int → Int → Option ρ) : Option ρ := Z18L N k2 N v4_2 v5 v6 v1_0 v1_1 v1_2 v2_0 v2_1 v4_0 v4_1
def Z17 {ρ : Type} (N : Nat) (v4_2 : List Int) (v5 v6 : Int) (v1_0 v1_1 : Int) (v1_2 : List Int) (v2_0 v2_1 : Int) (v4_0 v4_1 : Int) (kn : List Int → Int → Int → Int → List Int → Int → Int → Int → Int → Option ρ) : Option ρ := Z18 N v4_2 v5 v6 v1_0 v1_1 v1_2 v2_0 v2_1 v4_0 v4_1 kn
def Z15 {ρ : Type} (N : Nat) (v4_2 : List Int) (v5 v1_0 v1_1 : Int) (v1_2 : List Int) (v2_0 v2_1 : Int) (v4_0 v4_1 : Int) (kn : List Int → Int → Int → Int → List Int → Int → Int → Int → Int → Option ρ) : Option ρ := Z16 N v4_2 v5 v1_0 v1_1 v1_2 v2_0 v2_1 v4_0 v4_1 (fun v4_2 v5 v6 v1_0 v1_1 v1_2 v2_0 v2_1 v4_0 v4_1 => Z17 N v4_2 v5 v6 v1_0 v1_1 v1_2 v2_0 v2_1 v4_0 v4_1 kn)
def Z14 {ρ : Type} (N : Nat) (v4_2 : List Int) (v5 v1_0 v1_1 : Int) (v1_2 : List Int) (v2_0 v2_1 : Int) (v4_0 v4_1 : Int) (kn : List Int → Int → Int → Int → List Int → Int → Int → Int → Int → Option ρ) : Option ρ := Z15 N v4_2 v5 v1_0 v1_1 v1_2 v2_0 v2_1 v4_0 v4_1 kn
def Z20 {ρ : Type} (N : Nat) (v4_2 : List Int) (v5 v1_0 v1_1 : Int) (v1_2 : List Int) (v2_0 v2_1 : Int) (v4_0 v4_1 : Int) (kn : List Int → Int → Int → Int → List Int → Int → Int → Int → Int → Option ρ) : Option ρ :=
 kn v4_2 (w64 (v5 + 1)) v1_0 v1_1 v1_2 v2_0 v2_1 v4_0 v4_1
def Z13 {ρ : Type} (N : Nat) (v4_2 : List Int) (v5 v1_0 v1_1 : Int) (v1_2 : List Int) (v2_0 v2_1 : Int) (v4_0 v4_1 : Int) (kn : List Int → Int → Int → Int → List Int → Int → Int → Int → Int → Option ρ) : Option ρ := Z14 N v4_2 v5 v1_0 v1_1 v1_2 v2_0 v2_1 v4_0 v4_1 (fun v4_2 v5 v1_0 v1_1 v1_2 v2_0 v2_1 v4_0 v4_1 => Z20 N v4_2 v5 v1_0 v1_1 v1_2 v2_0 v2_1 v4_0 v4_1 kn)
def Z11 {ρ : Type} (N : Nat) (v4_2 : List Int) (v5 v1_0 v1_1 : Int) (v1_2 : List Int) (v2_0 v2_1 : Int) (v4_0 v4_1 : Int) (kn : List Int → Int → Int → Int → List Int → Int → Int → Int → Int → Option ρ) (k0 : List Int → Int → Int → Int → Int → Option ρ) : Option ρ := Z12 N v4_2 v5 v1_0 v1_1 v1_2 v2_0 v2_1 v4_0 v4_1 (fun v4_2 v5 v1_0 v1_1 v1_2 v2_0 v2_1 v4_0 v4_1 => Z13 N v4_2 v5 v1_0 v1_1 v1_2 v2_0 v2_1 v4_0 v4_1 kn) k0
def Z10L {ρ : Type} (N : Nat) (k0 : List Int → Int → Int → Int → Int → Option ρ) : Nat → List Int → Int → Int → Int → List Int → Int → Int → Int → Int → Option ρ
  | 0, _, _, _, _, _, _, _, _, _ => none
  | M + 1, v4_2, v5, v1_0, v1_1, v1_2, v2_0, v2_1, v4_0, v4_1 => Z11 N v4_2 v5 v1_0 v1_1 v1_2 v2_0 v2_1 v4_0 v4_1 (fun v4_2 v5 v1_0 v1_1 v1_2 v2_0 v2_1 v4_0 v4_1 => Z10L N k0 M v4_2 v5 v1_0 v1_1 v1_2 v2_0 v2_1 v4_0 v4_1) k0
def Z10 {ρ : Type} (N : Nat) (v4_2 : List Int) (v5 v1_0 v1_1 : Int) (v1_2 : List Int) (v2_0 v2_1 : Int) (v4_0 v4_1 : Int) (k0 : List Int → Int → Int → Int → Int → Option ρ) : Option ρ := Z10L N k0 N v4_2 v5 v1_0 v1_1 v1_2 v2_0 v2_1 v4_0 v4_1
def Z9 {ρ : Type} (N : Nat) (v4_2 : List Int) (v5 v1_0 v1_1 : Int) (v1_2 : List Int) (v2_0 v2_1 : Int) (v4_0 v4_1 : Int) (kn : List Int → Int → Int → Int → Int → Option ρ) : Option ρ := Z10 N v4_2 v5 v1_0 v1_1 v1_2 v2_0 v2_1 v4_0 v4_1 kn
def Z7 {ρ : Type} (N : Nat) (v4_2 : List Int) (v1_0 v1_1 : Int) (v1_2 : List Int) (v2_0 v2_1 : Int) (v4_0 v4_1 : Int) (kn : List Int → Int → Int → Int → Int → Option ρ) : Option ρ := Z8 N v4_2 v1_0 v1_1 v1_2 v2_0 v2_1 v4_0 v4_1 (fun v4_2 v5 v1_0 v1_1 v1_2 v2_0 v2_1 v4_0 v4_1 => Z9 N v4_2 v5 v1_0 v1_1 v1_2 v2_0 v2_1 v4_0 v4_1 kn)
def Z21 {ρ : Type} (N : Nat) (v4_2 : List Int) (v2_0 v2_1 : Int) (v4_0 v4_1 : Int) (kr : List Int → Bool → Int → Int → Option ρ) : Option ρ :=
 kr v4_2 true v4_0 v4_1
def Z6 {ρ : Type} (N : Nat) (v4_2 : List Int) (v1_0 v1_1 : Int) (v1_2 : List Int) (v2_0 v2_1 : Int) (v4_0 v4_1 : Int) (kr : List Int → Bool → Int → Int → Option ρ) : Option ρ := Z7 N v4_2 v1_0 v1_1 v1_2 v2_0 v2_1 v4_0 v4_1 (fun v4_2 v2_0 v2_1 v4_0 v4_1 => Z21 N v4_2 v2_0 v2_1 v4_0 v4_1 kr)
def Z4 {ρ : Type} (N : Nat) (v1_0 v1_1 : Int) (v1_2 : List Int) (v2_0 v2_1 : Int) (kr : List Int → Bool → Int → Int → Option ρ) : Option ρ := Z5 N v1_0 v1_1 v1_2 v2_0 v2_1 (fun v4_2 v1_0 v1_1 v1_2 v2_0 v2_1 v4_0 v4_1 => Z6 N v4_2 v1_0 v1_1 v1_2 v2_0 v2_1 v4_0 v4_1 kr)
def Z2 {ρ : Type} (N : Nat) (v1_0 v1_1 : Int) (v1_2 : List Int) (v2_0 v2_1 : Int) (kr : List Int → Bool → Int → Int → Option ρ) : Option ρ := Z3 N v1_0 v1_1 v1_2 v2_0 v2_1 (fun v1_0 v1_1 v1_2 v2_0 v2_1 => Z4 N v1_0 v1_1 v1_2 v2_0 v2_1 kr) kr
def Z0 {ρ : Type} (N : Nat) (v0 : Int × Int × List Int) (kr : List Int → Bool → Int → Int → Option ρ) : Option ρ := Z1 N v0 (fun v1_0 v1_1 v1_2 v2_0 v2_1 => Z2 N v1_0 v1_1 v1_2 v2_0 v2_1 kr)
def Spec : Prop := ∀  (v0 : Int × Int × List Int), Ty.bd (.pair (.int .i64) (.pair (.int .i64) (.sl 0 (.int .i64)))) v0 → ∃ N0, ∀ N, N0 ≤ N → Z0 N v0 (fun v2_2 v3 v2_0 v2_1 => some ((), ((v2_0, (v2_1, v2_2)), (v3, ())))) = some ((), ((g v0).1, ((g v0).2, ())))

theorem inner {ρ : Type} {N : Nat} {m : Int × Int × List Int} (hd : dimK m = true) (k2 : List Int → Int → Int → Int → List Int → Int → Int → Int → Int → Option ρ) (t0 t1 o0 o1 : Int) (base : List Int) (hb : base.length ≤ 65) {i : Nat} (hi : i < m.1.toNat) : ∀ (M j : Nat), j ≤ m.1.toNat → m.1.toNat - j < M →
    Z18L N k2 M (base ++ (rowU m.1.toNat i).take j) (i : Int) (j : Int) m.1 m.2.1 m.2.2 t0 t1 o0 o1 = k2 (base ++ rowU m.1.toNat i) (i : Int) m.1 m.2.1 m.2.2 t0 t1 o0 o1 := by
  obtain ⟨n, r, hn, hr, hn1, hn5, hnr, hr8, hl⟩ := dim_nat hd
  intro M
  induction M with
  | zero => intro j _ h; omega
  | succ M ih =>
    intro j hj hM
    simp only [Z18L, Z19]
    by_cases h : j < m.1.toNat
    · have hlen : ∀ x : Int, Nat.blt ((base ++ (rowU m.1.toNat i).take j).length + ([x]).length) 1099511627776 = true := fun x => by
        rw [Nat.blt_eq, List.length_append, List.length_take, rowU_len, List.length_singleton]; omega
      have ht := take_getD (l := rowU m.1.toNat i) (j := j) (0 : Int) (by rw [rowU_len]; exact h)
      rw [rowU_getD h] at ht
      have := ih (j + 1) h (by omega)
      rw [← ht, ← List.append_assoc] at this
      rw [ct (dt (by omega))]
      by_cases e : i = j
      · rw [if_pos e] at this
        rw [ct (dt (by omega)), ct (hlen _), w64_succ (by rw [maxLen_val]; omega)]
        exact this
      · rw [if_neg e] at this
        rw [cf (df (by omega)), ct (hlen _), w64_succ (by rw [maxLen_val]; omega)]
        exact this
    · rw [cf (df (by omega)), List.take_of_length_le (by rw [rowU_len]; omega)]
theorem loop {ρ : Type} {N : Nat} (hN : 10 ≤ N) {m : Int × Int × List Int} (hd : dimK m = true) (k0 : List Int → Int → Int → Int → Int → Option ρ) (t0 t1 o0 o1 : Int) : ∀ (M i : Nat), i ≤ m.1.toNat → m.1.toNat - i < M →
    Z10L N k0 M (m.2.2 ++ rowsU m.1.toNat i) (i : Int) m.1 m.2.1 m.2.2 t0 t1 o0 o1 = k0 (m.2.2 ++ rowsU m.1.toNat m.1.toNat) t0 t1 o0 o1 := by
  obtain ⟨n, r, hn, hr, hn1, hn5, hnr, hr8, hl⟩ := dim_nat hd
  intro M
  induction M with
  | zero => intro i _ h; omega
  | succ M ih =>
    intro i hi hM
    simp only [Z10L, Z11, Z12]
    by_cases h : i < m.1.toNat
    · rw [ct (dt (by omega))]
      simp only [Z13, Z14, Z15, Z16, Z17, Z18]
      have hin := inner (ρ := ρ) (N := N) hd (fun out4_2 i5 m1_0 m1_1 m1_2 t2_0 t2_1 out4_0 out4_1 => Z20 N out4_2 i5 m1_0 m1_1 m1_2 t2_0 t2_1 out4_0 out4_1 (fun out4_2 i5 m1_0 m1_1 m1_2 t2_0 t2_1 out4_0 out4_1 => Z10L N k0 M out4_2 i5 m1_0 m1_1 m1_2 t2_0 t2_1 out4_0 out4_1)) t0 t1 o0 o1 (m.2.2 ++ rowsU m.1.toNat i) (princ_len hd i (by omega)) h N 0 (by omega) (by omega)
      rw [List.take_zero, List.append_nil, show ((0 : Nat) : Int) = 0 from rfl] at hin
      rw [hin]
      simp only [Z20]
      rw [w64_succ (by rw [maxLen_val]; omega), List.append_assoc]
      exact ih (i + 1) h (by omega)
    · rw [cf (df (by omega)), show i = m.1.toNat by omega]
theorem ok : Spec := fun m hb => ⟨10, fun N hN => by
  have e0 : impl_MatrixOk.g (m.1, (m.2.1, m.2.2)) = (shapedK m && !decide (facK m = [])) := rfl
  simp only [Z0, Z1, Z2, Z3, e0, g, lk_eq]
  cases h1 : (shapedK m && !decide (facK m = []))
  · rfl
  have hs : shapedK m = true := by
    simp only [Bool.and_eq_true] at h1
    exact h1.1
  have hd := shaped_dim hs
  obtain ⟨n, r, hn, hr, hn1, hn5, hnr, hr8, hl⟩ := dim_nat hd
  have hlen := dim_len hd
  rw [w64_id (by omega) (by omega)]
  by_cases h2 : m.2.1 = m.1
  · rw [dt h2]
    by_cases h3 : 2 * m.1 ≤ 8
    · rw [dt h3, df (show ¬ 8 < 2 * m.1 by omega)]
      simp only [Z4, Z5]
      rw [ct (show slices_Clone_int_int.P m.2.2 = true from dt (by omega)), ct (show slices_Clone_int_int.P m.2.2 = true from dt (by omega)), both_self, both_self]
      simp only [Z6, Z7, Z8, Z9, Z10]
      have := loop (ρ := Unit × (Int × Int × List Int) × Bool × Unit) hN hd (fun out4_2 t2_0 t2_1 out4_0 out4_1 => Z21 N out4_2 t2_0 t2_1 out4_0 out4_1 (fun t2_2 t3 t2_0 t2_1 => some ((), ((t2_0, (t2_1, t2_2)), (t3, ()))))) 0 0 m.1 (w64 (2 * m.1)) N 0 (by omega) (by omega)
      rw [rowsU, List.append_nil] at this
      refine this.trans ?_
      simp only [Z21]
      rw [w64_id (by omega) (by omega)]
      rfl
    · rw [df h3, dt (show 8 < 2 * m.1 by omega)]; rfl
  · rw [df h2]; rfl⟩

end impl_PrincipalMatrix
end
end Go.Fw
set_option linter.unusedVariables false
set_option linter.unusedSimpArgs false
set_option maxRecDepth 100000
namespace Go.Fw
noncomputable section
namespace impl_walk
def g (m : Int × Int × List Int) (ks : List Int) : List (Int × Int × List Int) × Bool :=
  if ((impl_PrincipalMatrix.g m).2 && decide ((ks.length : Int) ≤ 40)) = true then walkK impl_MutateMatrix.g (impl_PrincipalMatrix.g m).1 ks else ([], false)
end impl_walk
namespace impl_walk
def Z1 {ρ : Type} (N : Nat) (v0 : Int × Int × List Int) (v1 : List Int) (kn : List Int → Int → Int → List Int → Option ρ) : Option ρ :=
 kn v1 v0.1 v0.2.1 v0.2.2
def Z3 {ρ : Type} (N : Nat) (v1 : List Int) (v2_0 v2_1 : Int) (v2_2 : List Int) (kn : List Int → List Int → Bool → Int → Int → Option ρ) : Option ρ :=
 kn (impl_PrincipalMatrix.g (v2_0, (v2_1, v2_2))).1.2.2 v1 (lk N ((impl_PrincipalMatrix.g (v2_0, (v2_1, v2_2))).2)) (impl_PrincipalMatrix.g (v2_0, (v2_1, v2_2))).1.1 (impl_PrincipalMatrix.g (v2_0, (v2_1, v2_2))).1.2.1
def Z5 {ρ : Type} (N : Nat) (v6_2 v1 : List Int) (v7 : Bool) (v6_0 v6_1 : Int) (kn : List Int → List Int → Int → Int → Option ρ) (kr : (List (Int × Int × List Int)) → Bool → Option ρ) : Option ρ :=
 cond (!(v7))
 (
  kr ([] : List (Int × Int × List Int)) false)
 (
  cond (lk N (decide (40 < (v1.length : Int))))
  (
   kr ([] : List (Int × Int × List Int)) false)
  (
   kn v6_2 v1 v6_0 v6_1))
def Z7 {ρ : Type} (N : Nat) (v6_2 v1 : List Int) (v6_0 v6_1 : Int) (kn : (List (Int × Int × List Int)) → List Int → Int → Int → List Int → Option ρ) : Option ρ :=
 kn ([(v6_0, (v6_1, v6_2))] : List (Int × Int × List Int)) v1 v6_0 v6_1 v6_2
def Z10 {ρ : Type} (N : Nat) (v8 : List (Int × Int × List Int)) (v1 : List Int) (v6_0 v6_1 : Int) (v6_2 : List Int) (kn : (List (Int × Int × List Int)) → List Int → Int → Int → Int → Int → List Int → Option ρ) : Option ρ :=
 kn v8 v1 (v1.length : Int) 0 v6_0 v6_1 v6_2
def Z13 {ρ : Type} (N : Nat) (v8 : List (Int × Int × List Int)) (v25 : List Int) (v26 v27 : Int) (v6_0 v6_1 : Int) (v6_2 : List Int) (kn : (List (Int × Int × List Int)) → List Int → Int → Int → Int → Int → List Int → Option ρ) (k0 : (List (Int × Int × List Int)) → Option ρ) (kr : (List (Int × Int × List Int)) → Bool → Option ρ) : Option ρ :=
 cond (lk N (decide (v27 < v26)))
 (
  cond (lk N (inB v27 v25.length)) (
   cond (!(lk N ((impl_MutateMatrix.g (v6_0, (v6_1, v6_2)) (v25.getD v27.toNat 0)).2)))
   (
    kr ([] : List (Int × Int × List Int)) false)
   (
    cond (lk N (Nat.blt (v8.length + ([(impl_MutateMatrix.g (v6_0, (v6_1, v6_2)) (v25.getD v27.toNat 0)).1] : List (Int × Int × List Int)).length) 1099511627776)) (
     kn (v8 ++ ([(impl_MutateMatrix.g (v6_0, (v6_1, v6_2)) (v25.getD v27.toNat 0)).1] : List (Int × Int × List Int))) v25 v26 (w64 (v27 + 1)) (impl_MutateMatrix.g (v6_0, (v6_1, v6_2)) (v25.getD v27.toNat 0)).1.1 (impl_MutateMatrix.g (v6_0, (v6_1, v6_2)) (v25.getD v27.toNat 0)).1.2.1 (impl_MutateMatrix.g (v6_0, (v6_1, v6_2)) (v25.getD v27.toNat 0)).1.2.2) none)) none)
 (
  k0 v8)
def Z12L {ρ : Type} (N : Nat) (k0 : (List (Int × Int × List Int)) → Option ρ) (kr : (List (Int × Int × List Int)) → Bool → Option ρ) : Nat → (List (Int × Int × List Int)) → List Int → Int → Int → Int → Int → List Int → Option ρ
  | 0, _, _, _, _, _, _, _ => none
  | M + 1, v8, v25, v26, v27, v6_0, v6_1, v6_2 => Z13 N v8 v25 v26 v27 v6_0 v6_1 v6_2 (fun v8 v25 v26 v27 v6_0 v6_1 v6_2 => Z12L N k0 kr M v8 v25 v26 v27 v6_0 v6_1 v6_2) k0 kr
def Z12 {ρ : Type} (N : Nat) (v8 : List (Int × Int × List Int)) (v25 : List Int) (v26 v27 : Int) (v6_0 v6_1 : Int) (v6_2 : List Int) (k0 : (List (Int × Int × List Int)) → Option ρ) (kr : (List (Int × Int × List Int)) → Bool → Option ρ) : Option ρ := Z12L N k0 kr N v8 v25 v26 v27 v6_0 v6_1 v6_2
def Z11 {ρ : Type} (N : Nat) (v8 : List (Int × Int × List Int)) (v25 : List Int) (v26 v27 : Int) (v6_0 v6_1 : Int) (v6_2 : List Int) (kn : (List (Int × Int × List Int)) → Option ρ) (kr : (List (Int × Int × List Int)) → Bool → Option ρ) : Option ρ := Z12 N v8 v25 v26 v27 v6_0 v6_1 v6_2 kn kr
def Z9 {ρ : Type} (N : Nat) (v8 : List (Int × Int × List Int)) (v1 : List Int) (v6_0 v6_1 : Int) (v6_2 : List Int) (kn : (List (Int × Int × List Int)) → Option ρ) (kr : (List (Int × Int × List Int)) → Bool → Option ρ) : Option ρ := Z10 N v8 v1 v6_0 v6_1 v6_2 (fun v8 v25 v26 v27 v6_0 v6_1 v6_2 => Z11 N v8 v25 v26 v27 v6_0 v6_1 v6_2 kn kr)
def Z14 {ρ : Type} (N : Nat) (v8 : List (Int × Int × List Int)) (kr : (List (Int × Int × List Int)) → Bool → Option ρ) : Option ρ :=
 kr v8 true
def Z8 {ρ : Type} (N : Nat) (v8 : List (Int × Int × List Int)) (v1 : List Int) (v6_0 v6_1 : Int) (v6_2 : List Int) (kr : (List (Int × Int × List Int)) → Bool → Option ρ) : Option ρ := Z9 N v8 v1 v6_0 v6_1 v6_2 (fun v8 => Z14 N v8 kr) kr
def Z6 {ρ : Type} (N : Nat) (v6_2 v1 : List Int) (v6_0 v6_1 : Int) (kr : (List (Int × Int × List Int)) → Bool → Option ρ) : Option ρ := Z7 N v6_2 v1 v6_0 v6_1 (fun v8 v1 v6_0 v6_1 v6_2 => Z8 N v8 v1 v6_0 v6_1 v6_2 kr)
def Z4 {ρ : Type} (N : Nat) (v6_2 v1 : List Int) (v7 : Bool) (v6_0 v6_1 : Int) (kr : (List (Int × Int × List Int)) → Bool → Option ρ) : Option ρ := Z5 N v6_2 v1 v7 v6_0 v6_1 (fun v6_2 v1 v6_0 v6_1 => Z6 N v6_2 v1 v6_0 v6_1 kr) kr
def Z2 {ρ : Type} (N : Nat) (v1 : List Int) (v2_0 v2_1 : Int) (v2_2 : List Int) (kr : (List (Int × Int × List Int)) → Bool → Option ρ) : Option ρ := Z3 N v1 v2_0 v2_1 v2_2 (fun v6_2 v1 v7 v6_0 v6_1 => Z4 N v6_2 v1 v7 v6_0 v6_1 kr)
def Z0 {ρ : Type} (N : Nat) (v0 : Int × Int × List Int) (v1 : List Int) (kr : (List (Int × Int × List Int)) → Bool → Option ρ) : Option ρ := Z1 N v0 v1 (fun v1 v2_0 v2_1 v2_2 => Z2 N v1 v2_0 v2_1 v2_2 kr)
def Spec : Prop := ∀  (v0 : Int × Int × List Int) (v1 : List Int), Ty.bd (.pair (.int .i64) (.pair (.int .i64) (.sl 0 (.int .i64)))) v0 → Ty.bd (.sl 0 (.int .i64)) v1 → ∃ N0, ∀ N, N0 ≤ N → Z0 N v0 v1 (fun v4 v5 => some ((), (v4, (v5, ())))) = some ((), ((g v0 v1).1, ((g v0 v1).2, ())))

theorem loop {ρ : Type} (N : Nat) (kr : List (Int × Int × List Int) → Bool → Option ρ) (ks : List Int) (hk : ks.length ≤ 40) : ∀ (M j : Nat) (pre : List (Int × Int × List Int)) (p : Int × Int × List Int), pre.length = j → j ≤ ks.length → ks.length - j < M →
    Z12L N (fun a => Z14 N a kr) kr M (pre ++ [p]) ks (ks.length : Int) (j : Int) p.1 p.2.1 p.2.2 = if (walkK impl_MutateMatrix.g p (ks.drop j)).2 = true then kr (pre ++ (walkK impl_MutateMatrix.g p (ks.drop j)).1) true else kr [] false := by
  intro M
  induction M with
  | zero => intro j _ _ _ _ h; omega
  | succ M ih =>
    intro j pre p hp hj hM
    simp only [Z12L, Z13]
    by_cases h : j < ks.length
    · have hv : impl_MutateMatrix.g (p.1, (p.2.1, p.2.2)) (ks.getD j 0) = impl_MutateMatrix.g p (ks.getD j 0) := rfl
      rw [ct (dt (by omega)), ct (inB_nat h)]
      simp only [Int.toNat_natCast, hv]
      rw [drop_getD 0 h, walkK, w64_succ (by rw [maxLen_val]; omega)]
      cases hb : (impl_MutateMatrix.g p (ks.getD j 0)).2
      · rw [ct' (by rw [lk_eq]; rfl), if_neg (by simp)]
      · rw [cf' (by rw [lk_eq]; rfl), if_pos rfl, ct (by rw [Nat.blt_eq]; simp; omega)]
        rw [ih (j + 1) (pre ++ [p]) _ (by simp; omega) h (by omega)]
        cases hc : (walkK impl_MutateMatrix.g (impl_MutateMatrix.g p (ks.getD j 0)).1 (ks.drop (j + 1))).2
        · simp
        · simp
    · rw [cf (df (by omega)), List.drop_of_length_le (by omega), walkK, if_pos rfl]; rfl
theorem ok : Spec := fun m ks hb hv => ⟨ks.length + 10, fun N hN => by
  have e0 : impl_PrincipalMatrix.g (m.1, (m.2.1, m.2.2)) = impl_PrincipalMatrix.g m := rfl
  simp only [Z0, Z1, Z2, Z3, e0, g, lk_eq, Z4, Z5]
  cases h1 : (impl_PrincipalMatrix.g m).2
  · rfl
  by_cases h2 : (ks.length : Int) ≤ 40
  · rw [df (show ¬ (40 : Int) < ks.length by omega), dt h2]
    simp only [Bool.not_true, cond_false, Z6, Z7, Z8, Z9, Z10, Z11, Z12]
    have := loop (ρ := Unit × List (Int × Int × List Int) × Bool × Unit) N (fun t4 t5 => some ((), (t4, (t5, ())))) ks (by omega) N 0 [] (impl_PrincipalMatrix.g m).1 rfl (by omega) (by omega)
    rw [show ((0 : Nat) : Int) = 0 from rfl, List.drop_zero] at this
    refine this.trans ?_
    simp only [Bool.and_true, if_true, List.nil_append]
    generalize impl_MutateMatrix.g = f
    cases hw : walkK f (impl_PrincipalMatrix.g m).1 ks with
    | mk a b =>
      cases b
      · have : a = [] := by
          cases ks with
          | nil => rw [walkK] at hw; cases hw
          | cons k ks =>
            rw [walkK] at hw
            split at hw
            · split at hw
              · cases hw
              · cases hw; rfl
            · cases hw; rfl
        subst this
        rfl
      · rfl
  · rw [dt (show (40 : Int) < ks.length by omega), df h2]; rfl⟩
theorem dim_f {m : Int × Int × List Int} {k : Int} (h : (impl_MutateMatrix.g m k).2 = true) : dimK (impl_MutateMatrix.g m k).1 = true ∧ (impl_MutateMatrix.g m k).1.1 = m.1 := by
  unfold impl_MutateMatrix.g at h ⊢
  split
  · rename_i hc
    simp only [Bool.and_eq_true] at hc
    exact ⟨dim_mut (shaped_dim hc.1.1) _, rfl⟩
  · rename_i hc
    rw [if_neg hc] at h; cases h
theorem last {m : Int × Int × List Int} {ks : List Int} (h : (g m ks).2 = true) : (g m ks).1.length = ks.length + 1 ∧ dimK ((g m ks).1.getD ks.length (0, (0, []))) = true ∧ ((g m ks).1.getD ks.length (0, (0, []))).1 = m.1 ∧ ks.length ≤ 40 ∧ dimK m = true := by
  unfold g at h ⊢
  split
  · rename_i hc
    rw [if_pos hc] at h
    rw [Bool.and_eq_true, decide_eq_true_eq] at hc
    obtain ⟨hc, hk⟩ := hc
    unfold impl_PrincipalMatrix.g at hc h ⊢
    split
    · rename_i hq
      rw [if_pos hq] at h
      simp only [Bool.and_eq_true, decide_eq_true_eq] at hq
      have hd := shaped_dim hq.1.1
      obtain ⟨h1, h2, h3⟩ := walk_last (fun m k h => dim_f h) ks (princK m) (dim_princ hd hq.2.1 hq.2.2) h
      exact ⟨h1, h2, h3, by omega, hd⟩
    · rename_i hq
      rw [if_neg hq] at hc; cases hc
  · rename_i hc
    rw [if_neg hc] at h; cases h

end impl_walk
end
end Go.Fw
set_option linter.unusedVariables false
set_option linter.unusedSimpArgs false
set_option maxRecDepth 100000
namespace Go.Fw
noncomputable section
namespace spec_l4Square
def g (m : Int × Int × List Int) : Bool := (sizesK m && !decide (facK m = [])) && (decide (m.2.1 = m.1) && decide (2 * m.1 ≤ 8))
end spec_l4Square
namespace spec_l4Square
def Z0 {ρ : Type} (N : Nat) (v0 : Int × Int × List Int) (kr : Bool → Option ρ) : Option ρ :=
 cond (lk N ((spec_MatrixOk.g v0)))
 (
  cond (lk N (decide (v0.2.1 = v0.1)))
  (
   kr (lk N (decide ((w64 (2 * v0.1)) ≤ 8))))
  (
   kr false))
 (
  kr false)
def Spec : Prop := ∀  (v0 : Int × Int × List Int), Ty.bd (.pair (.int .i64) (.pair (.int .i64) (.sl 0 (.int .i64)))) v0 → ∃ N0, ∀ N, N0 ≤ N → Z0 N v0 (fun v2 => some ((), (v2, ()))) = some ((), ((g v0), ()))

theorem ok : Spec := fun m hb => ⟨0, fun N hN => by
  simp only [Z0, lk_eq, g, spec_MatrixOk.g]
  cases h1 : (sizesK m && !decide (facK m = []))
  · rfl
  have hs : sizesK m = true := by
    simp only [Bool.and_eq_true] at h1
    exact h1.1
  obtain ⟨n, r, hn, hr, hn1, hn5, hnr, hr8, hl⟩ := dim_nat (shaped_dim (sizes_shaped hs))
  rw [w64_id (by omega) (by omega)]
  cases decide (m.2.1 = m.1) <;> rfl⟩

end spec_l4Square
end
end Go.Fw
set_option linter.unusedVariables false
set_option linter.unusedSimpArgs false
set_option maxRecDepth 100000
namespace Go.Fw
noncomputable section
namespace spec_l1Principal
def P (m : Int × Int × List Int) : Bool := dimK m
def g (m : Int × Int × List Int) : Int × Int × List Int := princK m
end spec_l1Principal
namespace spec_l1Principal
def Z1 {ρ : Type} (N : Nat) (v0 : Int × Int × List Int) (kn : Int → Int → List Int → Int → Int → Option ρ) : Option ρ :=
 kn v0.1 v0.2.1 v0.2.2 0 0
def Z3 {ρ : Type} (N : Nat) (v1_0 v1_1 : Int) (v1_2 : List Int) (v2_0 v2_1 : Int) (kn : List Int → Int → Int → List Int → Int → Int → Int → Int → Option ρ) : Option ρ :=
 cond (lk N (spec_l1CopyMatrix.P (v1_0, (v1_1, v1_2)))) (
  kn (spec_l1CopyMatrix.g (v1_0, (v1_1, v1_2))).2.2 v1_0 v1_1 v1_2 v2_0 v2_1 (spec_l1CopyMatrix.g (v1_0, (v1_1, v1_2))).1 (spec_l1CopyMatrix.g (v1_0, (v1_1, v1_2))).2.1) none
def Z5 {ρ : Type} (N : Nat) (v3_2 : List Int) (v1_0 v1_1 : Int) (v1_2 : List Int) (v2_0 v2_1 : Int) (v3_0 v3_1 : Int) (kn : List Int → Int → Int → List Int → Int → Int → Int → Int → Option ρ) : Option ρ :=
 kn v3_2 v1_0 v1_1 v1_2 v2_0 v2_1 v3_0 (w64 (2 * v1_0))
def Z8 {ρ : Type} (N : Nat) (v3_2 : List Int) (v1_0 v1_1 : Int) (v1_2 : List Int) (v2_0 v2_1 : Int) (v3_0 v3_1 : Int) (kn : List Int → Int → Int → Int → List Int → Int → Int → Int → Int → Option ρ) : Option ρ :=
 kn v3_2 0 v1_0 v1_1 v1_2 v2_0 v2_1 v3_0 v3_1
def Z11 {ρ : Type} (N : Nat) (v3_2 : List Int) (v4 v1_0 v1_1 : Int) (v1_2 : List Int) (v2_0 v2_1 : Int) (v3_0 v3_1 : Int) (kn : List Int → Int → Int → Int → List Int → Int → Int → Int → Int → Option ρ) (k0 : List Int → Int → Int → Int → Int → Option ρ) : Option ρ :=
 cond (lk N (decide (v4 < v1_0)))
 (
  cond (lk N (leB 0 v1_0 && decide (v1_0 < 1099511627776))) (
   cond (lk N (inB v4 (List.replicate v1_0.toNat (0 : Int)).length)) (
    cond (lk N (Nat.blt (v3_2.length + ((List.replicate v1_0.toNat (0 : Int)).set v4.toNat 1).length) 1099511627776)) (
     kn (v3_2 ++ ((List.replicate v1_0.toNat (0 : Int)).set v4.toNat 1)) (w64 (v4 + 1)) v1_0 v1_1 v1_2 v2_0 v2_1 v3_0 v3_1) none) none) none)
 (
  k0 v3_2 v2_0 v2_1 v3_0 v3_1)
def Z10L {ρ : Type} (N : Nat) (k0 : List Int → Int → Int → Int → Int → Option ρ) : Nat → List Int → Int → Int → Int → List Int → Int → Int → Int → Int → Option ρ
  | 0, _, _, _, _, _, _, _, _, _ => none
  | M + 1, v3_2, v4, v1_0, v1_1, v1_2, v2_0, v2_1, v3_0, v3_1 => Z11 N v3_2 v4 v1_0 v1_1 v1_2 v2_0 v2_1 v3_0 v3_1 (fun v3_2 v4 v1_0 v1_1 v1_2 v2_0 v2_1 v3_0 v3_1 => Z10L N k0 M v3_2 v4 v1_0 v1_1 v1_2 v2_0 v2_1 v3_0 v3_1) k0
def Z10 {ρ : Type} (N : Nat) (v3_2 : List Int) (v4 v1_0 v1_1 : Int) (v1_2 : List Int) (v2_0 v2_1 : Int) (v3_0 v3_1 : Int) (k0 : List Int → Int → Int → Int → Int → Option ρ) : Option ρ := Z10L N k0 N v3_2 v4 v1_0 v1_1 v1_2 v2_0 v2_1 v3_0 v3_1
def Z9 {ρ : Type} (N : Nat) (v3_2 : List Int) (v4 v1_0 v1_1 : Int) (v1_2 : List Int) (v2_0 v2_1 : Int) (v3_0 v3_1 : Int) (kn : List Int → Int → Int → Int → Int → Option ρ) : Option ρ := Z10 N v3_2 v4 v1_0 v1_1 v1_2 v2_0 v2_1 v3_0 v3_1 kn
def Z7 {ρ : Type} (N : Nat) (v3_2 : List Int) (v1_0 v1_1 : Int) (v1_2 : List Int) (v2_0 v2_1 : Int) (v3_0 v3_1 : Int) (kn : List Int → Int → Int → Int → Int → Option ρ) : Option ρ := Z8 N v3_2 v1_0 v1_1 v1_2 v2_0 v2_1 v3_0 v3_1 (fun v3_2 v4 v1_0 v1_1 v1_2 v2_0 v2_1 v3_0 v3_1 => Z9 N v3_2 v4 v1_0 v1_1 v1_2 v2_0 v2_1 v3_0 v3_1 kn)
def Z12 {ρ : Type} (N : Nat) (v3_2 : List Int) (v2_0 v2_1 : Int) (v3_0 v3_1 : Int) (kr : List Int → Int → Int → Option ρ) : Option ρ :=
 kr v3_2 v3_0 v3_1
def Z6 {ρ : Type} (N : Nat) (v3_2 : List Int) (v1_0 v1_1 : Int) (v1_2 : List Int) (v2_0 v2_1 : Int) (v3_0 v3_1 : Int) (kr : List Int → Int → Int → Option ρ) : Option ρ := Z7 N v3_2 v1_0 v1_1 v1_2 v2_0 v2_1 v3_0 v3_1 (fun v3_2 v2_0 v2_1 v3_0 v3_1 => Z12 N v3_2 v2_0 v2_1 v3_0 v3_1 kr)
def Z4 {ρ : Type} (N : Nat) (v3_2 : List Int) (v1_0 v1_1 : Int) (v1_2 : List Int) (v2_0 v2_1 : Int) (v3_0 v3_1 : Int) (kr : List Int → Int → Int → Option ρ) : Option ρ := Z5 N v3_2 v1_0 v1_1 v1_2 v2_0 v2_1 v3_0 v3_1 (fun v3_2 v1_0 v1_1 v1_2 v2_0 v2_1 v3_0 v3_1 => Z6 N v3_2 v1_0 v1_1 v1_2 v2_0 v2_1 v3_0 v3_1 kr)
def Z2 {ρ : Type} (N : Nat) (v1_0 v1_1 : Int) (v1_2 : List Int) (v2_0 v2_1 : Int) (kr : List Int → Int → Int → Option ρ) : Option ρ := Z3 N v1_0 v1_1 v1_2 v2_0 v2_1 (fun v3_2 v1_0 v1_1 v1_2 v2_0 v2_1 v3_0 v3_1 => Z4 N v3_2 v1_0 v1_1 v1_2 v2_0 v2_1 v3_0 v3_1 kr)
def Z0 {ρ : Type} (N : Nat) (v0 : Int × Int × List Int) (kr : List Int → Int → Int → Option ρ) : Option ρ := Z1 N v0 (fun v1_0 v1_1 v1_2 v2_0 v2_1 => Z2 N v1_0 v1_1 v1_2 v2_0 v2_1 kr)
def Spec : Prop := ∀  (v0 : Int × Int × List Int), Ty.bd (.pair (.int .i64) (.pair (.int .i64) (.sl 0 (.int .i64)))) v0 → P v0 = true → ∃ N0, ∀ N, N0 ≤ N → Z0 N v0 (fun v2_2 v2_0 v2_1 => some ((), ((v2_0, (v2_1, v2_2)), ()))) = some ((), ((g v0), ()))

theorem loop {ρ : Type} {N : Nat} {m : Int × Int × List Int} (hd : dimK m = true) (k0 : List Int → Int → Int → Int → Int → Option ρ) (t0 t1 o0 o1 : Int) : ∀ (M i : Nat), i ≤ m.1.toNat → m.1.toNat - i < M →
    Z10L N k0 M (m.2.2 ++ rowsU m.1.toNat i) (i : Int) m.1 m.2.1 m.2.2 t0 t1 o0 o1 = k0 (m.2.2 ++ rowsU m.1.toNat m.1.toNat) t0 t1 o0 o1 := by
  obtain ⟨n, r, hn, hr, hn1, hn5, hnr, hr8, hl⟩ := dim_nat hd
  intro M
  induction M with
  | zero => intro i _ h; omega
  | succ M ih =>
    intro i hi hM
    simp only [Z10L, Z11]
    by_cases h : i < m.1.toNat
    · have hlen := princ_len hd i (by omega)
      rw [ct (dt (by omega)), ct (by rw [leB_t (by omega), dt (by omega)]; rfl), ct (inB_nat (by rw [List.length_replicate]; exact h))]
      rw [Int.toNat_natCast, set_row h]
      rw [ct (by rw [Nat.blt_eq, rowU_len]; omega), List.append_assoc, w64_succ (by rw [maxLen_val]; omega)]
      exact ih (i + 1) h (by omega)
    · rw [cf (df (by omega)), show i = m.1.toNat by omega]
theorem ok : Spec := fun m hb hp => ⟨10, fun N hN => by
  have hd : dimK m = true := hp
  obtain ⟨n, r, hn, hr, hn1, hn5, hnr, hr8, hl⟩ := dim_nat hd
  have hlen := dim_len hd
  simp only [Z0, Z1, Z2, Z3]
  rw [ct (show spec_l1CopyMatrix.P (m.1, (m.2.1, m.2.2)) = true from dt (show m.2.2.length < 1099511627776 by omega))]
  simp only [Z4, Z5, Z6, Z7, Z8, Z9, Z10]
  have := loop (ρ := Unit × (Int × Int × List Int) × Unit) (N := N) hd (fun out3_2 t2_0 t2_1 out3_0 out3_1 => Z12 N out3_2 t2_0 t2_1 out3_0 out3_1 (fun t2_2 t2_0 t2_1 => some ((), ((t2_0, (t2_1, t2_2)), ())))) 0 0 m.1 (w64 (2 * m.1)) N 0 (by omega) (by omega)
  rw [rowsU, List.append_nil] at this
  refine this.trans ?_
  simp only [Z12, g, princK]
  rw [w64_id (by omega) (by omega)]⟩

end spec_l1Principal
end
end Go.Fw
set_option linter.unusedVariables false
set_option linter.unusedSimpArgs false
set_option maxRecDepth 100000
namespace Go.Fw
noncomputable section
namespace spec_l4Along
def g (m : Int × Int × List Int) (ks : List Int) : List (Int × Int × List Int) × Bool :=
  if (((sizesK m && !decide (facK m = [])) && (decide (m.2.1 = m.1) && decide (2 * m.1 ≤ 8))) && decide ((ks.length : Int) ≤ 40)) = true then walkK mutG (princK m) ks else ([], false)
end spec_l4Along
namespace spec_l4Along
def Z1 {ρ : Type} (N : Nat) (v0 : Int × Int × List Int) (v1 : List Int) (kn : List Int → Int → Int → List Int → Option ρ) : Option ρ :=
 kn v1 v0.1 v0.2.1 v0.2.2
def Z3 {ρ : Type} (N : Nat) (v1 : List Int) (v2_0 v2_1 : Int) (v2_2 : List Int) (kn : List Int → Int → Int → List Int → Option ρ) (kr : (List (Int × Int × List Int)) → Bool → Option ρ) : Option ρ :=
 cond (!(lk N ((spec_l4Square.g (v2_0, (v2_1, v2_2))))))
 (
  kr ([] : List (Int × Int × List Int)) false)
 (
  cond (lk N (decide (40 < (v1.length : Int))))
  (
   kr ([] : List (Int × Int × List Int)) false)
  (
   kn v1 v2_0 v2_1 v2_2))
def Z5 {ρ : Type} (N : Nat) (v1 : List Int) (v2_0 v2_1 : Int) (v2_2 : List Int) (kn : (List (Int × Int × List Int)) → List Int → Option ρ) : Option ρ :=
 cond (lk N (spec_l1Principal.P (v2_0, (v2_1, v2_2)))) (
  kn ([(spec_l1Principal.g (v2_0, (v2_1, v2_2)))] : List (Int × Int × List Int)) v1) none
def Z8 {ρ : Type} (N : Nat) (v6 : List (Int × Int × List Int)) (v1 : List Int) (kn : (List (Int × Int × List Int)) → List Int → Int → Option ρ) : Option ρ :=
 kn v6 v1 0
def Z11 {ρ : Type} (N : Nat) (v6 : List (Int × Int × List Int)) (v1 : List Int) (v7 : Int) (kn : (List (Int × Int × List Int)) → List Int → Int → Option ρ) (k0 : (List (Int × Int × List Int)) → Option ρ) (kr : (List (Int × Int × List Int)) → Bool → Option ρ) : Option ρ :=
 cond (lk N (decide (v7 < (v1.length : Int))))
 (
  cond (lk N (inB v7 v6.length)) (
   cond (lk N (inB v7 v1.length)) (
    both (
     cond (!(lk N ((spec_MutateMatrix.g (v6.getD v7.toNat (0, (0, []))) (v1.getD v7.toNat 0)).2)))
     (
      kr ([] : List (Int × Int × List Int)) false)
     (
      cond (lk N (Nat.blt (v6.length + ([(spec_MutateMatrix.g (v6.getD v7.toNat (0, (0, []))) (v1.getD v7.toNat 0)).1] : List (Int × Int × List Int)).length) 1099511627776)) (
       kn (v6 ++ ([(spec_MutateMatrix.g (v6.getD v7.toNat (0, (0, []))) (v1.getD v7.toNat 0)).1] : List (Int × Int × List Int))) v1 (w64 (v7 + 1))) none))
    (
     cond (!(lk N ((spec_MutateMatrix.g (v6.getD v7.toNat (0, (0, []))) (v1.getD v7.toNat 0)).2)))
     (
      kr ([] : List (Int × Int × List Int)) false)
     (
      cond (lk N (Nat.blt (v6.length + ([(spec_MutateMatrix.g (v6.getD v7.toNat (0, (0, []))) (v1.getD v7.toNat 0)).1] : List (Int × Int × List Int)).length) 1099511627776)) (
       kn (v6 ++ ([(spec_MutateMatrix.g (v6.getD v7.toNat (0, (0, []))) (v1.getD v7.toNat 0)).1] : List (Int × Int × List Int))) v1 (w64 (v7 + 1))) none))) none) none)
 (
  k0 v6)
def Z10L {ρ : Type} (N : Nat) (k0 : (List (Int × Int × List Int)) → Option ρ) (kr : (List (Int × Int × List Int)) → Bool → Option ρ) : Nat → (List (Int × Int × List Int)) → List Int → Int → Option ρ
  | 0, _, _, _ => none
  | M + 1, v6, v1, v7 => Z11 N v6 v1 v7 (fun v6 v1 v7 => Z10L N k0 kr M v6 v1 v7) k0 kr
def Z10 {ρ : Type} (N : Nat) (v6 : List (Int × Int × List Int)) (v1 : List Int) (v7 : Int) (k0 : (List (Int × Int × List Int)) → Option ρ) (kr : (List (Int × Int × List Int)) → Bool → Option ρ) : Option ρ := Z10L N k0 kr N v6 v1 v7
def Z9 {ρ : Type} (N : Nat) (v6 : List (Int × Int × List Int)) (v1 : List Int) (v7 : Int) (kn : (List (Int × Int × List Int)) → Option ρ) (kr : (List (Int × Int × List Int)) → Bool → Option ρ) : Option ρ := Z10 N v6 v1 v7 kn kr
def Z7 {ρ : Type} (N : Nat) (v6 : List (Int × Int × List Int)) (v1 : List Int) (kn : (List (Int × Int × List Int)) → Option ρ) (kr : (List (Int × Int × List Int)) → Bool → Option ρ) : Option ρ := Z8 N v6 v1 (fun v6 v1 v7 => Z9 N v6 v1 v7 kn kr)
def Z12 {ρ : Type} (N : Nat) (v6 : List (Int × Int × List Int)) (kr : (List (Int × Int × List Int)) → Bool → Option ρ) : Option ρ :=
 kr v6 true
def Z6 {ρ : Type} (N : Nat) (v6 : List (Int × Int × List Int)) (v1 : List Int) (kr : (List (Int × Int × List Int)) → Bool → Option ρ) : Option ρ := Z7 N v6 v1 (fun v6 => Z12 N v6 kr) kr
def Z4 {ρ : Type} (N : Nat) (v1 : List Int) (v2_0 v2_1 : Int) (v2_2 : List Int) (kr : (List (Int × Int × List Int)) → Bool → Option ρ) : Option ρ := Z5 N v1 v2_0 v2_1 v2_2 (fun v6 v1 => Z6 N v6 v1 kr)
def Z2 {ρ : Type} (N : Nat) (v1 : List Int) (v2_0 v2_1 : Int) (v2_2 : List Int) (kr : (List (Int × Int × List Int)) → Bool → Option ρ) : Option ρ := Z3 N v1 v2_0 v2_1 v2_2 (fun v1 v2_0 v2_1 v2_2 => Z4 N v1 v2_0 v2_1 v2_2 kr) kr
def Z0 {ρ : Type} (N : Nat) (v0 : Int × Int × List Int) (v1 : List Int) (kr : (List (Int × Int × List Int)) → Bool → Option ρ) : Option ρ := Z1 N v0 v1 (fun v1 v2_0 v2_1 v2_2 => Z2 N v1 v2_0 v2_1 v2_2 kr)
def Spec : Prop := ∀  (v0 : Int × Int × List Int) (v1 : List Int), Ty.bd (.pair (.int .i64) (.pair (.int .i64) (.sl 0 (.int .i64)))) v0 → Ty.bd (.sl 0 (.int .i64)) v1 → ∃ N0, ∀ N, N0 ≤ N → Z0 N v0 v1 (fun v4 v5 => some ((), (v4, (v5, ())))) = some ((), ((g v0 v1).1, ((g v0 v1).2, ())))

theorem loop {ρ : Type} (N : Nat) (kr : List (Int × Int × List Int) → Bool → Option ρ) (ks : List Int) (hk : ks.length ≤ 40) : ∀ (M j : Nat) (pre : List (Int × Int × List Int)) (p : Int × Int × List Int), pre.length = j → j ≤ ks.length → ks.length - j < M →
    Z10L N (fun a => Z12 N a kr) kr M (pre ++ [p]) ks (j : Int) = if (walkK mutG p (ks.drop j)).2 = true then kr (pre ++ (walkK mutG p (ks.drop j)).1) true else kr [] false := by
  intro M
  induction M with
  | zero => intro j _ _ _ _ h; omega
  | succ M ih =>
    intro j pre p hp hj hM
    simp only [Z10L, Z11]
    by_cases h : j < ks.length
    · have hg : (pre ++ [p]).getD j (0, (0, [])) = p := by
        rw [List.getD_eq_getElem?_getD, List.getElem?_append_right (by omega), ← hp]; simp
      have hv : spec_MutateMatrix.g p (ks.getD j 0) = mutG p (ks.getD j 0) := rfl
      rw [ct (dt (by omega)), ct (inB_nat (by simp; omega)), ct (inB_nat h), both_self]
      simp only [Int.toNat_natCast, hg, hv]
      rw [drop_getD 0 h, walkK, w64_succ (by rw [maxLen_val]; omega)]
      cases hb : (mutG p (ks.getD j 0)).2
      · rw [ct' (by rw [lk_eq]; rfl), if_neg (by simp)]
      · rw [cf' (by rw [lk_eq]; rfl), if_pos rfl, ct (by rw [Nat.blt_eq]; simp; omega)]
        rw [ih (j + 1) (pre ++ [p]) _ (by simp; omega) h (by omega)]
        cases hc : (walkK mutG (mutG p (ks.getD j 0)).1 (ks.drop (j + 1))).2
        · simp
        · simp
    · rw [cf (df (by omega)), List.drop_of_length_le (by omega), walkK, if_pos rfl]; rfl
theorem ok : Spec := fun m ks hb hv => ⟨ks.length + 10, fun N hN => by
  have e0 : spec_l4Square.g (m.1, (m.2.1, m.2.2)) = ((sizesK m && !decide (facK m = [])) && (decide (m.2.1 = m.1) && decide (2 * m.1 ≤ 8))) := rfl
  simp only [Z0, Z1, Z2, Z3, e0, g, lk_eq]
  cases h1 : ((sizesK m && !decide (facK m = [])) && (decide (m.2.1 = m.1) && decide (2 * m.1 ≤ 8)))
  · rfl
  have hs : sizesK m = true := by
    simp only [Bool.and_eq_true] at h1
    exact h1.1.1
  have hd := shaped_dim (sizes_shaped hs)
  by_cases h2 : (ks.length : Int) ≤ 40
  · rw [df (show ¬ (40 : Int) < ks.length by omega), dt h2]
    simp only [Bool.not_true, cond_false, Z4, Z5]
    rw [ct (show spec_l1Principal.P (m.1, (m.2.1, m.2.2)) = true from hd)]
    simp only [Z6, Z7, Z8, Z9, Z10]
    have := loop (ρ := Unit × List (Int × Int × List Int) × Bool × Unit) N (fun t4 t5 => some ((), (t4, (t5, ())))) ks (by omega) N 0 [] (princK m) rfl (by omega) (by omega)
    rw [show ((0 : Nat) : Int) = 0 from rfl, List.drop_zero] at this
    refine this.trans ?_
    simp only [Bool.and_true, if_true, List.nil_append]
    cases hw : walkK mutG (princK m) ks with
    | mk a b =>
      cases b
      · have : a = [] := by
          cases ks with
          | nil => rw [walkK] at hw; cases hw
          | cons k ks =>
            rw [walkK] at hw
            split at hw
            · split at hw
              · cases hw
              · cases hw; rfl
            · cases hw; rfl
        subst this
        rfl
      · rfl
  · rw [dt (show (40 : Int) < ks.length by omega), df h2]; rfl⟩
theorem last {m : Int × Int × List Int} {ks : List Int} (h : (g m ks).2 = true) : (g m ks).1.length = ks.length + 1 ∧ dimK ((g m ks).1.getD ks.length (0, (0, []))) = true ∧ ((g m ks).1.getD ks.length (0, (0, []))).1 = m.1 ∧ ks.length ≤ 40 ∧ dimK m = true := by
  unfold g at h ⊢
  split
  · rename_i hc
    rw [if_pos hc] at h
    simp only [Bool.and_eq_true, decide_eq_true_eq] at hc
    have hd := shaped_dim (sizes_shaped hc.1.1.1)
    obtain ⟨h1, h2, h3⟩ := walk_last (fun m k h => dim_mutG h) ks (princK m) (dim_princ hd hc.1.2.1 hc.1.2.2) h
    exact ⟨h1, h2, h3, by omega, hd⟩
  · rename_i hc
    rw [if_neg hc] at h; cases h

end spec_l4Along
end
end Go.Fw
/-! Both programs walk alike. -/
set_option linter.unusedVariables false
namespace Go.Fw
theorem walk_alike (m : Int × Int × List Int) (ks : List Int) : impl_walk.g m ks = spec_l4Along.g m ks := by
  unfold impl_walk.g spec_l4Along.g impl_PrincipalMatrix.g
  rw [impl_mutG, ok_alike]
  cases ((sizesK m && !decide (facK m = [])) && (decide (m.2.1 = m.1) && decide (2 * m.1 ≤ 8))) <;> rfl
end Go.Fw
set_option linter.unusedVariables false
set_option linter.unusedSimpArgs false
set_option maxRecDepth 100000
namespace Go.Fw
noncomputable section
namespace laws_markIntS
def mk : List Int → Int → List Int × Int
  | [], k => ([], k)
  | _ :: xs, k => (k :: (mk xs (w64 (k + 1))).1, (mk xs (w64 (k + 1))).2)
def g (a : List Int) (k : Int) : List Int × Int := mk a k
end laws_markIntS
namespace laws_markIntS
def Z1 {ρ : Type} (N : Nat) (v0 : List Int) (v1 : Int) (kn : List Int → Int → Option ρ) : Option ρ :=
 kn v0 v1
def Z4 {ρ : Type} (N : Nat) (v0 : List Int) (v1 : Int) (kn : List Int → Int → Int → Option ρ) : Option ρ :=
 kn v0 v1 0
def Z7 {ρ : Type} (N : Nat) (v0 : List Int) (v1 v5 : Int) (kn : List Int → Int → Int → Option ρ) (k0 : List Int → Int → Option ρ) : Option ρ :=
 cond (lk N (decide (v5 < (v0.length : Int))))
 (
  cond (lk N (inB v5 v0.length)) (
   kn (v0.set v5.toNat v1) (w64 (v1 + 1)) (w64 (v5 + 1))) none)
 (
  k0 v0 v1)
def Z6L {ρ : Type} (N : Nat) (k0 : List Int → Int → Option ρ) : Nat → List Int → Int → Int → Option ρ
  | 0, _, _, _ => none
  | M + 1, v0, v1, v5 => Z7 N v0 v1 v5 (fun v0 v1 v5 => Z6L N k0 M v0 v1 v5) k0
def Z6 {ρ : Type} (N : Nat) (v0 : List Int) (v1 v5 : Int) (k0 : List Int → Int → Option ρ) : Option ρ := Z6L N k0 N v0 v1 v5
def Z5 {ρ : Type} (N : Nat) (v0 : List Int) (v1 v5 : Int) (kn : List Int → Int → Option ρ) : Option ρ := Z6 N v0 v1 v5 kn
def Z3 {ρ : Type} (N : Nat) (v0 : List Int) (v1 : Int) (kn : List Int → Int → Option ρ) : Option ρ := Z4 N v0 v1 (fun v0 v1 v5 => Z5 N v0 v1 v5 kn)
def Z8 {ρ : Type} (N : Nat) (io100000 : List Int) (v1 : Int) (kr : List Int → Int → Option ρ) : Option ρ :=
 kr io100000 v1
def Z2 {ρ : Type} (N : Nat) (v0 : List Int) (v1 : Int) (kr : List Int → Int → Option ρ) : Option ρ := Z3 N v0 v1 (fun io100000 v1 => Z8 N io100000 v1 kr)
def Z0 {ρ : Type} (N : Nat) (v0 : List Int) (v1 : Int) (kr : List Int → Int → Option ρ) : Option ρ := Z1 N v0 v1 (fun v0 v1 => Z2 N v0 v1 kr)
def Spec : Prop := ∀  (v0 : List Int) (v1 : Int), Ty.bd (.sl 0 (.int .i64)) v0 → ∃ N0, ∀ N, N0 ≤ N → Z0 N v0 v1 (fun io100000 v4 => some (io100000, (v4, ()))) = some ((g v0 v1).1, ((g v0 v1).2, ()))

theorem loop {ρ : Type} (N : Nat) (k0 : List Int → Int → Option ρ) : ∀ (M j : Nat) (a : List Int) (k : Int), a.length ≤ maxLen → j ≤ a.length → a.length - j < M →
    Z6L N k0 M a k (j : Int) = k0 (a.take j ++ (mk (a.drop j) k).1) (mk (a.drop j) k).2 := by
  intro M
  induction M with
  | zero => intro j a k _ _ h; omega
  | succ M ih =>
    intro j a k ha hj hM
    simp only [Z6L, Z7]
    by_cases h : j < a.length
    · rw [ct (dt (by omega)), ct (inB_nat h), Int.toNat_natCast, w64_succ (by omega), ih (j + 1) _ _ (by simpa using ha) (by simp; omega) (by simp; omega), drop_getD 0 h,
        List.drop_set_of_lt (by omega), take_set_s (by omega)]
      simp [mk]
    · have : j = a.length := by omega
      subst this
      rw [cf (df (by omega))]
      simp [mk]
theorem ok : Spec := fun a k ha => ⟨a.length + 1, fun N hN => by
  simp only [Z1, Z4, Z7, Z6, Z5, Z3, Z8, Z2, Z0]
  rw [show (0 : Int) = ((0 : Nat) : Int) from rfl, loop _ _ _ 0 a k ha.1 (by omega) (by omega)]
  simp [g]⟩
theorem mk_len : ∀ (a : List Int) (k : Int), (mk a k).1.length = a.length
  | [], _ => rfl
  | _ :: xs, k => by simp [mk, mk_len xs]
theorem mk_end : ∀ (a : List Int) (k : Int), 0 ≤ k → k + a.length < 9223372036854775808 → (mk a k).2 = k + a.length
  | [], k, _, _ => by simp [mk]
  | _ :: xs, k, h0, h => by
    simp only [mk, List.length_cons] at h ⊢
    rw [w64_id (by omega) (by omega), mk_end xs (k + 1) (by omega) (by omega)]
    omega

end laws_markIntS
end
end Go.Fw
set_option linter.unusedVariables false
set_option linter.unusedSimpArgs false
set_option maxRecDepth 100000
namespace Go.Fw
noncomputable section
namespace laws_heldIntS
def hd : List Int → Int → Int
  | [], k => k
  | x :: xs, k => if x = k then hd xs (w64 (k + 1)) else -1
def g (a : List Int) (k : Int) : Int := hd a k
end laws_heldIntS
namespace laws_heldIntS
def Z1 {ρ : Type} (N : Nat) (v0 : List Int) (v1 : Int) (kn : List Int → Int → Option ρ) : Option ρ :=
 kn v0 v1
def Z4 {ρ : Type} (N : Nat) (v0 : List Int) (v1 : Int) (kn : List Int → Int → Int → Option ρ) : Option ρ :=
 kn v0 v1 0
def Z7 {ρ : Type} (N : Nat) (v0 : List Int) (v1 v5 : Int) (kn : List Int → Int → Int → Option ρ) (k0 kr : Int → Option ρ) : Option ρ :=
 cond (lk N (decide (v5 < (v0.length : Int))))
 (
  cond (lk N (inB v5 v0.length)) (
   cond (lk N (!(decide ((v0.getD v5.toNat 0) = v1))))
   (
    kr (-1))
   (
    kn v0 (w64 (v1 + 1)) (w64 (v5 + 1)))) none)
 (
  k0 v1)
def Z6L {ρ : Type} (N : Nat) (k0 kr : Int → Option ρ) : Nat → List Int → Int → Int → Option ρ
  | 0, _, _, _ => none
  | M + 1, v0, v1, v5 => Z7 N v0 v1 v5 (fun v0 v1 v5 => Z6L N k0 kr M v0 v1 v5) k0 kr
def Z6 {ρ : Type} (N : Nat) (v0 : List Int) (v1 v5 : Int) (k0 kr : Int → Option ρ) : Option ρ := Z6L N k0 kr N v0 v1 v5
def Z5 {ρ : Type} (N : Nat) (v0 : List Int) (v1 v5 : Int) (kn kr : Int → Option ρ) : Option ρ := Z6 N v0 v1 v5 kn kr
def Z3 {ρ : Type} (N : Nat) (v0 : List Int) (v1 : Int) (kn kr : Int → Option ρ) : Option ρ := Z4 N v0 v1 (fun v0 v1 v5 => Z5 N v0 v1 v5 kn kr)
def Z8 {ρ : Type} (N : Nat) (v1 : Int) (kr : Int → Option ρ) : Option ρ :=
 kr v1
def Z2 {ρ : Type} (N : Nat) (v0 : List Int) (v1 : Int) (kr : Int → Option ρ) : Option ρ := Z3 N v0 v1 (fun v1 => Z8 N v1 kr) kr
def Z0 {ρ : Type} (N : Nat) (v0 : List Int) (v1 : Int) (kr : Int → Option ρ) : Option ρ := Z1 N v0 v1 (fun v0 v1 => Z2 N v0 v1 kr)
def Spec : Prop := ∀  (v0 : List Int) (v1 : Int), Ty.bd (.sl 0 (.int .i64)) v0 → ∃ N0, ∀ N, N0 ≤ N → Z0 N v0 v1 (fun v4 => some ((), (v4, ()))) = some ((), ((g v0 v1), ()))

theorem loop {ρ : Type} (N : Nat) (kr : Int → Option ρ) (a : List Int) (ha : a.length ≤ maxLen) : ∀ (M j : Nat) (k : Int), j ≤ a.length → a.length - j < M →
    Z6L N kr kr M a k (j : Int) = kr (hd (a.drop j) k) := by
  intro M
  induction M with
  | zero => intro j k _ h; omega
  | succ M ih =>
    intro j k hj hM
    simp only [Z6L, Z7]
    by_cases h : j < a.length
    · rw [ct (dt (by omega)), ct (inB_nat h), Int.toNat_natCast, w64_succ (by omega), ih (j + 1) _ h (by omega), drop_getD 0 h]
      by_cases e : a.getD j 0 = k
      · rw [cf (nf e), hd, if_pos e]
      · rw [ct (nt e), hd, if_neg e]
    · rw [cf (df (by omega)), List.drop_of_length_le (by omega), hd]
theorem ok : Spec := fun a k ha => ⟨a.length + 1, fun N hN => by
  simp only [Z1, Z4, Z7, Z6, Z5, Z3, Z8, Z2, Z0]
  rw [show (0 : Int) = ((0 : Nat) : Int) from rfl, loop _ _ a ha.1 N 0 k (by omega) (by omega)]
  simp [g]⟩

end laws_heldIntS
end
end Go.Fw
/-! What was marked is held: numbers. -/
set_option linter.unusedVariables false
namespace Go.Fw
theorem heldInt_mark : ∀ (a : List Int) (k : Int), laws_heldIntS.g (laws_markIntS.g a k).1 k = (laws_markIntS.g a k).2
  | [], k => rfl
  | x :: xs, k => by
    have ih := heldInt_mark xs (w64 (k + 1))
    simp only [laws_heldIntS.g, laws_markIntS.g, laws_markIntS.mk, laws_heldIntS.hd, if_true] at ih ⊢
    exact ih
end Go.Fw
set_option linter.unusedVariables false
set_option linter.unusedSimpArgs false
set_option maxRecDepth 100000
namespace Go.Fw
noncomputable section
namespace laws_markMatrix
def g (a : Int × Int × List Int) (k : Int) : (Int × Int × List Int) × Int := ((a.1, a.2.1, (laws_markIntS.g a.2.2 k).1), (laws_markIntS.g a.2.2 k).2)
end laws_markMatrix
namespace laws_markMatrix
def Z0 {ρ : Type} (N : Nat) (v0 : Int × Int × List Int) (v1 : Int) (kr : List Int → Int → Int → Int → Option ρ) : Option ρ :=
 kr (laws_markIntS.g v0.2.2 v1).1 (laws_markIntS.g v0.2.2 v1).2 v0.1 v0.2.1
def Spec : Prop := ∀  (v0 : Int × Int × List Int) (v1 : Int), Ty.bd (.pair (.int .i64) (.pair (.int .i64) (.sl 0 (.int .i64)))) v0 → ∃ N0, ∀ N, N0 ≤ N → Z0 N v0 v1 (fun io100000_2 v4 io100000_0 io100000_1 => some ((io100000_0, (io100000_1, io100000_2)), (v4, ()))) = some ((g v0 v1).1, ((g v0 v1).2, ()))

theorem ok : Spec := fun a k ha => ⟨0, fun N hN => by simp only [Z0, g]⟩

end laws_markMatrix
end
end Go.Fw
/-! Marks on a matrix and on numbers. -/
set_option linter.unusedVariables false
namespace Go.Fw
/-- Marks on a matrix and on numbers after it. -/
theorem mark_two (m : Int × Int × List Int) (l : List Int) (h1 : m.2.2.length ≤ 1048576) (h2 : l.length ≤ 1048576) : ¬ (laws_markIntS.g l (laws_markMatrix.g m 1).2).2 < 0 := by
  have e1 : (laws_markMatrix.g m 1).2 = 1 + m.2.2.length := laws_markIntS.mk_end m.2.2 1 (by omega) (by omega)
  rw [e1]
  have e2 : (laws_markIntS.g l (1 + (m.2.2.length : Int))).2 = 1 + (m.2.2.length : Int) + l.length := laws_markIntS.mk_end l _ (by omega) (by omega)
  rw [e2]
  omega
end Go.Fw
set_option linter.unusedVariables false
set_option linter.unusedSimpArgs false
set_option maxRecDepth 100000
namespace Go.Fw
noncomputable section
namespace laws_markIntSS
def mk : List (List Int) → Int → List (List Int) × Int
  | [], k => ([], k)
  | t :: ts, k => ((laws_markIntS.g t k).1 :: (mk ts (laws_markIntS.g t k).2).1, (mk ts (laws_markIntS.g t k).2).2)
def g (a : List (List Int)) (k : Int) : List (List Int) × Int := mk a k
end laws_markIntSS
namespace laws_markIntSS
def Z1 {ρ : Type} (N : Nat) (v0 : List (List Int)) (v1 : Int) (kn : List (List Int) → Int → Option ρ) : Option ρ :=
 kn v0 v1
def Z4 {ρ : Type} (N : Nat) (v0 : List (List Int)) (v1 : Int) (kn : List (List Int) → Int → Int → Option ρ) : Option ρ :=
 kn v0 v1 0
def Z7 {ρ : Type} (N : Nat) (v0 : List (List Int)) (v1 v5 : Int) (kn : List (List Int) → Int → Int → Option ρ) (k0 : List (List Int) → Int → Option ρ) : Option ρ :=
 cond (lk N (decide (v5 < (v0.length : Int))))
 (
  cond (lk N (inB v5 v0.length)) (
   kn (v0.set v5.toNat (laws_markIntS.g (v0.getD v5.toNat []) v1).1) (laws_markIntS.g (v0.getD v5.toNat []) v1).2 (w64 (v5 + 1))) none)
 (
  k0 v0 v1)
def Z6L {ρ : Type} (N : Nat) (k0 : List (List Int) → Int → Option ρ) : Nat → List (List Int) → Int → Int → Option ρ
  | 0, _, _, _ => none
  | M + 1, v0, v1, v5 => Z7 N v0 v1 v5 (fun v0 v1 v5 => Z6L N k0 M v0 v1 v5) k0
def Z6 {ρ : Type} (N : Nat) (v0 : List (List Int)) (v1 v5 : Int) (k0 : List (List Int) → Int → Option ρ) : Option ρ := Z6L N k0 N v0 v1 v5
def Z5 {ρ : Type} (N : Nat) (v0 : List (List Int)) (v1 v5 : Int) (kn : List (List Int) → Int → Option ρ) : Option ρ := Z6 N v0 v1 v5 kn
def Z3 {ρ : Type} (N : Nat) (v0 : List (List Int)) (v1 : Int) (kn : List (List Int) → Int → Option ρ) : Option ρ := Z4 N v0 v1 (fun v0 v1 v5 => Z5 N v0 v1 v5 kn)
def Z8 {ρ : Type} (N : Nat) (io100000 : List (List Int)) (v1 : Int) (kr : List (List Int) → Int → Option ρ) : Option ρ :=
 kr io100000 v1
def Z2 {ρ : Type} (N : Nat) (v0 : List (List Int)) (v1 : Int) (kr : List (List Int) → Int → Option ρ) : Option ρ := Z3 N v0 v1 (fun io100000 v1 => Z8 N io100000 v1 kr)
def Z0 {ρ : Type} (N : Nat) (v0 : List (List Int)) (v1 : Int) (kr : List (List Int) → Int → Option ρ) : Option ρ := Z1 N v0 v1 (fun v0 v1 => Z2 N v0 v1 kr)
def Spec : Prop := ∀  (v0 : List (List Int)) (v1 : Int), Ty.bd (.sl 0 (.sl 0 (.int .i64))) v0 → ∃ N0, ∀ N, N0 ≤ N → Z0 N v0 v1 (fun io100000 v4 => some (io100000, (v4, ()))) = some ((g v0 v1).1, ((g v0 v1).2, ()))

theorem loop {ρ : Type} (N : Nat) (k0 : List (List Int) → Int → Option ρ) : ∀ (M j : Nat) (a : List (List Int)) (k : Int), a.length ≤ maxLen → j ≤ a.length → a.length - j < M →
    Z6L N k0 M a k (j : Int) = k0 (a.take j ++ (mk (a.drop j) k).1) (mk (a.drop j) k).2 := by
  intro M
  induction M with
  | zero => intro j a k _ _ h; omega
  | succ M ih =>
    intro j a k ha hj hM
    simp only [Z6L, Z7]
    by_cases h : j < a.length
    · rw [ct (dt (by omega)), ct (inB_nat h), Int.toNat_natCast, w64_succ (by omega), ih (j + 1) _ _ (by simpa using ha) (by simp; omega) (by simp; omega), drop_getD [] h,
        List.drop_set_of_lt (by omega), take_set_s (by omega)]
      simp [mk]
    · have : j = a.length := by omega
      subst this
      rw [cf (df (by omega))]
      simp [mk]
theorem ok : Spec := fun a k ha => ⟨a.length + 1, fun N hN => by
  simp only [Z1, Z4, Z7, Z6, Z5, Z3, Z8, Z2, Z0]
  rw [show (0 : Int) = ((0 : Nat) : Int) from rfl, loop _ _ _ 0 a k ha.1 (by omega) (by omega)]
  simp [g]⟩

end laws_markIntSS
end
end Go.Fw
set_option linter.unusedVariables false
set_option linter.unusedSimpArgs false
set_option maxRecDepth 100000
namespace Go.Fw
noncomputable section
namespace laws_heldIntSS
def hd : List (List Int) → Int → Int
  | [], k => k
  | t :: ts, k => if laws_heldIntS.g t k < 0 then -1 else hd ts (laws_heldIntS.g t k)
def g (a : List (List Int)) (k : Int) : Int := hd a k
end laws_heldIntSS
namespace laws_heldIntSS
def Z1 {ρ : Type} (N : Nat) (v0 : List (List Int)) (v1 : Int) (kn : List (List Int) → Int → Option ρ) : Option ρ :=
 kn v0 v1
def Z4 {ρ : Type} (N : Nat) (v0 : List (List Int)) (v1 : Int) (kn : List (List Int) → Int → Int → Option ρ) : Option ρ :=
 kn v0 v1 0
def Z7 {ρ : Type} (N : Nat) (v0 : List (List Int)) (v1 v5 : Int) (kn : List (List Int) → Int → Int → Option ρ) (k0 kr : Int → Option ρ) : Option ρ :=
 cond (lk N (decide (v5 < (v0.length : Int))))
 (
  cond (lk N (inB v5 v0.length)) (
   cond (lk N (decide ((laws_heldIntS.g (v0.getD v5.toNat []) v1) < 0)))
   (
    kr (-1))
   (
    kn v0 (laws_heldIntS.g (v0.getD v5.toNat []) v1) (w64 (v5 + 1)))) none)
 (
  k0 v1)
def Z6L {ρ : Type} (N : Nat) (k0 kr : Int → Option ρ) : Nat → List (List Int) → Int → Int → Option ρ
  | 0, _, _, _ => none
  | M + 1, v0, v1, v5 => Z7 N v0 v1 v5 (fun v0 v1 v5 => Z6L N k0 kr M v0 v1 v5) k0 kr
def Z6 {ρ : Type} (N : Nat) (v0 : List (List Int)) (v1 v5 : Int) (k0 kr : Int → Option ρ) : Option ρ := Z6L N k0 kr N v0 v1 v5
def Z5 {ρ : Type} (N : Nat) (v0 : List (List Int)) (v1 v5 : Int) (kn kr : Int → Option ρ) : Option ρ := Z6 N v0 v1 v5 kn kr
def Z3 {ρ : Type} (N : Nat) (v0 : List (List Int)) (v1 : Int) (kn kr : Int → Option ρ) : Option ρ := Z4 N v0 v1 (fun v0 v1 v5 => Z5 N v0 v1 v5 kn kr)
def Z8 {ρ : Type} (N : Nat) (v1 : Int) (kr : Int → Option ρ) : Option ρ :=
 kr v1
def Z2 {ρ : Type} (N : Nat) (v0 : List (List Int)) (v1 : Int) (kr : Int → Option ρ) : Option ρ := Z3 N v0 v1 (fun v1 => Z8 N v1 kr) kr
def Z0 {ρ : Type} (N : Nat) (v0 : List (List Int)) (v1 : Int) (kr : Int → Option ρ) : Option ρ := Z1 N v0 v1 (fun v0 v1 => Z2 N v0 v1 kr)
def Spec : Prop := ∀  (v0 : List (List Int)) (v1 : Int), Ty.bd (.sl 0 (.sl 0 (.int .i64))) v0 → ∃ N0, ∀ N, N0 ≤ N → Z0 N v0 v1 (fun v4 => some ((), (v4, ()))) = some ((), ((g v0 v1), ()))

theorem loop {ρ : Type} (N : Nat) (kr : Int → Option ρ) (a : List (List Int)) (ha : a.length ≤ maxLen) : ∀ (M j : Nat) (k : Int), j ≤ a.length → a.length - j < M →
    Z6L N kr kr M a k (j : Int) = kr (hd (a.drop j) k) := by
  intro M
  induction M with
  | zero => intro j k _ h; omega
  | succ M ih =>
    intro j k hj hM
    simp only [Z6L, Z7]
    by_cases h : j < a.length
    · rw [ct (dt (by omega)), ct (inB_nat h), Int.toNat_natCast, w64_succ (by omega), ih (j + 1) _ h (by omega), drop_getD [] h]
      by_cases e1 : laws_heldIntS.g (a.getD j []) k < 0
      · rw [ct (dt e1), hd, if_pos e1]
      · rw [cf (df e1), hd, if_neg e1]
    · rw [cf (df (by omega)), List.drop_of_length_le (by omega), hd]
theorem ok : Spec := fun a k ha => ⟨a.length + 1, fun N hN => by
  simp only [Z1, Z4, Z7, Z6, Z5, Z3, Z8, Z2, Z0]
  rw [show (0 : Int) = ((0 : Nat) : Int) from rfl, loop _ _ a ha.1 N 0 k (by omega) (by omega)]
  simp [g]⟩

end laws_heldIntSS
end
end Go.Fw
/-! What was marked is held: lists of numbers. -/
set_option linter.unusedVariables false
namespace Go.Fw
/-- How many numbers there are. -/
def szSS : List (List Int) → Nat
  | [] => 0
  | t :: ts => t.length + szSS ts
theorem heldSS_mark : ∀ (l : List (List Int)) (k : Int), 0 ≤ k → k + szSS l < 9223372036854775808 →
    laws_heldIntSS.g (laws_markIntSS.g l k).1 k = (laws_markIntSS.g l k).2 ∧ (laws_markIntSS.g l k).2 = k + szSS l
  | [], k, _, _ => ⟨rfl, by simp [laws_markIntSS.g, laws_markIntSS.mk, szSS]⟩
  | t :: ts, k, h0, h => by
    simp only [szSS] at h ⊢
    have e1 := laws_markIntS.mk_end t k h0 (by omega)
    have e2 := heldInt_mark t k
    have e3 : (laws_markIntS.g t k).2 = k + t.length := e1
    obtain ⟨i1, i2⟩ := heldSS_mark ts (k + t.length) (by omega) (by omega)
    simp only [laws_heldIntSS.g, laws_markIntSS.g, laws_markIntSS.mk, laws_heldIntSS.hd, e2, e3] at i1 i2 ⊢
    rw [if_neg (by omega)]
    exact ⟨i1, by rw [i2]; omega⟩
theorem szSS_le {l : List (List Int)} {a b : Nat} (h1 : l.length ≤ a) (h2 : ∀ x ∈ l, x.length ≤ b) : szSS l ≤ a * b := by
  have : szSS l ≤ l.length * b := by
    clear h1
    induction l with
    | nil => simp [szSS]
    | cons x xs ih =>
      have h3 := ih (fun y hy => h2 y (List.mem_cons_of_mem _ hy))
      have h4 := h2 x List.mem_cons_self
      rw [szSS, List.length_cons, Nat.add_mul, Nat.one_mul]
      omega
  exact Nat.le_trans this (Nat.mul_le_mul_right b h1)
theorem ss_mark (x : List (List Int)) (h : szSS x < 4611686018427387904) : laws_heldIntSS.g (laws_markIntSS.g x 1).1 1 = (laws_markIntSS.g x 1).2 ∧ ¬ (laws_markIntSS.g x 1).2 < 0 := by
  obtain ⟨h1, h2⟩ := heldSS_mark x 1 (by omega) (by omega)
  exact ⟨h1, by omega⟩
end Go.Fw
set_option linter.unusedVariables false
set_option linter.unusedSimpArgs false
set_option maxRecDepth 100000
namespace Go.Fw
noncomputable section
namespace spec_l4Lower
def P (m : Int × Int × List Int) : Bool := dimK m
def g (m : Int × Int × List Int) : List (List Int) := lowK m
end spec_l4Lower
namespace spec_l4Lower
def Z1 {ρ : Type} (N : Nat) (v0 : Int × Int × List Int) (kn : Int → Int → List Int → Option ρ) : Option ρ :=
 kn v0.1 v0.2.1 v0.2.2
def Z3 {ρ : Type} (N : Nat) (v1_0 v1_1 : Int) (v1_2 : List Int) (kn : List (List Int) → Int → Int → List Int → Option ρ) : Option ρ :=
 kn ([] : List (List Int)) v1_0 v1_1 v1_2
def Z6 {ρ : Type} (N : Nat) (v3 : List (List Int)) (v1_0 v1_1 : Int) (v1_2 : List Int) (kn : List (List Int) → Int → Int → Int → List Int → Option ρ) : Option ρ :=
 kn v3 v1_0 v1_0 v1_1 v1_2
def Z9 {ρ : Type} (N : Nat) (v3 : List (List Int)) (v4 v1_0 v1_1 : Int) (v1_2 : List Int) (kn : List (List Int) → Int → Int → Int → List Int → Option ρ) (k0 : List (List Int) → Option ρ) : Option ρ :=
 cond (lk N (decide (v4 < v1_1)))
 (
  cond (lk N (leB 0 (w64 (v4 * v1_0)) && (leB (w64 (v4 * v1_0)) (w64 ((w64 (v4 * v1_0)) + v1_0)) && leB (w64 ((w64 (v4 * v1_0)) + v1_0)) v1_2.length))) (
   cond (lk N (spec_l1Ints.P ((v1_2.drop (w64 (v4 * v1_0)).toNat).take ((w64 ((w64 (v4 * v1_0)) + v1_0)) - (w64 (v4 * v1_0))).toNat))) (
    cond (lk N (Nat.blt (v3.length + ([(spec_l1Ints.g ((v1_2.drop (w64 (v4 * v1_0)).toNat).take ((w64 ((w64 (v4 * v1_0)) + v1_0)) - (w64 (v4 * v1_0))).toNat))] : List (List Int)).length) 1099511627776)) (
     kn (v3 ++ ([(spec_l1Ints.g ((v1_2.drop (w64 (v4 * v1_0)).toNat).take ((w64 ((w64 (v4 * v1_0)) + v1_0)) - (w64 (v4 * v1_0))).toNat))] : List (List Int))) (w64 (v4 + 1)) v1_0 v1_1 v1_2) none) none) none)
 (
  k0 v3)
def Z8L {ρ : Type} (N : Nat) (k0 : List (List Int) → Option ρ) : Nat → List (List Int) → Int → Int → Int → List Int → Option ρ
  | 0, _, _, _, _, _ => none
  | M + 1, v3, v4, v1_0, v1_1, v1_2 => Z9 N v3 v4 v1_0 v1_1 v1_2 (fun v3 v4 v1_0 v1_1 v1_2 => Z8L N k0 M v3 v4 v1_0 v1_1 v1_2) k0
def Z8 {ρ : Type} (N : Nat) (v3 : List (List Int)) (v4 v1_0 v1_1 : Int) (v1_2 : List Int) (k0 : List (List Int) → Option ρ) : Option ρ := Z8L N k0 N v3 v4 v1_0 v1_1 v1_2
def Z7 {ρ : Type} (N : Nat) (v3 : List (List Int)) (v4 v1_0 v1_1 : Int) (v1_2 : List Int) (kn : List (List Int) → Option ρ) : Option ρ := Z8 N v3 v4 v1_0 v1_1 v1_2 kn
def Z5 {ρ : Type} (N : Nat) (v3 : List (List Int)) (v1_0 v1_1 : Int) (v1_2 : List Int) (kn : List (List Int) → Option ρ) : Option ρ := Z6 N v3 v1_0 v1_1 v1_2 (fun v3 v4 v1_0 v1_1 v1_2 => Z7 N v3 v4 v1_0 v1_1 v1_2 kn)
def Z10 {ρ : Type} (N : Nat) (v3 : List (List Int)) (kr : List (List Int) → Option ρ) : Option ρ :=
 kr v3
def Z4 {ρ : Type} (N : Nat) (v3 : List (List Int)) (v1_0 v1_1 : Int) (v1_2 : List Int) (kr : List (List Int) → Option ρ) : Option ρ := Z5 N v3 v1_0 v1_1 v1_2 (fun v3 => Z10 N v3 kr)
def Z2 {ρ : Type} (N : Nat) (v1_0 v1_1 : Int) (v1_2 : List Int) (kr : List (List Int) → Option ρ) : Option ρ := Z3 N v1_0 v1_1 v1_2 (fun v3 v1_0 v1_1 v1_2 => Z4 N v3 v1_0 v1_1 v1_2 kr)
def Z0 {ρ : Type} (N : Nat) (v0 : Int × Int × List Int) (kr : List (List Int) → Option ρ) : Option ρ := Z1 N v0 (fun v1_0 v1_1 v1_2 => Z2 N v1_0 v1_1 v1_2 kr)
def Spec : Prop := ∀  (v0 : Int × Int × List Int), Ty.bd (.pair (.int .i64) (.pair (.int .i64) (.sl 0 (.int .i64)))) v0 → P v0 = true → ∃ N0, ∀ N, N0 ≤ N → Z0 N v0 (fun v2 => some ((), (v2, ()))) = some ((), ((g v0), ()))

theorem loop {ρ : Type} {N : Nat} {m : Int × Int × List Int} (hd : dimK m = true) (k0 : List (List Int) → Option ρ) : ∀ (M t : Nat), t ≤ m.2.1.toNat - m.1.toNat → m.2.1.toNat - m.1.toNat - t < M →
    Z8L N k0 M ((lowK m).take t) ((m.1.toNat + t : Nat) : Int) m.1 m.2.1 m.2.2 = k0 (lowK m) := by
  obtain ⟨n, r, hn, hr, hn1, hn5, hnr, hr8, hl⟩ := dim_nat hd
  have hcl : (lowK m).length = m.2.1.toNat - m.1.toNat := by simp [lowK]
  intro M
  induction M with
  | zero => intro t _ h; omega
  | succ M ih =>
    intro t ht hM
    simp only [Z8L, Z9]
    by_cases h : t < m.2.1.toNat - m.1.toNat
    · have ha : (lowK m).take t ++ [rowK m (m.1.toNat + t)] = (lowK m).take (t + 1) := car_take (fun t => rowK m (m.1.toNat + t)) h
      have e : ((m.1.toNat + t : Nat) : Int) * m.1 = (((m.1.toNat + t) * m.1.toNat : Nat) : Int) := by rw [Int.natCast_mul, hn]; simp
      have hb1 : (m.1.toNat + t) * m.1.toNat ≤ 8 * 5 := Nat.mul_le_mul (by omega) (by omega)
      have hb2 : (m.1.toNat + t) * m.1.toNat + m.1.toNat ≤ m.2.2.length := by
        have := Nat.mul_le_mul_right n (show m.1.toNat + t + 1 ≤ r by omega)
        rw [Nat.add_mul, Nat.one_mul] at this
        rw [hl, show m.1.toNat = n by omega]
        rw [show m.1.toNat = n by omega] at this
        exact this
      have e1 : w64 ((((m.1.toNat + t) * m.1.toNat : Nat) : Int)) = (((m.1.toNat + t) * m.1.toNat : Nat) : Int) := w64_id (by omega) (by omega)
      have e2 : w64 ((((m.1.toNat + t) * m.1.toNat : Nat) : Int) + m.1) = (((m.1.toNat + t) * m.1.toNat : Nat) : Int) + m.1 := w64_id (by omega) (by omega)
      have hsl : (m.2.2.drop ((((m.1.toNat + t) * m.1.toNat : Nat) : Int)).toNat).take (((((m.1.toNat + t) * m.1.toNat : Nat) : Int) + m.1) - (((m.1.toNat + t) * m.1.toNat : Nat) : Int)).toNat = rowK m (m.1.toNat + t) := by
        rw [Int.toNat_natCast, show ((((m.1.toNat + t) * m.1.toNat : Nat) : Int) + m.1 - (((m.1.toNat + t) * m.1.toNat : Nat) : Int)).toNat = m.1.toNat by omega]
        exact row_slice hd (by omega)
      rw [ct (dt (by omega))]
      simp only [e, e1, e2, hsl]
      have hrl : (rowK m (m.1.toNat + t)).length = m.1.toNat := by simp [rowK]
      rw [ct (by rw [leB_t (by omega), leB_t (by omega), leB_t (by omega)]; rfl), ct (show spec_l1Ints.P (rowK m (m.1.toNat + t)) = true from dt (by omega)), ct (by rw [Nat.blt_eq, List.length_take, hcl, List.length_singleton]; omega),
        show spec_l1Ints.g (rowK m (m.1.toNat + t)) = rowK m (m.1.toNat + t) from rfl, ha, w64_succ (by rw [maxLen_val]; omega)]
      exact ih (t + 1) h (by omega)
    · rw [cf (df (by omega)), List.take_of_length_le (by rw [hcl]; omega)]
theorem ok : Spec := fun m hb hp => ⟨10, fun N hN => by
  have hd : dimK m = true := hp
  obtain ⟨n, r, hn, hr, hn1, hn5, hnr, hr8, hl⟩ := dim_nat hd
  simp only [Z0, Z1, Z2, Z3, Z4, Z5, Z6, Z7, Z8]
  have := loop (ρ := Unit × List (List Int) × Unit) (N := N) hd (fun out3 => Z10 N out3 (fun t2 => some ((), (t2, ())))) N 0 (by omega) (by omega)
  rw [List.take_zero, Nat.add_zero, show ((m.1.toNat : Nat) : Int) = m.1 by omega] at this
  exact this⟩

end spec_l4Lower
end
end Go.Fw
set_option linter.unusedVariables false
set_option linter.unusedSimpArgs false
set_option maxRecDepth 100000
namespace Go.Fw
noncomputable section
namespace spec_CVectorsOf
def g (m : Int × Int × List Int) (ks : List Int) : List (List Int) × Bool :=
  if (spec_l4Along.g m ks).2 = true then (lowK ((spec_l4Along.g m ks).1.getD ks.length (0, (0, []))), true) else ([], false)
end spec_CVectorsOf
namespace spec_CVectorsOf
def Z0 {ρ : Type} (N : Nat) (v0 : Int × Int × List Int) (v1 : List Int) (kr : List (List Int) → Bool → Option ρ) : Option ρ :=
 cond (!(lk N ((spec_l4Along.g v0 v1).2)))
 (
  kr ([] : List (List Int)) false)
 (
  cond (lk N (inB (w64 (((spec_l4Along.g v0 v1).1.length : Int) - 1)) (spec_l4Along.g v0 v1).1.length)) (
   cond (lk N (spec_l4Lower.P ((spec_l4Along.g v0 v1).1.getD (w64 (((spec_l4Along.g v0 v1).1.length : Int) - 1)).toNat (0, (0, []))))) (
    kr (spec_l4Lower.g ((spec_l4Along.g v0 v1).1.getD (w64 (((spec_l4Along.g v0 v1).1.length : Int) - 1)).toNat (0, (0, [])))) true) none) none)
def Spec : Prop := ∀  (v0 : Int × Int × List Int) (v1 : List Int), Ty.bd (.pair (.int .i64) (.pair (.int .i64) (.sl 0 (.int .i64)))) v0 → Ty.bd (.sl 0 (.int .i64)) v1 → ∃ N0, ∀ N, N0 ≤ N → Z0 N v0 v1 (fun v4 v5 => some ((), (v4, (v5, ())))) = some ((), ((g v0 v1).1, ((g v0 v1).2, ())))

theorem ok : Spec := fun m ks hb hv => ⟨0, fun N hN => by
  simp only [Z0, lk_eq]
  by_cases h : (spec_l4Along.g m ks).2 = true
  · obtain ⟨h1, h2, h3, h4, h5⟩ := spec_l4Along.last h
    have e : w64 (((spec_l4Along.g m ks).1.length : Int) - 1) = (ks.length : Int) := by
      rw [h1, w64_id (by omega) (by omega)]; omega
    rw [e, Int.toNat_natCast, inB_nat (by omega), show spec_l4Lower.P ((spec_l4Along.g m ks).1.getD ks.length (0, (0, []))) = true from h2, g, h, if_pos rfl]
    rfl
  · have hf : (spec_l4Along.g m ks).2 = false := by
      cases hc : (spec_l4Along.g m ks).2
      · rfl
      · exact absurd hc h
    rw [g, hf]
    rfl⟩

end spec_CVectorsOf
end
end Go.Fw
set_option linter.unusedVariables false
set_option linter.unusedSimpArgs false
set_option maxRecDepth 100000
namespace Go.Fw
noncomputable section
namespace impl_lower
def P (m : Int × Int × List Int) : Bool := dimK m
def g (m : Int × Int × List Int) : List (List Int) := lowK m
end impl_lower
namespace impl_lower
def Z1 {ρ : Type} (N : Nat) (v0 : Int × Int × List Int) (kn : Int → Int → List Int → Option ρ) : Option ρ :=
 kn v0.1 v0.2.1 v0.2.2
def Z3 {ρ : Type} (N : Nat) (v1_0 v1_1 : Int) (v1_2 : List Int) (kn : Int → Int → List Int → Option ρ) : Option ρ :=
 kn v1_0 v1_1 v1_2
def Z6 {ρ : Type} (N : Nat) (v1_0 v1_1 : Int) (v1_2 : List Int) (kn : Int → Int → Int → List Int → Option ρ) : Option ρ :=
 kn v1_0 v1_0 v1_1 v1_2
def Z10 {ρ : Type} (N : Nat) (v3 : List (List Int)) (v4 v1_0 v1_1 : Int) (v1_2 : List Int) (kn : List (List Int) → Int → Int → Int → List Int → Option ρ) (k0 : List (List Int) → Option ρ) : Option ρ :=
 cond (lk N (decide (v4 < v1_1)))
 (
  kn v3 v4 v1_0 v1_1 v1_2)
 (
  k0 v3)
def Z14 {ρ : Type} (N : Nat) (v3 : List (List Int)) (v4 v1_0 v1_1 : Int) (v1_2 : List Int) (kn : List (List Int) → Int → Int → Int → List Int → Option ρ) : Option ρ :=
 kn v3 v4 v1_0 v1_1 v1_2
def Z17 {ρ : Type} (N : Nat) (v3 : List (List Int)) (v4 v1_0 v1_1 : Int) (v1_2 : List Int) (kn : List (List Int) → Int → Int → Int → Int → List Int → Option ρ) : Option ρ :=
 kn v3 v4 0 v1_0 v1_1 v1_2
def Z20 {ρ : Type} (N : Nat) (v3 : List (List Int)) (v5 : List Int) (v4 v6 : Int) (v1_0 v1_1 : Int) (v1_2 : List Int) (kn : List (List Int) → List Int → Int → Int → Int → Int → List Int → Option ρ) (k2 : List (List Int) → List Int → Int → Int → Int → List Int → Option ρ) : Option ρ :=
 cond (lk N (decide (v6 < v1_0)))
 (
  cond (lk N (impl_Matrix_at.P (v1_0, (v1_1, v1_2)) v4 v6)) (
   cond (lk N (Nat.blt (v5.length + ([(impl_Matrix_at.g (v1_0, (v1_1, v1_2)) v4 v6)] : List Int).length) 1099511627776)) (
    kn v3 (v5 ++ ([(impl_Matrix_at.g (v1_0, (v1_1, v1_2)) v4 v6)] : List Int)) v4 (w64 (v6 + 1)) v1_0 v1_1 v1_2) none) none)
 (
  k2 v3 v5 v4 v1_0 v1_1 v1_2)
def Z19L {ρ : Type} (N : Nat) (k2 : List (List Int) → List Int → Int → Int → Int → List Int → Option ρ) : Nat → List (List Int) → List Int → Int → Int → Int → Int → List Int → Option ρ
  | 0, _, _, _, _, _, _, _ => none
  | M + 1, v3, v5, v4, v6, v1_0, v1_1, v1_2 => Z20 N v3 v5 v4 v6 v1_0 v1_1 v1_2 (fun v3 v5 v4 v6 v1_0 v1_1 v1_2 => Z19L N k2 M v3 v5 v4 v6 v1_0 v1_1 v1_2) k2
def Z19 {ρ : Type} (N : Nat) (v3 : List (List Int)) (v4 v6 : Int) (v1_0 v1_1 : Int) (v1_2 : List Int) (k2 : List (List Int) → List Int → Int → Int → Int → List Int → Option ρ) : Option ρ := Z19L N k2 N v3 ([] : List Int) v4 v6 v1_0 v1_1 v1_2
def Z18 {ρ : Type} (N : Nat) (v3 : List (List Int)) (v4 v6 : Int) (v1_0 v1_1 : Int) (v1_2 : List Int) (kn : List (List Int) → List Int → Int → Int → Int → List Int → Option ρ) : Option ρ := Z19 N v3 v4 v6 v1_0 v1_1 v1_2 kn
def Z16 {ρ : Type} (N : Nat) (v3 : List (List Int)) (v4 v1_0 v1_1 : Int) (v1_2 : List Int) (kn : List (List Int) → List Int → Int → Int → Int → List Int → Option ρ) : Option ρ := Z17 N v3 v4 v1_0 v1_1 v1_2 (fun v3 v4 v6 v1_0 v1_1 v1_2 => Z18 N v3 v4 v6 v1_0 v1_1 v1_2 kn)
def Z21 {ρ : Type} (N : Nat) (v3 : List (List Int)) (v5 : List Int) (v4 v1_0 v1_1 : Int) (v1_2 : List Int) (kn : List (List Int) → Int → Int → Int → List Int → Option ρ) : Option ρ :=
 cond (lk N (Nat.blt (v3.length + ([v5] : List (List Int)).length) 1099511627776)) (
  kn (v3 ++ ([v5] : List (List Int))) v4 v1_0 v1_1 v1_2) none
def Z15 {ρ : Type} (N : Nat) (v3 : List (List Int)) (v4 v1_0 v1_1 : Int) (v1_2 : List Int) (kn : List (List Int) → Int → Int → Int → List Int → Option ρ) : Option ρ := Z16 N v3 v4 v1_0 v1_1 v1_2 (fun v3 v5 v4 v1_0 v1_1 v1_2 => Z21 N v3 v5 v4 v1_0 v1_1 v1_2 kn)
def Z13 {ρ : Type} (N : Nat) (v3 : List (List Int)) (v4 v1_0 v1_1 : Int) (v1_2 : List Int) (kn : List (List Int) → Int → Int → Int → List Int → Option ρ) : Option ρ := Z14 N v3 v4 v1_0 v1_1 v1_2 (fun v3 v4 v1_0 v1_1 v1_2 => Z15 N v3 v4 v1_0 v1_1 v1_2 kn)
def Z12 {ρ : Type} (N : Nat) (v3 : List (List Int)) (v4 v1_0 v1_1 : Int) (v1_2 : List Int) (kn : List (List Int) → Int → Int → Int → List Int → Option ρ) : Option ρ := Z13 N v3 v4 v1_0 v1_1 v1_2 kn
def Z22 {ρ : Type} (N : Nat) (v3 : List (List Int)) (v4 v1_0 v1_1 : Int) (v1_2 : List Int) (kn : List (List Int) → Int → Int → Int → List Int → Option ρ) : Option ρ :=
 kn v3 (w64 (v4 + 1)) v1_0 v1_1 v1_2
def Z11 {ρ : Type} (N : Nat) (v3 : List (List Int)) (v4 v1_0 v1_1 : Int) (v1_2 : List Int) (kn : List (List Int) → Int → Int → Int → List Int → Option ρ) : Option ρ := Z12 N v3 v4 v1_0 v1_1 v1_2 (fun v3 v4 v1_0 v1_1 v1_2 => Z22 N v3 v4 v1_0 v1_1 v1_2 kn)
def Z9 {ρ : Type} (N : Nat) (v3 : List (List Int)) (v4 v1_0 v1_1 : Int) (v1_2 : List Int) (kn : List (List Int) → Int → Int → Int → List Int → Option ρ) (k0 : List (List Int) → Option ρ) : Option ρ := Z10 N v3 v4 v1_0 v1_1 v1_2 (fun v3 v4 v1_0 v1_1 v1_2 => Z11 N v3 v4 v1_0 v1_1 v1_2 kn) k0
def Z8L {ρ : Type} (N : Nat) (k0 : List (List Int) → Option ρ) : Nat → List (List Int) → Int → Int → Int → List Int → Option ρ
  | 0, _, _, _, _, _ => none
  | M + 1, v3, v4, v1_0, v1_1, v1_2 => Z9 N v3 v4 v1_0 v1_1 v1_2 (fun v3 v4 v1_0 v1_1 v1_2 => Z8L N k0 M v3 v4 v1_0 v1_1 v1_2) k0
def Z8 {ρ : Type} (N : Nat) (v4 v1_0 v1_1 : Int) (v1_2 : List Int) (k0 : List (List Int) → Option ρ) : Option ρ := Z8L N k0 N ([] : List (List Int)) v4 v1_0 v1_1 v1_2
def Z7 {ρ : Type} (N : Nat) (v4 v1_0 v1_1 : Int) (v1_2 : List Int) (kn : List (List Int) → Option ρ) : Option ρ := Z8 N v4 v1_0 v1_1 v1_2 kn
def Z5 {ρ : Type} (N : Nat) (v1_0 v1_1 : Int) (v1_2 : List Int) (kn : List (List Int) → Option ρ) : Option ρ := Z6 N v1_0 v1_1 v1_2 (fun v4 v1_0 v1_1 v1_2 => Z7 N v4 v1_0 v1_1 v1_2 kn)
def Z23 {ρ : Type} (N : Nat) (v3 : List (List Int)) (kr : List (List Int) → Option ρ) : Option ρ :=
 kr v3
def Z4 {ρ : Type} (N : Nat) (v1_0 v1_1 : Int) (v1_2 : List Int) (kr : List (List Int) → Option ρ) : Option ρ := Z5 N v1_0 v1_1 v1_2 (fun v3 => Z23 N v3 kr)
def Z2 {ρ : Type} (N : Nat) (v1_0 v1_1 : Int) (v1_2 : List Int) (kr : List (List Int) → Option ρ) : Option ρ := Z3 N v1_0 v1_1 v1_2 (fun v1_0 v1_1 v1_2 => Z4 N v1_0 v1_1 v1_2 kr)
def Z0 {ρ : Type} (N : Nat) (v0 : Int × Int × List Int) (kr : List (List Int) → Option ρ) : Option ρ := Z1 N v0 (fun v1_0 v1_1 v1_2 => Z2 N v1_0 v1_1 v1_2 kr)
def Spec : Prop := ∀  (v0 : Int × Int × List Int), Ty.bd (.pair (.int .i64) (.pair (.int .i64) (.sl 0 (.int .i64)))) v0 → P v0 = true → ∃ N0, ∀ N, N0 ≤ N → Z0 N v0 (fun v2 => some ((), (v2, ()))) = some ((), ((g v0), ()))

theorem inner {ρ : Type} {N : Nat} {m : Int × Int × List Int} (hd : dimK m = true) (k2 : List (List Int) → List Int → Int → Int → Int → List Int → Option ρ) (out : List (List Int)) {i : Nat} (hi : i < m.2.1.toNat) : ∀ (M j : Nat), j ≤ m.1.toNat → m.1.toNat - j < M →
    Z19L N k2 M out ((rowK m i).take j) (i : Int) (j : Int) m.1 m.2.1 m.2.2 = k2 out (rowK m i) (i : Int) m.1 m.2.1 m.2.2 := by
  obtain ⟨n, r, hn, hr, hn1, hn5, hnr, hr8, hl⟩ := dim_nat hd
  intro M
  induction M with
  | zero => intro j _ h; omega
  | succ M ih =>
    intro j hj hM
    simp only [Z19L, Z20]
    have hrl : (rowK m i).length = m.1.toNat := by simp [rowK]
    by_cases h : j < m.1.toNat
    · have hlen : ∀ x : Int, Nat.blt (((rowK m i).take j).length + ([x] : List Int).length) 1099511627776 = true := fun x => by
        rw [Nat.blt_eq, List.length_take, hrl, List.length_singleton]; omega
      have ht : (rowK m i).take j ++ [ent m i j] = (rowK m i).take (j + 1) := car_take (ent m i) h
      have hP : impl_Matrix_at.P (m.1, (m.2.1, m.2.2)) (i : Int) (j : Int) = true := at_ok hd hi h
      have hA : impl_Matrix_at.g (m.1, (m.2.1, m.2.2)) (i : Int) (j : Int) = ent m i j := atK_nat (by omega) _ _
      rw [ct (dt (by omega)), ct hP, hA, ct (hlen _), ht, w64_succ (by rw [maxLen_val]; omega)]
      exact ih (j + 1) h (by omega)
    · rw [cf (df (by omega)), List.take_of_length_le (by rw [hrl]; omega)]
theorem loop {ρ : Type} {N : Nat} (hN : 10 ≤ N) {m : Int × Int × List Int} (hd : dimK m = true) (k0 : List (List Int) → Option ρ) : ∀ (M t : Nat), t ≤ m.2.1.toNat - m.1.toNat → m.2.1.toNat - m.1.toNat - t < M →
    Z8L N k0 M ((lowK m).take t) ((m.1.toNat + t : Nat) : Int) m.1 m.2.1 m.2.2 = k0 (lowK m) := by
  obtain ⟨n, r, hn, hr, hn1, hn5, hnr, hr8, hl⟩ := dim_nat hd
  have hcl : (lowK m).length = m.2.1.toNat - m.1.toNat := by simp [lowK]
  intro M
  induction M with
  | zero => intro t _ h; omega
  | succ M ih =>
    intro t ht hM
    simp only [Z8L, Z9, Z10]
    by_cases h : t < m.2.1.toNat - m.1.toNat
    · have ha : (lowK m).take t ++ [rowK m (m.1.toNat + t)] = (lowK m).take (t + 1) := car_take (fun t => rowK m (m.1.toNat + t)) h
      rw [ct (dt (by omega))]
      simp only [Z11, Z12, Z13, Z14, Z15, Z16, Z17, Z18, Z19]
      have hin := inner (ρ := ρ) (N := N) hd (fun out3 row5 i4 p1_0 p1_1 p1_2 => Z21 N out3 row5 i4 p1_0 p1_1 p1_2 (fun out3 i4 p1_0 p1_1 p1_2 => Z22 N out3 i4 p1_0 p1_1 p1_2 (fun out3 i4 p1_0 p1_1 p1_2 => Z8L N k0 M out3 i4 p1_0 p1_1 p1_2))) ((lowK m).take t) (i := m.1.toNat + t) (by omega) N 0 (by omega) (by omega)
      rw [List.take_zero, show ((0 : Nat) : Int) = 0 from rfl] at hin
      rw [hin]
      simp only [Z21, Z22]
      rw [ct (by rw [Nat.blt_eq, List.length_take, hcl, List.length_singleton]; omega), w64_succ (by rw [maxLen_val]; omega), ha]
      exact ih (t + 1) h (by omega)
    · rw [cf (df (by omega)), List.take_of_length_le (by rw [hcl]; omega)]
theorem ok : Spec := fun m hb hp => ⟨10, fun N hN => by
  have hd : dimK m = true := hp
  obtain ⟨n, r, hn, hr, hn1, hn5, hnr, hr8, hl⟩ := dim_nat hd
  simp only [Z0, Z1, Z2, Z3, Z4, Z5, Z6, Z7, Z8]
  have := loop (ρ := Unit × List (List Int) × Unit) hN hd (fun out3 => Z23 N out3 (fun t2 => some ((), (t2, ())))) N 0 (by omega) (by omega)
  rw [List.take_zero, Nat.add_zero, show ((m.1.toNat : Nat) : Int) = m.1 by omega] at this
  exact this⟩

end impl_lower
end
end Go.Fw
set_option linter.unusedVariables false
set_option linter.unusedSimpArgs false
set_option maxRecDepth 100000
namespace Go.Fw
noncomputable section
namespace impl_CVectorsOf
def g (m : Int × Int × List Int) (ks : List Int) : List (List Int) × Bool :=
  if (impl_walk.g m ks).2 = true then (lowK ((impl_walk.g m ks).1.getD ks.length (0, (0, []))), true) else ([], false)
end impl_CVectorsOf
namespace impl_CVectorsOf
def Z0 {ρ : Type} (N : Nat) (v0 : Int × Int × List Int) (v1 : List Int) (kr : List (List Int) → Bool → Option ρ) : Option ρ :=
 cond (!(lk N ((impl_walk.g v0 v1).2)))
 (
  kr ([] : List (List Int)) false)
 (
  cond (lk N (inB (w64 (((impl_walk.g v0 v1).1.length : Int) - 1)) (impl_walk.g v0 v1).1.length)) (
   cond (lk N (impl_lower.P ((impl_walk.g v0 v1).1.getD (w64 (((impl_walk.g v0 v1).1.length : Int) - 1)).toNat (0, (0, []))))) (
    kr (impl_lower.g ((impl_walk.g v0 v1).1.getD (w64 (((impl_walk.g v0 v1).1.length : Int) - 1)).toNat (0, (0, [])))) true) none) none)
def Spec : Prop := ∀  (v0 : Int × Int × List Int) (v1 : List Int), Ty.bd (.pair (.int .i64) (.pair (.int .i64) (.sl 0 (.int .i64)))) v0 → Ty.bd (.sl 0 (.int .i64)) v1 → ∃ N0, ∀ N, N0 ≤ N → Z0 N v0 v1 (fun v4 v5 => some ((), (v4, (v5, ())))) = some ((), ((g v0 v1).1, ((g v0 v1).2, ())))

theorem ok : Spec := fun m ks hb hv => ⟨0, fun N hN => by
  simp only [Z0, lk_eq]
  by_cases h : (impl_walk.g m ks).2 = true
  · obtain ⟨h1, h2, h3, h4, h5⟩ := impl_walk.last h
    have e : w64 (((impl_walk.g m ks).1.length : Int) - 1) = (ks.length : Int) := by
      rw [h1, w64_id (by omega) (by omega)]; omega
    rw [e, Int.toNat_natCast, inB_nat (by omega), show impl_lower.P ((impl_walk.g m ks).1.getD ks.length (0, (0, []))) = true from h2, g, h, if_pos rfl]
    rfl
  · have hf : (impl_walk.g m ks).2 = false := by
      cases hc : (impl_walk.g m ks).2
      · rfl
      · exact absurd hc h
    rw [g, hf]
    rfl⟩

end impl_CVectorsOf
end
end Go.Fw
set_option linter.unusedVariables false
set_option linter.unusedSimpArgs false
set_option maxRecDepth 100000
namespace Go.Fw
noncomputable section
namespace laws_eqIntS
def g (a b : List Int) : Bool := decide (a = b)
end laws_eqIntS
namespace laws_eqIntS
def Z1 {ρ : Type} (N : Nat) (v0 v1 : List Int) (kn : List Int → List Int → Option ρ) : Option ρ :=
 kn v0 v1
def Z3 {ρ : Type} (N : Nat) (v0 v1 : List Int) (kn : List Int → List Int → Option ρ) (kr : Bool → Option ρ) : Option ρ :=
 cond (lk N (!(decide ((v0.length : Int) = (v1.length : Int)))))
 (
  kr false)
 (
  kn v0 v1)
def Z6 {ρ : Type} (N : Nat) (v0 v1 : List Int) (kn : List Int → List Int → Int → Option ρ) : Option ρ :=
 kn v0 v1 0
def Z9 {ρ : Type} (N : Nat) (v0 v1 : List Int) (v5 : Int) (kn : List Int → List Int → Int → Option ρ) (k0 : Option ρ) (kr : Bool → Option ρ) : Option ρ :=
 cond (lk N (decide (v5 < (v0.length : Int))))
 (
  cond (lk N (inB v5 v0.length)) (
   cond (lk N (inB v5 v1.length)) (
    cond (lk N (!(decide ((v0.getD v5.toNat 0) = (v1.getD v5.toNat 0)))))
    (
     kr false)
    (
     kn v0 v1 (w64 (v5 + 1)))) none) none)
 (
  k0)
def Z8L {ρ : Type} (N : Nat) (k0 : Option ρ) (kr : Bool → Option ρ) : Nat → List Int → List Int → Int → Option ρ
  | 0, _, _, _ => none
  | M + 1, v0, v1, v5 => Z9 N v0 v1 v5 (fun v0 v1 v5 => Z8L N k0 kr M v0 v1 v5) k0 kr
def Z8 {ρ : Type} (N : Nat) (v0 v1 : List Int) (v5 : Int) (k0 : Option ρ) (kr : Bool → Option ρ) : Option ρ := Z8L N k0 kr N v0 v1 v5
def Z7 {ρ : Type} (N : Nat) (v0 v1 : List Int) (v5 : Int) (kn : Option ρ) (kr : Bool → Option ρ) : Option ρ := Z8 N v0 v1 v5 kn kr
def Z5 {ρ : Type} (N : Nat) (v0 v1 : List Int) (kn : Option ρ) (kr : Bool → Option ρ) : Option ρ := Z6 N v0 v1 (fun v0 v1 v5 => Z7 N v0 v1 v5 kn kr)
def Z10 {ρ : Type} (N : Nat)  (kr : Bool → Option ρ) : Option ρ :=
 kr true
def Z4 {ρ : Type} (N : Nat) (v0 v1 : List Int) (kr : Bool → Option ρ) : Option ρ := Z5 N v0 v1 (Z10 N kr) kr
def Z2 {ρ : Type} (N : Nat) (v0 v1 : List Int) (kr : Bool → Option ρ) : Option ρ := Z3 N v0 v1 (fun v0 v1 => Z4 N v0 v1 kr) kr
def Z0 {ρ : Type} (N : Nat) (v0 v1 : List Int) (kr : Bool → Option ρ) : Option ρ := Z1 N v0 v1 (fun v0 v1 => Z2 N v0 v1 kr)
def Spec : Prop := ∀  (v0 : List Int) (v1 : List Int), Ty.bd (.sl 0 (.int .i64)) v0 → Ty.bd (.sl 0 (.int .i64)) v1 → ∃ N0, ∀ N, N0 ≤ N → Z0 N v0 v1 (fun v4 => some ((), (v4, ()))) = some ((), ((g v0 v1), ()))

theorem loop {ρ : Type} (N : Nat) (k0 : Option ρ) (kr : Bool → Option ρ) (a b : List Int) (hl : a.length = b.length) (ha : a.length ≤ maxLen) : ∀ (M j : Nat), j ≤ a.length → a.length - j < M →
    Z8L N k0 kr M a b (j : Int) = if a.drop j = b.drop j then k0 else kr false := by
  intro M
  induction M with
  | zero => intro j _ h; omega
  | succ M ih =>
    intro j hj hM
    simp only [Z8L, Z9]
    by_cases h : j < a.length
    · rw [ct (dt (by omega)), ct (inB_nat h), ct (inB_nat (by omega)), Int.toNat_natCast, w64_succ (by omega), ih (j + 1) h (by omega), drop_getD 0 h, drop_getD (l := b) (j := j) 0 (by omega)]
      by_cases e : a.getD j 0 = b.getD j 0
      · rw [cf (nf e), e]
        simp only [List.cons.injEq, true_and]
      · rw [ct (nt e), if_neg (by simp only [List.cons.injEq]; exact fun h => e h.1)]
    · rw [cf (df (by omega)), if_pos (by rw [List.drop_of_length_le (by omega), List.drop_of_length_le (by omega)])]
theorem ok : Spec := fun a b ha hb => ⟨a.length + 1, fun N hN => by
  simp only [Z1, Z3, Z6, Z9, Z8, Z7, Z5, Z10, Z4, Z2, Z0]
  by_cases hl : a.length = b.length
  · rw [cf (nf (by omega))]
    rw [show (0 : Int) = ((0 : Nat) : Int) from rfl, loop _ _ _ a b hl ha.1 N 0 (by omega) (by omega)]
    by_cases e : a = b <;> simp [e, g]
  · rw [ct (nt (by omega))]
    have : a ≠ b := fun e => hl (by rw [e])
    simp [g, this]⟩

end laws_eqIntS
end
end Go.Fw
set_option linter.unusedVariables false
set_option linter.unusedSimpArgs false
set_option maxRecDepth 100000
namespace Go.Fw
noncomputable section
namespace laws_eqIntSS
def g (a b : List (List Int)) : Bool := decide (a = b)
end laws_eqIntSS
namespace laws_eqIntSS
def Z1 {ρ : Type} (N : Nat) (v0 v1 : List (List Int)) (kn : List (List Int) → List (List Int) → Option ρ) : Option ρ :=
 kn v0 v1
def Z3 {ρ : Type} (N : Nat) (v0 v1 : List (List Int)) (kn : List (List Int) → List (List Int) → Option ρ) (kr : Bool → Option ρ) : Option ρ :=
 cond (lk N (!(decide ((v0.length : Int) = (v1.length : Int)))))
 (
  kr false)
 (
  kn v0 v1)
def Z6 {ρ : Type} (N : Nat) (v0 v1 : List (List Int)) (kn : List (List Int) → List (List Int) → Int → Option ρ) : Option ρ :=
 kn v0 v1 0
def Z9 {ρ : Type} (N : Nat) (v0 v1 : List (List Int)) (v5 : Int) (kn : List (List Int) → List (List Int) → Int → Option ρ) (k0 : Option ρ) (kr : Bool → Option ρ) : Option ρ :=
 cond (lk N (decide (v5 < (v0.length : Int))))
 (
  cond (lk N (inB v5 v0.length)) (
   cond (lk N (inB v5 v1.length)) (
    cond (!(lk N ((laws_eqIntS.g (v0.getD v5.toNat []) (v1.getD v5.toNat [])))))
    (
     kr false)
    (
     kn v0 v1 (w64 (v5 + 1)))) none) none)
 (
  k0)
def Z8L {ρ : Type} (N : Nat) (k0 : Option ρ) (kr : Bool → Option ρ) : Nat → List (List Int) → List (List Int) → Int → Option ρ
  | 0, _, _, _ => none
  | M + 1, v0, v1, v5 => Z9 N v0 v1 v5 (fun v0 v1 v5 => Z8L N k0 kr M v0 v1 v5) k0 kr
def Z8 {ρ : Type} (N : Nat) (v0 v1 : List (List Int)) (v5 : Int) (k0 : Option ρ) (kr : Bool → Option ρ) : Option ρ := Z8L N k0 kr N v0 v1 v5
def Z7 {ρ : Type} (N : Nat) (v0 v1 : List (List Int)) (v5 : Int) (kn : Option ρ) (kr : Bool → Option ρ) : Option ρ := Z8 N v0 v1 v5 kn kr
def Z5 {ρ : Type} (N : Nat) (v0 v1 : List (List Int)) (kn : Option ρ) (kr : Bool → Option ρ) : Option ρ := Z6 N v0 v1 (fun v0 v1 v5 => Z7 N v0 v1 v5 kn kr)
def Z10 {ρ : Type} (N : Nat)  (kr : Bool → Option ρ) : Option ρ :=
 kr true
def Z4 {ρ : Type} (N : Nat) (v0 v1 : List (List Int)) (kr : Bool → Option ρ) : Option ρ := Z5 N v0 v1 (Z10 N kr) kr
def Z2 {ρ : Type} (N : Nat) (v0 v1 : List (List Int)) (kr : Bool → Option ρ) : Option ρ := Z3 N v0 v1 (fun v0 v1 => Z4 N v0 v1 kr) kr
def Z0 {ρ : Type} (N : Nat) (v0 v1 : List (List Int)) (kr : Bool → Option ρ) : Option ρ := Z1 N v0 v1 (fun v0 v1 => Z2 N v0 v1 kr)
def Spec : Prop := ∀  (v0 : List (List Int)) (v1 : List (List Int)), Ty.bd (.sl 0 (.sl 0 (.int .i64))) v0 → Ty.bd (.sl 0 (.sl 0 (.int .i64))) v1 → ∃ N0, ∀ N, N0 ≤ N → Z0 N v0 v1 (fun v4 => some ((), (v4, ()))) = some ((), ((g v0 v1), ()))

theorem loop {ρ : Type} (N : Nat) (k0 : Option ρ) (kr : Bool → Option ρ) (a b : List (List Int)) (hl : a.length = b.length) (ha : a.length ≤ maxLen) : ∀ (M j : Nat), j ≤ a.length → a.length - j < M →
    Z8L N k0 kr M a b (j : Int) = if a.drop j = b.drop j then k0 else kr false := by
  intro M
  induction M with
  | zero => intro j _ h; omega
  | succ M ih =>
    intro j hj hM
    simp only [Z8L, Z9]
    by_cases h : j < a.length
    · rw [ct (dt (by omega)), ct (inB_nat h), ct (inB_nat (by omega)), Int.toNat_natCast, w64_succ (by omega), ih (j + 1) h (by omega), drop_getD [] h, drop_getD (l := b) (j := j) [] (by omega)]
      by_cases e : a.getD j [] = b.getD j []
      · rw [cf' (by rw [lk_eq, laws_eqIntS.g, dt e]; rfl), e]
        simp only [List.cons.injEq, true_and]
      · rw [ct' (by rw [lk_eq, laws_eqIntS.g, df e]; rfl), if_neg (by simp only [List.cons.injEq]; exact fun h => e h.1)]
    · rw [cf (df (by omega)), if_pos (by rw [List.drop_of_length_le (by omega), List.drop_of_length_le (by omega)])]
theorem ok : Spec := fun a b ha hb => ⟨a.length + 1, fun N hN => by
  simp only [Z1, Z3, Z6, Z9, Z8, Z7, Z5, Z10, Z4, Z2, Z0]
  by_cases hl : a.length = b.length
  · rw [cf (nf (by omega))]
    rw [show (0 : Int) = ((0 : Nat) : Int) from rfl, loop _ _ _ a b hl ha.1 N 0 (by omega) (by omega)]
    by_cases e : a = b <;> simp [e, g]
  · rw [ct (nt (by omega))]
    have : a ≠ b := fun e => hl (by rw [e])
    simp [g, this]⟩

end laws_eqIntSS
end
end Go.Fw
set_option linter.unusedVariables false
set_option linter.unusedSimpArgs false
set_option maxRecDepth 100000
namespace Go.Fw
noncomputable section
namespace laws_eqMatrix
def g (a b : Int × Int × List Int) : Bool := decide (a = b)
end laws_eqMatrix
namespace laws_eqMatrix
def Z0 {ρ : Type} (N : Nat) (v0 v1 : Int × Int × List Int) (kr : Bool → Option ρ) : Option ρ :=
 cond (lk N (!(decide (v0.1 = v1.1))))
 (
  kr false)
 (
  cond (lk N (!(decide (v0.2.1 = v1.2.1))))
  (
   kr false)
  (
   cond (!(lk N ((laws_eqIntS.g v0.2.2 v1.2.2))))
   (
    kr false)
   (
    kr true)))
def Spec : Prop := ∀  (v0 : Int × Int × List Int) (v1 : Int × Int × List Int), Ty.bd (.pair (.int .i64) (.pair (.int .i64) (.sl 0 (.int .i64)))) v0 → Ty.bd (.pair (.int .i64) (.pair (.int .i64) (.sl 0 (.int .i64)))) v1 → ∃ N0, ∀ N, N0 ≤ N → Z0 N v0 v1 (fun v4 => some ((), (v4, ()))) = some ((), ((g v0 v1), ()))

theorem ok : Spec := fun a b ha hb => ⟨0, fun N hN => by
  obtain ⟨a1, a2, a3⟩ := a
  obtain ⟨b1, b2, b3⟩ := b
  simp only [Z0, lk_eq, g, laws_eqIntS.g, Prod.mk.injEq]
  by_cases h1 : a1 = b1 <;> by_cases h2 : a2 = b2 <;> by_cases h3 : a3 = b3 <;> simp [h1, h2, h3]⟩

end laws_eqMatrix
end
end Go.Fw
set_option linter.unusedVariables false
set_option linter.unusedSimpArgs false
set_option maxRecDepth 100000
namespace Go.Fw
noncomputable section
namespace laws_FnExactCVectorsOf
def g (_ : Int × Int × List Int) (_ : List Int) : Bool := true
end laws_FnExactCVectorsOf
namespace laws_FnExactCVectorsOf
def Z1 {ρ : Type} (N : Nat) (v0 : Int × Int × List Int) (v1 : List Int) (kn : List Int → Int → Int → List Int → Option ρ) : Option ρ :=
 kn v1 v0.1 v0.2.1 v0.2.2
def Z3 {ρ : Type} (N : Nat) (v1 : List Int) (v2_0 v2_1 : Int) (v2_2 : List Int) (kn : List Int → Int → Int → List Int → Option ρ) (kr : Bool → Option ρ) : Option ρ :=
 cond (lk N (decide (1048576 < (v1.length : Int))))
 (
  kr true)
 (
  kn v1 v2_0 v2_1 v2_2)
def Z5 {ρ : Type} (N : Nat) (v1 : List Int) (v2_0 v2_1 : Int) (v2_2 : List Int) (kn : List Int → Int → Int → Int → List Int → Option ρ) : Option ρ :=
 kn v1 1048576 v2_0 v2_1 v2_2
def Z7 {ρ : Type} (N : Nat) (v1 : List Int) (v5 v2_0 v2_1 : Int) (v2_2 : List Int) (kn : List Int → Int → Int → Int → List Int → Option ρ) : Option ρ :=
 kn v1 (laws_szMatrix.g (v2_0, (v2_1, v2_2)) v5) v2_0 v2_1 v2_2
def Z9 {ρ : Type} (N : Nat) (v1 : List Int) (v5 v2_0 v2_1 : Int) (v2_2 : List Int) (kn : List Int → Int → Int → List Int → Option ρ) (kr : Bool → Option ρ) : Option ρ :=
 cond (lk N (decide (v5 < 0)))
 (
  kr true)
 (
  kn v1 v2_0 v2_1 v2_2)
def Z11 {ρ : Type} (N : Nat) (v1 : List Int) (v2_0 v2_1 : Int) (v2_2 : List Int) (kn : List (List Int) → List Int → Bool → Int → Int → List Int → Option ρ) : Option ρ :=
 cond (lk N (laws_toMatrix.P (v2_0, (v2_1, v2_2)))) (
  cond (lk N (laws_toIntS.P v1)) (
   kn (spec_CVectorsOf.g (laws_toMatrix.g (v2_0, (v2_1, v2_2))) (laws_toIntS.g v1)).1 v1 (lk N ((spec_CVectorsOf.g (laws_toMatrix.g (v2_0, (v2_1, v2_2))) (laws_toIntS.g v1)).2)) v2_0 v2_1 v2_2) none) none
def Z13 {ρ : Type} (N : Nat) (v6 : List (List Int)) (v1 : List Int) (v7 : Bool) (v2_0 v2_1 : Int) (v2_2 : List Int) (kn : List (List Int) → List Int → List Int → Bool → Int → Int → List Int → Int → Int → Option ρ) : Option ρ :=
 cond (lk N (laws_toMatrix.P (v2_0, (v2_1, v2_2)))) (
  kn v6 (laws_toMatrix.g (v2_0, (v2_1, v2_2))).2.2 v1 v7 v2_0 v2_1 v2_2 (laws_toMatrix.g (v2_0, (v2_1, v2_2))).1 (laws_toMatrix.g (v2_0, (v2_1, v2_2))).2.1) none
def Z15 {ρ : Type} (N : Nat) (v6 : List (List Int)) (v8_2 v1 : List Int) (v7 : Bool) (v2_0 v2_1 : Int) (v2_2 : List Int) (v8_0 v8_1 : Int) (kn : List (List Int) → List Int → List Int → List Int → Bool → Int → Int → List Int → Int → Int → Option ρ) : Option ρ :=
 cond (lk N (laws_toIntS.P v1)) (
  kn v6 (laws_toIntS.g v1) v8_2 v1 v7 v2_0 v2_1 v2_2 v8_0 v8_1) none
def Z17 {ρ : Type} (N : Nat) (v6 : List (List Int)) (v9 v8_2 v1 : List Int) (v7 : Bool) (v2_0 v2_1 : Int) (v2_2 : List Int) (v8_0 v8_1 : Int) (kn : List (List Int) → List Int → List (List Int) → List Int → List Int → Bool → Bool → Int → Int → List Int → Int → Int → Option ρ) : Option ρ :=
 kn v6 v9 (impl_CVectorsOf.g (v8_0, (v8_1, v8_2)) v9).1 v8_2 v1 v7 (lk N ((impl_CVectorsOf.g (v8_0, (v8_1, v8_2)) v9).2)) v2_0 v2_1 v2_2 v8_0 v8_1
def Z19 {ρ : Type} (N : Nat) (v6 : List (List Int)) (v9 : List Int) (v10 : List (List Int)) (v8_2 v1 : List Int) (v7 v11 : Bool) (v2_0 v2_1 : Int) (v2_2 : List Int) (v8_0 v8_1 : Int) (kn : List (List Int) → List Int → List (List Int) → List Int → List Int → Bool → Bool → Int → Int → List Int → Int → Int → Option ρ) (kr : Bool → Option ρ) : Option ρ :=
 cond (!(lk N ((laws_eqIntSS.g v10 v6))))
 (
  kr false)
 (
  cond (lk N (!((v11 == v7))))
  (
   kr false)
  (
   kn v6 v9 v10 v8_2 v1 v7 v11 v2_0 v2_1 v2_2 v8_0 v8_1))
def Z21 {ρ : Type} (N : Nat) (v6 : List (List Int)) (v9 : List Int) (v10 : List (List Int)) (v8_2 v1 : List Int) (v7 v11 : Bool) (v2_0 v2_1 : Int) (v2_2 : List Int) (v8_0 v8_1 : Int) (kn : List (List Int) → List Int → List (List Int) → List Int → List Int → Bool → Bool → Int → Int → List Int → Int → Int → Option ρ) (kr : Bool → Option ρ) : Option ρ :=
 cond (lk N (laws_toMatrix.P (v2_0, (v2_1, v2_2)))) (
  cond (!(lk N ((laws_eqMatrix.g (v8_0, (v8_1, v8_2)) (laws_toMatrix.g (v2_0, (v2_1, v2_2)))))))
  (
   kr false)
  (
   kn v6 v9 v10 v8_2 v1 v7 v11 v2_0 v2_1 v2_2 v8_0 v8_1)) none
def Z23 {ρ : Type} (N : Nat) (v6 : List (List Int)) (v9 : List Int) (v10 : List (List Int)) (v8_2 v1 : List Int) (v7 v11 : Bool) (v2_0 v2_1 : Int) (v2_2 : List Int) (v8_0 v8_1 : Int) (kn : List (List Int) → List Int → List (List Int) → List Int → List Int → Bool → Bool → Int → Int → List Int → Int → Int → Option ρ) (kr : Bool → Option ρ) : Option ρ :=
 cond (lk N (laws_toIntS.P v1)) (
  cond (!(lk N ((laws_eqIntS.g v9 (laws_toIntS.g v1)))))
  (
   kr false)
  (
   kn v6 v9 v10 v8_2 v1 v7 v11 v2_0 v2_1 v2_2 v8_0 v8_1)) none
def Z25 {ρ : Type} (N : Nat) (v6 : List (List Int)) (v9 : List Int) (v10 : List (List Int)) (v8_2 v1 : List Int) (v7 v11 : Bool) (v2_0 v2_1 : Int) (v2_2 : List Int) (v8_0 v8_1 : Int) (kn : List (List Int) → List Int → List (List Int) → List Int → List Int → Bool → Bool → Int → Int → Int → List Int → Int → Int → Option ρ) : Option ρ :=
 kn v6 v9 v10 v8_2 v1 v7 v11 1 v2_0 v2_1 v2_2 v8_0 v8_1
def Z27 {ρ : Type} (N : Nat) (v6 : List (List Int)) (v9 : List Int) (v10 : List (List Int)) (v8_2 v1 : List Int) (v7 v11 : Bool) (v12 v2_0 v2_1 : Int) (v2_2 : List Int) (v8_0 v8_1 : Int) (kn : List (List Int) → List Int → List (List Int) → List Int → Bool → Bool → Int → Int → Int → List Int → Option ρ) : Option ρ :=
 kn v6 v9 v10 v1 v7 v11 (laws_markMatrix.g (v8_0, (v8_1, v8_2)) v12).2 v2_0 v2_1 v2_2
def Z29 {ρ : Type} (N : Nat) (v6 : List (List Int)) (v9 : List Int) (v10 : List (List Int)) (v1 : List Int) (v7 v11 : Bool) (v12 v2_0 v2_1 : Int) (v2_2 : List Int) (kn : List (List Int) → List (List Int) → List Int → Bool → Bool → Int → Int → Int → List Int → Option ρ) : Option ρ :=
 kn v6 v10 v1 v7 v11 (laws_markIntS.g v9 v12).2 v2_0 v2_1 v2_2
def Z31 {ρ : Type} (N : Nat) (v6 v10 : List (List Int)) (v1 : List Int) (v7 v11 : Bool) (v12 v2_0 v2_1 : Int) (v2_2 : List Int) (kn : List (List Int) → List (List Int) → List Int → Bool → Int → Int → List Int → Option ρ) (kr : Bool → Option ρ) : Option ρ :=
 cond (lk N (decide (v12 < 0)))
 (
  kr false)
 (
  cond (!(lk N ((laws_eqIntSS.g v10 v6))))
  (
   kr false)
  (
   cond (lk N (!((v11 == v7))))
   (
    kr false)
   (
    kn v6 v10 v1 v7 v2_0 v2_1 v2_2)))
def Z32 {ρ : Type} (N : Nat) (v6 v10 : List (List Int)) (v1 : List Int) (v7 : Bool) (v2_0 v2_1 : Int) (v2_2 : List Int) (kr : Bool → Option ρ) : Option ρ :=
 cond (lk N (decide ((laws_heldIntSS.g (laws_markIntSS.g v10 1).1 1) < 0)))
 (
  kr false)
 (
  cond (lk N (!(decide ((laws_heldIntSS.g (laws_markIntSS.g v10 1).1 1) = (laws_markIntSS.g v10 1).2))))
  (
   kr false)
  (
   cond (lk N (laws_toMatrix.P (v2_0, (v2_1, v2_2)))) (
    cond (lk N (laws_toIntS.P v1)) (
     cond (!(lk N ((laws_eqIntSS.g (impl_CVectorsOf.g (laws_toMatrix.g (v2_0, (v2_1, v2_2))) (laws_toIntS.g v1)).1 v6))))
     (
      kr false)
     (
      cond (lk N (!(((lk N ((impl_CVectorsOf.g (laws_toMatrix.g (v2_0, (v2_1, v2_2))) (laws_toIntS.g v1)).2)) == v7))))
      (
       kr false)
      (
       cond (lk N (decide ((laws_heldIntSS.g (laws_markIntSS.g v10 1).1 1) < 0)))
       (
        kr false)
       (
        cond (lk N (!(decide ((laws_heldIntSS.g (laws_markIntSS.g v10 1).1 1) = (laws_markIntSS.g v10 1).2))))
        (
         kr false)
        (
         kr true))))) none) none))
def Z30 {ρ : Type} (N : Nat) (v6 v10 : List (List Int)) (v1 : List Int) (v7 v11 : Bool) (v12 v2_0 v2_1 : Int) (v2_2 : List Int) (kr : Bool → Option ρ) : Option ρ := Z31 N v6 v10 v1 v7 v11 v12 v2_0 v2_1 v2_2 (fun v6 v10 v1 v7 v2_0 v2_1 v2_2 => Z32 N v6 v10 v1 v7 v2_0 v2_1 v2_2 kr) kr
def Z28 {ρ : Type} (N : Nat) (v6 : List (List Int)) (v9 : List Int) (v10 : List (List Int)) (v1 : List Int) (v7 v11 : Bool) (v12 v2_0 v2_1 : Int) (v2_2 : List Int) (kr : Bool → Option ρ) : Option ρ := Z29 N v6 v9 v10 v1 v7 v11 v12 v2_0 v2_1 v2_2 (fun v6 v10 v1 v7 v11 v12 v2_0 v2_1 v2_2 => Z30 N v6 v10 v1 v7 v11 v12 v2_0 v2_1 v2_2 kr)
def Z26 {ρ : Type} (N : Nat) (v6 : List (List Int)) (v9 : List Int) (v10 : List (List Int)) (v8_2 v1 : List Int) (v7 v11 : Bool) (v12 v2_0 v2_1 : Int) (v2_2 : List Int) (v8_0 v8_1 : Int) (kr : Bool → Option ρ) : Option ρ := Z27 N v6 v9 v10 v8_2 v1 v7 v11 v12 v2_0 v2_1 v2_2 v8_0 v8_1 (fun v6 v9 v10 v1 v7 v11 v12 v2_0 v2_1 v2_2 => Z28 N v6 v9 v10 v1 v7 v11 v12 v2_0 v2_1 v2_2 kr)
def Z24 {ρ : Type} (N : Nat) (v6 : List (List Int)) (v9 : List Int) (v10 : List (List Int)) (v8_2 v1 : List Int) (v7 v11 : Bool) (v2_0 v2_1 : Int) (v2_2 : List Int) (v8_0 v8_1 : Int) (kr : Bool → Option ρ) : Option ρ := Z25 N v6 v9 v10 v8_2 v1 v7 v11 v2_0 v2_1 v2_2 v8_0 v8_1 (fun v6 v9 v10 v8_2 v1 v7 v11 v12 v2_0 v2_1 v2_2 v8_0 v8_1 => Z26 N v6 v9 v10 v8_2 v1 v7 v11 v12 v2_0 v2_1 v2_2 v8_0 v8_1 kr)
def Z22 {ρ : Type} (N : Nat) (v6 : List (List Int)) (v9 : List Int) (v10 : List (List Int)) (v8_2 v1 : List Int) (v7 v11 : Bool) (v2_0 v2_1 : Int) (v2_2 : List Int) (v8_0 v8_1 : Int) (kr : Bool → Option ρ) : Option ρ := Z23 N v6 v9 v10 v8_2 v1 v7 v11 v2_0 v2_1 v2_2 v8_0 v8_1 (fun v6 v9 v10 v8_2 v1 v7 v11 v2_0 v2_1 v2_2 v8_0 v8_1 => Z24 N v6 v9 v10 v8_2 v1 v7 v11 v2_0 v2_1 v2_2 v8_0 v8_1 kr) kr
def Z20 {ρ : Type} (N : Nat) (v6 : List (List Int)) (v9 : List Int) (v10 : List (List Int)) (v8_2 v1 : List Int) (v7 v11 : Bool) (v2_0 v2_1 : Int) (v2_2 : List Int) (v8_0 v8_1 : Int) (kr : Bool → Option ρ) : Option ρ := Z21 N v6 v9 v10 v8_2 v1 v7 v11 v2_0 v2_1 v2_2 v8_0 v8_1 (fun v6 v9 v10 v8_2 v1 v7 v11 v2_0 v2_1 v2_2 v8_0 v8_1 => Z22 N v6 v9 v10 v8_2 v1 v7 v11 v2_0 v2_1 v2_2 v8_0 v8_1 kr) kr
def Z18 {ρ : Type} (N : Nat) (v6 : List (List Int)) (v9 : List Int) (v10 : List (List Int)) (v8_2 v1 : List Int) (v7 v11 : Bool) (v2_0 v2_1 : Int) (v2_2 : List Int) (v8_0 v8_1 : Int) (kr : Bool → Option ρ) : Option ρ := Z19 N v6 v9 v10 v8_2 v1 v7 v11 v2_0 v2_1 v2_2 v8_0 v8_1 (fun v6 v9 v10 v8_2 v1 v7 v11 v2_0 v2_1 v2_2 v8_0 v8_1 => Z20 N v6 v9 v10 v8_2 v1 v7 v11 v2_0 v2_1 v2_2 v8_0 v8_1 kr) kr
def Z16 {ρ : Type} (N : Nat) (v6 : List (List Int)) (v9 v8_2 v1 : List Int) (v7 : Bool) (v2_0 v2_1 : Int) (v2_2 : List Int) (v8_0 v8_1 : Int) (kr : Bool → Option ρ) : Option ρ := Z17 N v6 v9 v8_2 v1 v7 v2_0 v2_1 v2_2 v8_0 v8_1 (fun v6 v9 v10 v8_2 v1 v7 v11 v2_0 v2_1 v2_2 v8_0 v8_1 => Z18 N v6 v9 v10 v8_2 v1 v7 v11 v2_0 v2_1 v2_2 v8_0 v8_1 kr)
def Z14 {ρ : Type} (N : Nat) (v6 : List (List Int)) (v8_2 v1 : List Int) (v7 : Bool) (v2_0 v2_1 : Int) (v2_2 : List Int) (v8_0 v8_1 : Int) (kr : Bool → Option ρ) : Option ρ := Z15 N v6 v8_2 v1 v7 v2_0 v2_1 v2_2 v8_0 v8_1 (fun v6 v9 v8_2 v1 v7 v2_0 v2_1 v2_2 v8_0 v8_1 => Z16 N v6 v9 v8_2 v1 v7 v2_0 v2_1 v2_2 v8_0 v8_1 kr)
def Z12 {ρ : Type} (N : Nat) (v6 : List (List Int)) (v1 : List Int) (v7 : Bool) (v2_0 v2_1 : Int) (v2_2 : List Int) (kr : Bool → Option ρ) : Option ρ := Z13 N v6 v1 v7 v2_0 v2_1 v2_2 (fun v6 v8_2 v1 v7 v2_0 v2_1 v2_2 v8_0 v8_1 => Z14 N v6 v8_2 v1 v7 v2_0 v2_1 v2_2 v8_0 v8_1 kr)
def Z10 {ρ : Type} (N : Nat) (v1 : List Int) (v2_0 v2_1 : Int) (v2_2 : List Int) (kr : Bool → Option ρ) : Option ρ := Z11 N v1 v2_0 v2_1 v2_2 (fun v6 v1 v7 v2_0 v2_1 v2_2 => Z12 N v6 v1 v7 v2_0 v2_1 v2_2 kr)
def Z8 {ρ : Type} (N : Nat) (v1 : List Int) (v5 v2_0 v2_1 : Int) (v2_2 : List Int) (kr : Bool → Option ρ) : Option ρ := Z9 N v1 v5 v2_0 v2_1 v2_2 (fun v1 v2_0 v2_1 v2_2 => Z10 N v1 v2_0 v2_1 v2_2 kr) kr
def Z6 {ρ : Type} (N : Nat) (v1 : List Int) (v5 v2_0 v2_1 : Int) (v2_2 : List Int) (kr : Bool → Option ρ) : Option ρ := Z7 N v1 v5 v2_0 v2_1 v2_2 (fun v1 v5 v2_0 v2_1 v2_2 => Z8 N v1 v5 v2_0 v2_1 v2_2 kr)
def Z4 {ρ : Type} (N : Nat) (v1 : List Int) (v2_0 v2_1 : Int) (v2_2 : List Int) (kr : Bool → Option ρ) : Option ρ := Z5 N v1 v2_0 v2_1 v2_2 (fun v1 v5 v2_0 v2_1 v2_2 => Z6 N v1 v5 v2_0 v2_1 v2_2 kr)
def Z2 {ρ : Type} (N : Nat) (v1 : List Int) (v2_0 v2_1 : Int) (v2_2 : List Int) (kr : Bool → Option ρ) : Option ρ := Z3 N v1 v2_0 v2_1 v2_2 (fun v1 v2_0 v2_1 v2_2 => Z4 N v1 v2_0 v2_1 v2_2 kr) kr
def Z0 {ρ : Type} (N : Nat) (v0 : Int × Int × List Int) (v1 : List Int) (kr : Bool → Option ρ) : Option ρ := Z1 N v0 v1 (fun v1 v2_0 v2_1 v2_2 => Z2 N v1 v2_0 v2_1 v2_2 kr)
def Spec : Prop := ∀  (v0 : Int × Int × List Int) (v1 : List Int), Ty.bd (.pair (.int .i64) (.pair (.int .i64) (.sl 0 (.int .i64)))) v0 → Ty.bd (.sl 0 (.int .i64)) v1 → ∃ N0, ∀ N, N0 ≤ N → Z0 N v0 v1 (fun v4 => some ((), (v4, ()))) = some ((), ((g v0 v1), ()))

theorem ok : Spec := fun m ks hb hv => ⟨0, fun N hN => by
  by_cases h0 : (1048576 : Int) < ks.length
  · simp only [Z1, Z3, Z5, Z7, Z9, Z11, Z13, Z15, Z17, Z19, Z21, Z23, Z25, Z27, Z29, Z31, Z32, Z30, Z28, Z26, Z24, Z22, Z20, Z18, Z16, Z14, Z12, Z10, Z8, Z6, Z4, Z2, Z0]
    rw [ct (dt h0)]
    rfl
  by_cases hl : laws_szMatrix.g m 1048576 < 0
  · simp only [Z1, Z3, Z5, Z7, Z9, Z11, Z13, Z15, Z17, Z19, Z21, Z23, Z25, Z27, Z29, Z31, Z32, Z30, Z28, Z26, Z24, Z22, Z20, Z18, Z16, Z14, Z12, Z10, Z8, Z6, Z4, Z2, Z0]
    rw [cf (df h0), ct (dt hl)]
    rfl
  obtain ⟨hP, hlen⟩ := szMat_P m hb.2.2.1 hl
  have hQ := toInt_P ks (by omega)
  have he : impl_CVectorsOf.g m ks = spec_CVectorsOf.g m ks := by
    unfold impl_CVectorsOf.g spec_CVectorsOf.g
    rw [walk_alike]
  have hs : szSS (spec_CVectorsOf.g m ks).1 < 4611686018427387904 := by
    unfold spec_CVectorsOf.g
    split
    · rename_i h
      obtain ⟨h1, h2, h3, h4, h5⟩ := spec_l4Along.last h
      obtain ⟨n, r, hn, hr, hn1, hn5, hnr, hr8, hl⟩ := dim_nat h2
      show szSS (lowK ((spec_l4Along.g m ks).1.getD ks.length (0, (0, [])))) < _
      generalize (spec_l4Along.g m ks).1.getD ks.length (0, (0, [])) = p at *
      have := szSS_le (l := lowK p) (a := 8) (b := 5) (by simp [lowK]; omega) (fun x hx => by
        simp only [lowK, List.mem_map] at hx
        obtain ⟨i, _, rfl⟩ := hx
        simp [rowK]; omega)
      omega
    · decide
  obtain ⟨h1, h2⟩ := ss_mark _ hs
  have hm := mark_two m ks (by omega) (by omega)
  simp only [Z1, Z3, Z5, Z7, Z9, Z11, Z13, Z15, Z17, Z19, Z21, Z23, Z25, Z27, Z29, Z31, Z32, Z30, Z28, Z26, Z24, Z22, Z20, Z18, Z16, Z14, Z12, Z10, Z8, Z6, Z4, Z2, Z0, lk_eq, laws_toMatrix.g, laws_toIntS.g, hP, hQ, he, laws_eqMatrix.g, laws_eqIntS.g, laws_eqIntSS.g, h1, df h0, df hl, df hm, df h2, dt (rfl : m = _), dt (rfl : ks = _), dt (rfl : (spec_CVectorsOf.g m ks).1 = _), dt (rfl : (laws_markIntSS.g (spec_CVectorsOf.g m ks).1 1).2 = _), beq_self_eq_true]
  rfl⟩

end laws_FnExactCVectorsOf
end
end Go.Fw
