/- The plain part: what the functions compute, in lists and numbers. Nothing is assumed. -/
import Derived.Test.YtillpdbmnjkjiaaFwc
import Derived.Test.YtillpdbmnjkjiaaPuFnExactGreenSequencesa
set_option linter.unusedVariables false
set_option linter.unusedSimpArgs false
set_option maxRecDepth 100000
namespace Go.Fw
noncomputable section
variable {ρ : Type}
namespace impl_factors
def P (m : Int × Int × List Int) : Bool := shapedK m
abbrev g (m : Int × Int × List Int) : List Int := facK m
end impl_factors
namespace impl_factors
def Z1 {ρ : Type} (N : Nat) (v0 : MT) (kn : I2 (LI → Option ρ)) : Option ρ :=
 kn v0.1 v0.2.1 v0.2.2
def Z3 {ρ : Type} (N : Nat) (v1_0 v1_1 : Int) (v1_2 : LI) (kn : LI → LI → I2 (LI → Option ρ)) : Option ρ :=
 both (
  cond (lk N (leB 0 v1_0 && decide (v1_0 < 1099511627776))) (
   cond (lk N (leB 0 v1_0 && decide (v1_0 < 1099511627776))) (
    kn (List.replicate v1_0.toNat (0 : Int)) (List.replicate v1_0.toNat (0 : Int)) v1_0 v1_1 v1_2) none) none)
 (
  cond (lk N (leB 0 v1_0 && decide (v1_0 < 1099511627776))) (
   cond (lk N (leB 0 v1_0 && decide (v1_0 < 1099511627776))) (
    kn (List.replicate v1_0.toNat (0 : Int)) (List.replicate v1_0.toNat (0 : Int)) v1_0 v1_1 v1_2) none) none)
def Z5 {ρ : Type} (N : Nat) (v3 v4 : LI) (v1_0 v1_1 : Int) (v1_2 : LI) (kn : LI → LI → LI → I2 (LI → Option ρ)) : Option ρ :=
 cond (lk N (leB 0 v1_0 && decide (v1_0 < 1099511627776))) (
  kn v3 v4 (List.replicate v1_0.toNat (0 : Int)) v1_0 v1_1 v1_2) none
def Z8 {ρ : Type} (N : Nat) (v3 v4 v5 : LI) (v1_0 v1_1 : Int) (v1_2 : LI) (kn : LI → LI → LI → I4 (LI → Option ρ)) : Option ρ :=
 kn v3 v4 v5 (v3.length : Int) 0 v1_0 v1_1 v1_2
def Z12 {ρ : Type} (N : Nat) (v3 v4 v5 : LI) (v34 v35 v1_0 v1_1 : Int) (v1_2 : LI) (kn : LI → LI → LI → I2 (Bool → I2 (LI → Option ρ))) : Option ρ :=
 kn v3 v4 v5 v34 v35 (lk N (decide (v35 < v34))) v1_0 v1_1 v1_2
def Z14 {ρ : Type} (N : Nat) (v3 v4 v5 : LI) (v34 v35 : Int) (v36 : Bool) (v1_0 v1_1 : Int) (v1_2 : LI) (kn : LI → LI → LI → I4 (LI → Option ρ)) (k0 : LI → Option ρ) : Option ρ :=
 cond (v36)
 (
  kn v3 v4 v5 v34 v35 v1_0 v1_1 v1_2)
 (
  k0 v5)
def Z18 {ρ : Type} (N : Nat) (v3 v4 v5 : LI) (v34 v35 v1_0 v1_1 : Int) (v1_2 : LI) (kn : LI → LI → LI → I5 (LI → Option ρ)) : Option ρ :=
 kn v3 v4 v5 v35 v34 v35 v1_0 v1_1 v1_2
def Z20 {ρ : Type} (N : Nat) (v3 v4 v5 : LI) (v6 v34 v35 v1_0 v1_1 : Int) (v1_2 : LI) (kn : LI → LI → LI → I5 (LI → Option ρ)) (k1 : LI → LI → LI → I4 (LI → Option ρ)) : Option ρ :=
 cond (lk N (inB v6 v3.length)) (
  cond (lk N (!(decide ((v3.getD v6.toNat 0) = 0))))
  (
   k1 v3 v4 v5 v34 v35 v1_0 v1_1 v1_2)
  (
   kn v3 v4 v5 v6 v34 v35 v1_0 v1_1 v1_2)) none
def Z22 {ρ : Type} (N : Nat) (v3 v4 v5 : LI) (v6 v34 v35 v1_0 v1_1 : Int) (v1_2 : LI) (kn : LI → LI → LI → I5 (LI → Option ρ)) : Option ρ :=
 cond (lk N (inB v6 v3.length)) (
  cond (lk N (inB v6 v4.length)) (
   kn (v3.set v6.toNat 1) (v4.set v6.toNat 1) v5 v6 v34 v35 v1_0 v1_1 v1_2) none) none
def Z24 {ρ : Type} (N : Nat) (v3 v4 v5 : LI) (v6 v34 v35 v1_0 v1_1 : Int) (v1_2 : LI) (kn : LI → LI → LI → LI → I4 (LI → Option ρ)) : Option ρ :=
 kn v3 v4 v5 ([v6] : List Int) v34 v35 v1_0 v1_1 v1_2
def Z27 {ρ : Type} (N : Nat) (v3 v4 v5 v7 : LI) (v34 v35 v1_0 v1_1 : Int) (v1_2 : LI) (kn : LI → LI → LI → LI → I5 (LI → Option ρ)) : Option ρ :=
 kn v3 v4 v5 v7 0 v34 v35 v1_0 v1_1 v1_2
def Z31 {ρ : Type} (N : Nat) (v3 v4 v5 v7 : LI) (v8 v34 v35 v1_0 v1_1 : Int) (v1_2 : LI) (kn : LI → LI → LI → LI → I5 (LI → Option ρ)) (k2 : LI → LI → LI → LI → I4 (LI → Option ρ)) : Option ρ :=
 cond (lk N (decide (v8 < (v7.length : Int))))
 (
  kn v3 v4 v5 v7 v8 v34 v35 v1_0 v1_1 v1_2)
 (
  k2 v3 v4 v5 v7 v34 v35 v1_0 v1_1 v1_2)
def Z35 {ρ : Type} (N : Nat) (v3 v4 v5 v7 : LI) (v8 v34 v35 v1_0 v1_1 : Int) (v1_2 : LI) (kn : LI → LI → LI → LI → I6 (LI → Option ρ)) : Option ρ :=
 cond (lk N (inB v8 v7.length)) (
  kn v3 v4 v5 v7 v8 (v7.getD v8.toNat 0) v34 v35 v1_0 v1_1 v1_2) none
def Z37 {ρ : Type} (N : Nat) (v3 v4 v5 v7 : LI) (v8 v9 v34 v35 v1_0 v1_1 : Int) (v1_2 : LI) (kn : LI → LI → LI → LI → I8 (LI → Option ρ)) : Option ρ :=
 kn v3 v4 v5 v7 v8 v9 v34 v35 (v3.length : Int) 0 v1_0 v1_1 v1_2
def Z41 {ρ : Type} (N : Nat) (v3 v4 v5 v7 : LI) (v8 v9 v34 v35 v62 v63 v1_0 v1_1 : Int) (v1_2 : LI) (kn : LI → LI → LI → LI → I6 (Bool → I2 (LI → Option ρ))) : Option ρ :=
 kn v3 v4 v5 v7 v8 v9 v34 v35 v62 v63 (lk N (decide (v63 < v62))) v1_0 v1_1 v1_2
def Z43 {ρ : Type} (N : Nat) (v3 v4 v5 v7 : LI) (v8 v9 v34 v35 v62 v63 : Int) (v64 : Bool) (v1_0 v1_1 : Int) (v1_2 : LI) (kn : LI → LI → LI → LI → I8 (LI → Option ρ)) (k4 : LI → LI → LI → LI → I5 (LI → Option ρ)) : Option ρ :=
 cond (v64)
 (
  kn v3 v4 v5 v7 v8 v9 v34 v35 v62 v63 v1_0 v1_1 v1_2)
 (
  k4 v3 v4 v5 v7 v8 v34 v35 v1_0 v1_1 v1_2)
def Z47 {ρ : Type} (N : Nat) (v3 v4 v5 v7 : LI) (v8 v9 v34 v35 v62 v63 v1_0 v1_1 : Int) (v1_2 : LI) (kn : LI → LI → LI → LI → Int → I8 (LI → Option ρ)) : Option ρ :=
 kn v3 v4 v5 v7 v8 v9 v63 v34 v35 v62 v63 v1_0 v1_1 v1_2
def Z49 {ρ : Type} (N : Nat) (v3 v4 v5 v7 : LI) (v8 v9 v10 v34 v35 v62 v63 v1_0 v1_1 : Int) (v1_2 : LI) (kn : LI → LI → LI → LI → I3 (I8 (LI → Option ρ))) : Option ρ :=
 cond (lk N (impl_Matrix_at.P (v1_0, (v1_1, v1_2)) v9 v10)) (
  cond (lk N (impl_Matrix_at.P (v1_0, (v1_1, v1_2)) v10 v9)) (
   kn v3 v4 v5 v7 v8 v9 v10 (impl_Matrix_at.g (v1_0, (v1_1, v1_2)) v9 v10) (w64 (0 - (impl_Matrix_at.g (v1_0, (v1_1, v1_2)) v10 v9))) v34 v35 v62 v63 v1_0 v1_1 v1_2) none) none
def Z51 {ρ : Type} (N : Nat) (v3 v4 v5 v7 : LI) (v8 v9 v10 v11 v12 v34 v35 v62 v63 v1_0 v1_1 : Int) (v1_2 : LI) (kn : LI → LI → LI → LI → I3 (I8 (LI → Option ρ))) (k5 : LI → LI → LI → LI → I8 (LI → Option ρ)) : Option ρ :=
 cond (lk N (decide (v11 = 0)))
 (
  cond (lk N (decide (v12 = 0)))
  (
   k5 v3 v4 v5 v7 v8 v9 v34 v35 v62 v63 v1_0 v1_1 v1_2)
  (
   kn v3 v4 v5 v7 v8 v9 v10 v11 v12 v34 v35 v62 v63 v1_0 v1_1 v1_2))
 (
  kn v3 v4 v5 v7 v8 v9 v10 v11 v12 v34 v35 v62 v63 v1_0 v1_1 v1_2)
def Z52 {ρ : Type} (N : Nat) (v3 v4 v5 v7 : LI) (v8 v9 v10 v11 v12 v34 v35 v62 v63 v1_0 v1_1 : Int) (v1_2 : LI) (kn : LI → LI → LI → LI → I8 (LI → Option ρ)) (kr : LI → Option ρ) : Option ρ :=
 cond (lk N (decide (v11 = 0)))
 (
  kr ([] : List Int))
 (
  cond (lk N (decide (v12 = 0)))
  (
   kr ([] : List Int))
  (
   cond (lk N (!(((lk N (decide (0 < v11))) == (lk N (decide (0 < v12)))))))
   (
    kr ([] : List Int))
   (
    cond (lk N (decide (v9 = v10)))
    (
     kr ([] : List Int))
    (
     cond (lk N (inB v9 v3.length)) (
      cond (lk N (inB v9 v4.length)) (
       cond (lk N (impl_gcd.P (w64 ((v3.getD v9.toNat 0) * (mx v11 (w64 (0 - v11))))) (w64 ((v4.getD v9.toNat 0) * (mx v12 (w64 (0 - v12))))))) (
        cond (lk N (!(decide ((impl_gcd.g (w64 ((v3.getD v9.toNat 0) * (mx v11 (w64 (0 - v11))))) (w64 ((v4.getD v9.toNat 0) * (mx v12 (w64 (0 - v12)))))) = 0)))) (
         cond (lk N (!(decide ((impl_gcd.g (w64 ((v3.getD v9.toNat 0) * (mx v11 (w64 (0 - v11))))) (w64 ((v4.getD v9.toNat 0) * (mx v12 (w64 (0 - v12)))))) = 0)))) (
          cond (lk N (inB v10 v3.length)) (
           cond (lk N (decide ((v3.getD v10.toNat 0) = 0)))
           (
            cond (lk N (inB v10 v3.length)) (
             cond (lk N (inB v10 v4.length)) (
              cond (lk N (Nat.blt (v7.length + ([v10] : List Int).length) 1099511627776)) (
               kn (v3.set v10.toNat (w64 (Int.tdiv (w64 ((v3.getD v9.toNat 0) * (mx v11 (w64 (0 - v11))))) (impl_gcd.g (w64 ((v3.getD v9.toNat 0) * (mx v11 (w64 (0 - v11))))) (w64 ((v4.getD v9.toNat 0) * (mx v12 (w64 (0 - v12))))))))) (v4.set v10.toNat (w64 (Int.tdiv (w64 ((v4.getD v9.toNat 0) * (mx v12 (w64 (0 - v12))))) (impl_gcd.g (w64 ((v3.getD v9.toNat 0) * (mx v11 (w64 (0 - v11))))) (w64 ((v4.getD v9.toNat 0) * (mx v12 (w64 (0 - v12))))))))) v5 (v7 ++ ([v10] : List Int)) v8 v9 v34 v35 v62 v63 v1_0 v1_1 v1_2) none) none) none)
           (
            cond (lk N (inB v10 v3.length)) (
             cond (lk N (!(decide ((v3.getD v10.toNat 0) = (w64 (Int.tdiv (w64 ((v3.getD v9.toNat 0) * (mx v11 (w64 (0 - v11))))) (impl_gcd.g (w64 ((v3.getD v9.toNat 0) * (mx v11 (w64 (0 - v11))))) (w64 ((v4.getD v9.toNat 0) * (mx v12 (w64 (0 - v12))))))))))))
             (
              kr ([] : List Int))
             (
              cond (lk N (inB v10 v4.length)) (
               cond (lk N (!(decide ((v4.getD v10.toNat 0) = (w64 (Int.tdiv (w64 ((v4.getD v9.toNat 0) * (mx v12 (w64 (0 - v12))))) (impl_gcd.g (w64 ((v3.getD v9.toNat 0) * (mx v11 (w64 (0 - v11))))) (w64 ((v4.getD v9.toNat 0) * (mx v12 (w64 (0 - v12))))))))))))
               (
                kr ([] : List Int))
               (
                kn v3 v4 v5 v7 v8 v9 v34 v35 v62 v63 v1_0 v1_1 v1_2)) none)) none)) none) none) none) none) none) none))))
def Z50 N v3 v4 v5 v7 v8 v9 v10 v11 v12 v34 v35 v62 v63 v1_0 v1_1 v1_2 kn k5 kr := (Z51 N v3 v4 v5 v7 v8 v9 v10 v11 v12 v34 v35 v62 v63 v1_0 v1_1 v1_2 (fun v3 v4 v5 v7 v8 v9 v10 v11 v12 v34 v35 v62 v63 v1_0 v1_1 v1_2 => Z52 N v3 v4 v5 v7 v8 v9 v10 v11 v12 v34 v35 v62 v63 v1_0 v1_1 v1_2 kn kr) k5 : Option ρ)
def Z48 N v3 v4 v5 v7 v8 v9 v10 v34 v35 v62 v63 v1_0 v1_1 v1_2 kn k5 kr := (Z49 N v3 v4 v5 v7 v8 v9 v10 v34 v35 v62 v63 v1_0 v1_1 v1_2 (fun v3 v4 v5 v7 v8 v9 v10 v11 v12 v34 v35 v62 v63 v1_0 v1_1 v1_2 => Z50 N v3 v4 v5 v7 v8 v9 v10 v11 v12 v34 v35 v62 v63 v1_0 v1_1 v1_2 kn k5 kr) : Option ρ)
def Z46 N v3 v4 v5 v7 v8 v9 v34 v35 v62 v63 v1_0 v1_1 v1_2 kn k5 kr := (Z47 N v3 v4 v5 v7 v8 v9 v34 v35 v62 v63 v1_0 v1_1 v1_2 (fun v3 v4 v5 v7 v8 v9 v10 v34 v35 v62 v63 v1_0 v1_1 v1_2 => Z48 N v3 v4 v5 v7 v8 v9 v10 v34 v35 v62 v63 v1_0 v1_1 v1_2 kn k5 kr) : Option ρ)
def Z45 N v3 v4 v5 v7 v8 v9 v34 v35 v62 v63 v1_0 v1_1 v1_2 kn kr := (Z46 N v3 v4 v5 v7 v8 v9 v34 v35 v62 v63 v1_0 v1_1 v1_2 kn kn kr : Option ρ)
def Z53 {ρ : Type} (N : Nat) (v3 v4 v5 v7 : LI) (v8 v9 v34 v35 v62 v63 v1_0 v1_1 : Int) (v1_2 : LI) (kn : LI → LI → LI → LI → I8 (LI → Option ρ)) : Option ρ :=
 kn v3 v4 v5 v7 v8 v9 v34 v35 v62 (w64 (v63 + 1)) v1_0 v1_1 v1_2
def Z44 N v3 v4 v5 v7 v8 v9 v34 v35 v62 v63 v1_0 v1_1 v1_2 kn kr := (Z45 N v3 v4 v5 v7 v8 v9 v34 v35 v62 v63 v1_0 v1_1 v1_2 (fun v3 v4 v5 v7 v8 v9 v34 v35 v62 v63 v1_0 v1_1 v1_2 => Z53 N v3 v4 v5 v7 v8 v9 v34 v35 v62 v63 v1_0 v1_1 v1_2 kn) kr : Option ρ)
def Z42 N v3 v4 v5 v7 v8 v9 v34 v35 v62 v63 v64 v1_0 v1_1 v1_2 kn k4 kr := (Z43 N v3 v4 v5 v7 v8 v9 v34 v35 v62 v63 v64 v1_0 v1_1 v1_2 (fun v3 v4 v5 v7 v8 v9 v34 v35 v62 v63 v1_0 v1_1 v1_2 => Z44 N v3 v4 v5 v7 v8 v9 v34 v35 v62 v63 v1_0 v1_1 v1_2 kn kr) k4 : Option ρ)
def Z40 N v3 v4 v5 v7 v8 v9 v34 v35 v62 v63 v1_0 v1_1 v1_2 kn k4 kr := (Z41 N v3 v4 v5 v7 v8 v9 v34 v35 v62 v63 v1_0 v1_1 v1_2 (fun v3 v4 v5 v7 v8 v9 v34 v35 v62 v63 v64 v1_0 v1_1 v1_2 => Z42 N v3 v4 v5 v7 v8 v9 v34 v35 v62 v63 v64 v1_0 v1_1 v1_2 kn k4 kr) : Option ρ)
def Z39L {ρ : Type} (N : Nat) (k4 : LI → LI → LI → LI → I5 (LI → Option ρ)) (kr : LI → Option ρ) : Nat → LI → LI → LI → LI → Int → Int → Int → Int → Int → Int → Int → Int → LI → Option ρ
  | 0, _, _, _, _, _, _, _, _, _, _, _, _, _ => none
  | M + 1, v3, v4, v5, v7, v8, v9, v34, v35, v62, v63, v1_0, v1_1, v1_2 => Z40 N v3 v4 v5 v7 v8 v9 v34 v35 v62 v63 v1_0 v1_1 v1_2 (fun v3 v4 v5 v7 v8 v9 v34 v35 v62 v63 v1_0 v1_1 v1_2 => Z39L N k4 kr M v3 v4 v5 v7 v8 v9 v34 v35 v62 v63 v1_0 v1_1 v1_2) k4 kr
def Z39 N v3 v4 v5 v7 v8 v9 v34 v35 v62 v63 v1_0 v1_1 v1_2 k4 kr := (Z39L N k4 kr N v3 v4 v5 v7 v8 v9 v34 v35 v62 v63 v1_0 v1_1 v1_2 : Option ρ)
def Z38 N v3 v4 v5 v7 v8 v9 v34 v35 v62 v63 v1_0 v1_1 v1_2 kn kr := (Z39 N v3 v4 v5 v7 v8 v9 v34 v35 v62 v63 v1_0 v1_1 v1_2 kn kr : Option ρ)
def Z36 N v3 v4 v5 v7 v8 v9 v34 v35 v1_0 v1_1 v1_2 kn kr := (Z37 N v3 v4 v5 v7 v8 v9 v34 v35 v1_0 v1_1 v1_2 (fun v3 v4 v5 v7 v8 v9 v34 v35 v62 v63 v1_0 v1_1 v1_2 => Z38 N v3 v4 v5 v7 v8 v9 v34 v35 v62 v63 v1_0 v1_1 v1_2 kn kr) : Option ρ)
def Z34 N v3 v4 v5 v7 v8 v34 v35 v1_0 v1_1 v1_2 kn kr := (Z35 N v3 v4 v5 v7 v8 v34 v35 v1_0 v1_1 v1_2 (fun v3 v4 v5 v7 v8 v9 v34 v35 v1_0 v1_1 v1_2 => Z36 N v3 v4 v5 v7 v8 v9 v34 v35 v1_0 v1_1 v1_2 kn kr) : Option ρ)
def Z33 N v3 v4 v5 v7 v8 v34 v35 v1_0 v1_1 v1_2 kn kr := (Z34 N v3 v4 v5 v7 v8 v34 v35 v1_0 v1_1 v1_2 kn kr : Option ρ)
def Z54 {ρ : Type} (N : Nat) (v3 v4 v5 v7 : LI) (v8 v34 v35 v1_0 v1_1 : Int) (v1_2 : LI) (kn : LI → LI → LI → LI → I5 (LI → Option ρ)) : Option ρ :=
 kn v3 v4 v5 v7 (w64 (v8 + 1)) v34 v35 v1_0 v1_1 v1_2
def Z32 N v3 v4 v5 v7 v8 v34 v35 v1_0 v1_1 v1_2 kn kr := (Z33 N v3 v4 v5 v7 v8 v34 v35 v1_0 v1_1 v1_2 (fun v3 v4 v5 v7 v8 v34 v35 v1_0 v1_1 v1_2 => Z54 N v3 v4 v5 v7 v8 v34 v35 v1_0 v1_1 v1_2 kn) kr : Option ρ)
def Z30 N v3 v4 v5 v7 v8 v34 v35 v1_0 v1_1 v1_2 kn k2 kr := (Z31 N v3 v4 v5 v7 v8 v34 v35 v1_0 v1_1 v1_2 (fun v3 v4 v5 v7 v8 v34 v35 v1_0 v1_1 v1_2 => Z32 N v3 v4 v5 v7 v8 v34 v35 v1_0 v1_1 v1_2 kn kr) k2 : Option ρ)
def Z29L {ρ : Type} (N : Nat) (k2 : LI → LI → LI → LI → I4 (LI → Option ρ)) (kr : LI → Option ρ) : Nat → LI → LI → LI → LI → Int → Int → Int → Int → Int → LI → Option ρ
  | 0, _, _, _, _, _, _, _, _, _, _ => none
  | M + 1, v3, v4, v5, v7, v8, v34, v35, v1_0, v1_1, v1_2 => Z30 N v3 v4 v5 v7 v8 v34 v35 v1_0 v1_1 v1_2 (fun v3 v4 v5 v7 v8 v34 v35 v1_0 v1_1 v1_2 => Z29L N k2 kr M v3 v4 v5 v7 v8 v34 v35 v1_0 v1_1 v1_2) k2 kr
def Z29 N v3 v4 v5 v7 v8 v34 v35 v1_0 v1_1 v1_2 k2 kr := (Z29L N k2 kr N v3 v4 v5 v7 v8 v34 v35 v1_0 v1_1 v1_2 : Option ρ)
def Z28 N v3 v4 v5 v7 v8 v34 v35 v1_0 v1_1 v1_2 kn kr := (Z29 N v3 v4 v5 v7 v8 v34 v35 v1_0 v1_1 v1_2 kn kr : Option ρ)
def Z26 N v3 v4 v5 v7 v34 v35 v1_0 v1_1 v1_2 kn kr := (Z27 N v3 v4 v5 v7 v34 v35 v1_0 v1_1 v1_2 (fun v3 v4 v5 v7 v8 v34 v35 v1_0 v1_1 v1_2 => Z28 N v3 v4 v5 v7 v8 v34 v35 v1_0 v1_1 v1_2 kn kr) : Option ρ)
def Z56 {ρ : Type} (N : Nat) (v3 v4 v5 v7 : LI) (v34 v35 v1_0 v1_1 : Int) (v1_2 : LI) (kn : LI → LI → LI → LI → I5 (LI → Option ρ)) : Option ρ :=
 kn v3 v4 v5 v7 1 v34 v35 v1_0 v1_1 v1_2
def Z59 {ρ : Type} (N : Nat) (v3 v4 v5 v7 : LI) (v16 v34 v35 v1_0 v1_1 : Int) (v1_2 : LI) (kn : LI → LI → LI → LI → I7 (LI → Option ρ)) : Option ρ :=
 kn v3 v4 v5 v7 v16 v34 v35 (v7.length : Int) 0 v1_0 v1_1 v1_2
def Z62 {ρ : Type} (N : Nat) (v3 v4 v5 v7 : LI) (v16 v34 v35 v159 v160 v1_0 v1_1 : Int) (v1_2 : LI) (kn : LI → LI → LI → LI → I7 (LI → Option ρ)) (k6 : LI → LI → LI → LI → I5 (LI → Option ρ)) : Option ρ :=
 cond (lk N (decide (v160 < v159)))
 (
  cond (lk N (inB v160 v7.length)) (
   cond (lk N (inB (v7.getD v160.toNat 0) v4.length)) (
    cond (lk N (inB (v7.getD v160.toNat 0) v4.length)) (
     cond (lk N (impl_gcd.P v16 (v4.getD (v7.getD v160.toNat 0).toNat 0))) (
      cond (lk N (!(decide ((impl_gcd.g v16 (v4.getD (v7.getD v160.toNat 0).toNat 0)) = 0)))) (
       kn v3 v4 v5 v7 (w64 ((w64 (Int.tdiv v16 (impl_gcd.g v16 (v4.getD (v7.getD v160.toNat 0).toNat 0)))) * (v4.getD (v7.getD v160.toNat 0).toNat 0))) v34 v35 v159 (w64 (v160 + 1)) v1_0 v1_1 v1_2) none) none) none) none) none)
 (
  k6 v3 v4 v5 v7 v16 v34 v35 v1_0 v1_1 v1_2)
def Z61L {ρ : Type} (N : Nat) (k6 : LI → LI → LI → LI → I5 (LI → Option ρ)) : Nat → LI → LI → LI → LI → Int → Int → Int → Int → Int → Int → Int → LI → Option ρ
  | 0, _, _, _, _, _, _, _, _, _, _, _, _ => none
  | M + 1, v3, v4, v5, v7, v16, v34, v35, v159, v160, v1_0, v1_1, v1_2 => Z62 N v3 v4 v5 v7 v16 v34 v35 v159 v160 v1_0 v1_1 v1_2 (fun v3 v4 v5 v7 v16 v34 v35 v159 v160 v1_0 v1_1 v1_2 => Z61L N k6 M v3 v4 v5 v7 v16 v34 v35 v159 v160 v1_0 v1_1 v1_2) k6
def Z61 N v3 v4 v5 v7 v16 v34 v35 v159 v160 v1_0 v1_1 v1_2 k6 := (Z61L N k6 N v3 v4 v5 v7 v16 v34 v35 v159 v160 v1_0 v1_1 v1_2 : Option ρ)
def Z60 N v3 v4 v5 v7 v16 v34 v35 v159 v160 v1_0 v1_1 v1_2 kn := (Z61 N v3 v4 v5 v7 v16 v34 v35 v159 v160 v1_0 v1_1 v1_2 kn : Option ρ)
def Z58 N v3 v4 v5 v7 v16 v34 v35 v1_0 v1_1 v1_2 kn := (Z59 N v3 v4 v5 v7 v16 v34 v35 v1_0 v1_1 v1_2 (fun v3 v4 v5 v7 v16 v34 v35 v159 v160 v1_0 v1_1 v1_2 => Z60 N v3 v4 v5 v7 v16 v34 v35 v159 v160 v1_0 v1_1 v1_2 kn) : Option ρ)
def Z64 {ρ : Type} (N : Nat) (v3 v4 v5 v7 : LI) (v16 v34 v35 v1_0 v1_1 : Int) (v1_2 : LI) (kn : LI → LI → LI → LI → I6 (LI → Option ρ)) : Option ρ :=
 kn v3 v4 v5 v7 v16 0 v34 v35 v1_0 v1_1 v1_2
def Z67 {ρ : Type} (N : Nat) (v3 v4 v5 v7 : LI) (v16 v19 v34 v35 v1_0 v1_1 : Int) (v1_2 : LI) (kn : LI → LI → LI → LI → I8 (LI → Option ρ)) : Option ρ :=
 kn v3 v4 v5 v7 v16 v19 v34 v35 (v7.length : Int) 0 v1_0 v1_1 v1_2
def Z70 {ρ : Type} (N : Nat) (v3 v4 v5 v7 : LI) (v16 v19 v34 v35 v179 v180 v1_0 v1_1 : Int) (v1_2 : LI) (kn : LI → LI → LI → LI → I8 (LI → Option ρ)) (k8 : LI → LI → LI → LI → I5 (LI → Option ρ)) : Option ρ :=
 cond (lk N (decide (v180 < v179)))
 (
  cond (lk N (inB v180 v7.length)) (
   cond (lk N (inB (v7.getD v180.toNat 0) v4.length)) (
    cond (lk N (!(decide ((v4.getD (v7.getD v180.toNat 0).toNat 0) = 0)))) (
     cond (lk N (inB (v7.getD v180.toNat 0) v3.length)) (
      cond (lk N (inB (v7.getD v180.toNat 0) v5.length)) (
       cond (lk N (inB (v7.getD v180.toNat 0) (v5.set (v7.getD v180.toNat 0).toNat (w64 ((w64 (Int.tdiv v16 (v4.getD (v7.getD v180.toNat 0).toNat 0))) * (v3.getD (v7.getD v180.toNat 0).toNat 0)))).length)) (
        cond (lk N (impl_gcd.P v19 ((v5.set (v7.getD v180.toNat 0).toNat (w64 ((w64 (Int.tdiv v16 (v4.getD (v7.getD v180.toNat 0).toNat 0))) * (v3.getD (v7.getD v180.toNat 0).toNat 0)))).getD (v7.getD v180.toNat 0).toNat 0))) (
         kn v3 v4 (v5.set (v7.getD v180.toNat 0).toNat (w64 ((w64 (Int.tdiv v16 (v4.getD (v7.getD v180.toNat 0).toNat 0))) * (v3.getD (v7.getD v180.toNat 0).toNat 0)))) v7 v16 (impl_gcd.g v19 ((v5.set (v7.getD v180.toNat 0).toNat (w64 ((w64 (Int.tdiv v16 (v4.getD (v7.getD v180.toNat 0).toNat 0))) * (v3.getD (v7.getD v180.toNat 0).toNat 0)))).getD (v7.getD v180.toNat 0).toNat 0)) v34 v35 v179 (w64 (v180 + 1)) v1_0 v1_1 v1_2) none) none) none) none) none) none) none)
 (
  k8 v3 v4 v5 v7 v19 v34 v35 v1_0 v1_1 v1_2)
def Z69L {ρ : Type} (N : Nat) (k8 : LI → LI → LI → LI → I5 (LI → Option ρ)) : Nat → LI → LI → LI → LI → Int → Int → Int → Int → Int → Int → Int → Int → LI → Option ρ
  | 0, _, _, _, _, _, _, _, _, _, _, _, _, _ => none
  | M + 1, v3, v4, v5, v7, v16, v19, v34, v35, v179, v180, v1_0, v1_1, v1_2 => Z70 N v3 v4 v5 v7 v16 v19 v34 v35 v179 v180 v1_0 v1_1 v1_2 (fun v3 v4 v5 v7 v16 v19 v34 v35 v179 v180 v1_0 v1_1 v1_2 => Z69L N k8 M v3 v4 v5 v7 v16 v19 v34 v35 v179 v180 v1_0 v1_1 v1_2) k8
def Z69 N v3 v4 v5 v7 v16 v19 v34 v35 v179 v180 v1_0 v1_1 v1_2 k8 := (Z69L N k8 N v3 v4 v5 v7 v16 v19 v34 v35 v179 v180 v1_0 v1_1 v1_2 : Option ρ)
def Z68 N v3 v4 v5 v7 v16 v19 v34 v35 v179 v180 v1_0 v1_1 v1_2 kn := (Z69 N v3 v4 v5 v7 v16 v19 v34 v35 v179 v180 v1_0 v1_1 v1_2 kn : Option ρ)
def Z66 N v3 v4 v5 v7 v16 v19 v34 v35 v1_0 v1_1 v1_2 kn := (Z67 N v3 v4 v5 v7 v16 v19 v34 v35 v1_0 v1_1 v1_2 (fun v3 v4 v5 v7 v16 v19 v34 v35 v179 v180 v1_0 v1_1 v1_2 => Z68 N v3 v4 v5 v7 v16 v19 v34 v35 v179 v180 v1_0 v1_1 v1_2 kn) : Option ρ)
def Z72 {ρ : Type} (N : Nat) (v3 v4 v5 v7 : LI) (v19 v34 v35 v1_0 v1_1 : Int) (v1_2 : LI) (kn : LI → LI → LI → LI → I7 (LI → Option ρ)) : Option ρ :=
 kn v3 v4 v5 v7 v19 v34 v35 (v7.length : Int) 0 v1_0 v1_1 v1_2
def Z75 {ρ : Type} (N : Nat) (v3 v4 v5 v205 : LI) (v19 v34 v35 v206 v207 v1_0 v1_1 : Int) (v1_2 : LI) (kn : LI → LI → LI → LI → I7 (LI → Option ρ)) (k10 : LI → LI → LI → I4 (LI → Option ρ)) : Option ρ :=
 cond (lk N (decide (v207 < v206)))
 (
  cond (lk N (inB v207 v205.length)) (
   cond (lk N (inB (v205.getD v207.toNat 0) v5.length)) (
    cond (lk N (!(decide (v19 = 0)))) (
     cond (lk N (inB (v205.getD v207.toNat 0) v5.length)) (
      kn v3 v4 (v5.set (v205.getD v207.toNat 0).toNat (w64 (Int.tdiv (v5.getD (v205.getD v207.toNat 0).toNat 0) v19))) v205 v19 v34 v35 v206 (w64 (v207 + 1)) v1_0 v1_1 v1_2) none) none) none) none)
 (
  k10 v3 v4 v5 v34 v35 v1_0 v1_1 v1_2)
def Z74L {ρ : Type} (N : Nat) (k10 : LI → LI → LI → I4 (LI → Option ρ)) : Nat → LI → LI → LI → LI → Int → Int → Int → Int → Int → Int → Int → LI → Option ρ
  | 0, _, _, _, _, _, _, _, _, _, _, _, _ => none
  | M + 1, v3, v4, v5, v205, v19, v34, v35, v206, v207, v1_0, v1_1, v1_2 => Z75 N v3 v4 v5 v205 v19 v34 v35 v206 v207 v1_0 v1_1 v1_2 (fun v3 v4 v5 v205 v19 v34 v35 v206 v207 v1_0 v1_1 v1_2 => Z74L N k10 M v3 v4 v5 v205 v19 v34 v35 v206 v207 v1_0 v1_1 v1_2) k10
def Z74 N v3 v4 v5 v205 v19 v34 v35 v206 v207 v1_0 v1_1 v1_2 k10 := (Z74L N k10 N v3 v4 v5 v205 v19 v34 v35 v206 v207 v1_0 v1_1 v1_2 : Option ρ)
def Z73 N v3 v4 v5 v205 v19 v34 v35 v206 v207 v1_0 v1_1 v1_2 kn := (Z74 N v3 v4 v5 v205 v19 v34 v35 v206 v207 v1_0 v1_1 v1_2 kn : Option ρ)
def Z71 N v3 v4 v5 v7 v19 v34 v35 v1_0 v1_1 v1_2 kn := (Z72 N v3 v4 v5 v7 v19 v34 v35 v1_0 v1_1 v1_2 (fun v3 v4 v5 v205 v19 v34 v35 v206 v207 v1_0 v1_1 v1_2 => Z73 N v3 v4 v5 v205 v19 v34 v35 v206 v207 v1_0 v1_1 v1_2 kn) : Option ρ)
def Z65 N v3 v4 v5 v7 v16 v19 v34 v35 v1_0 v1_1 v1_2 kn := (Z66 N v3 v4 v5 v7 v16 v19 v34 v35 v1_0 v1_1 v1_2 (fun v3 v4 v5 v7 v19 v34 v35 v1_0 v1_1 v1_2 => Z71 N v3 v4 v5 v7 v19 v34 v35 v1_0 v1_1 v1_2 kn) : Option ρ)
def Z63 N v3 v4 v5 v7 v16 v34 v35 v1_0 v1_1 v1_2 kn := (Z64 N v3 v4 v5 v7 v16 v34 v35 v1_0 v1_1 v1_2 (fun v3 v4 v5 v7 v16 v19 v34 v35 v1_0 v1_1 v1_2 => Z65 N v3 v4 v5 v7 v16 v19 v34 v35 v1_0 v1_1 v1_2 kn) : Option ρ)
def Z57 N v3 v4 v5 v7 v16 v34 v35 v1_0 v1_1 v1_2 kn := (Z58 N v3 v4 v5 v7 v16 v34 v35 v1_0 v1_1 v1_2 (fun v3 v4 v5 v7 v16 v34 v35 v1_0 v1_1 v1_2 => Z63 N v3 v4 v5 v7 v16 v34 v35 v1_0 v1_1 v1_2 kn) : Option ρ)
def Z55 N v3 v4 v5 v7 v34 v35 v1_0 v1_1 v1_2 kn := (Z56 N v3 v4 v5 v7 v34 v35 v1_0 v1_1 v1_2 (fun v3 v4 v5 v7 v16 v34 v35 v1_0 v1_1 v1_2 => Z57 N v3 v4 v5 v7 v16 v34 v35 v1_0 v1_1 v1_2 kn) : Option ρ)
def Z25 N v3 v4 v5 v7 v34 v35 v1_0 v1_1 v1_2 kn kr := (Z26 N v3 v4 v5 v7 v34 v35 v1_0 v1_1 v1_2 (fun v3 v4 v5 v7 v34 v35 v1_0 v1_1 v1_2 => Z55 N v3 v4 v5 v7 v34 v35 v1_0 v1_1 v1_2 kn) kr : Option ρ)
def Z23 N v3 v4 v5 v6 v34 v35 v1_0 v1_1 v1_2 kn kr := (Z24 N v3 v4 v5 v6 v34 v35 v1_0 v1_1 v1_2 (fun v3 v4 v5 v7 v34 v35 v1_0 v1_1 v1_2 => Z25 N v3 v4 v5 v7 v34 v35 v1_0 v1_1 v1_2 kn kr) : Option ρ)
def Z21 N v3 v4 v5 v6 v34 v35 v1_0 v1_1 v1_2 kn kr := (Z22 N v3 v4 v5 v6 v34 v35 v1_0 v1_1 v1_2 (fun v3 v4 v5 v6 v34 v35 v1_0 v1_1 v1_2 => Z23 N v3 v4 v5 v6 v34 v35 v1_0 v1_1 v1_2 kn kr) : Option ρ)
def Z19 N v3 v4 v5 v6 v34 v35 v1_0 v1_1 v1_2 kn k1 kr := (Z20 N v3 v4 v5 v6 v34 v35 v1_0 v1_1 v1_2 (fun v3 v4 v5 v6 v34 v35 v1_0 v1_1 v1_2 => Z21 N v3 v4 v5 v6 v34 v35 v1_0 v1_1 v1_2 kn kr) k1 : Option ρ)
def Z17 N v3 v4 v5 v34 v35 v1_0 v1_1 v1_2 kn k1 kr := (Z18 N v3 v4 v5 v34 v35 v1_0 v1_1 v1_2 (fun v3 v4 v5 v6 v34 v35 v1_0 v1_1 v1_2 => Z19 N v3 v4 v5 v6 v34 v35 v1_0 v1_1 v1_2 kn k1 kr) : Option ρ)
def Z16 N v3 v4 v5 v34 v35 v1_0 v1_1 v1_2 kn kr := (Z17 N v3 v4 v5 v34 v35 v1_0 v1_1 v1_2 kn kn kr : Option ρ)
def Z76 {ρ : Type} (N : Nat) (v3 v4 v5 : LI) (v34 v35 v1_0 v1_1 : Int) (v1_2 : LI) (kn : LI → LI → LI → I4 (LI → Option ρ)) : Option ρ :=
 kn v3 v4 v5 v34 (w64 (v35 + 1)) v1_0 v1_1 v1_2
def Z15 N v3 v4 v5 v34 v35 v1_0 v1_1 v1_2 kn kr := (Z16 N v3 v4 v5 v34 v35 v1_0 v1_1 v1_2 (fun v3 v4 v5 v34 v35 v1_0 v1_1 v1_2 => Z76 N v3 v4 v5 v34 v35 v1_0 v1_1 v1_2 kn) kr : Option ρ)
def Z13 N v3 v4 v5 v34 v35 v36 v1_0 v1_1 v1_2 kn k0 kr := (Z14 N v3 v4 v5 v34 v35 v36 v1_0 v1_1 v1_2 (fun v3 v4 v5 v34 v35 v1_0 v1_1 v1_2 => Z15 N v3 v4 v5 v34 v35 v1_0 v1_1 v1_2 kn kr) k0 : Option ρ)
def Z11 N v3 v4 v5 v34 v35 v1_0 v1_1 v1_2 kn k0 kr := (Z12 N v3 v4 v5 v34 v35 v1_0 v1_1 v1_2 (fun v3 v4 v5 v34 v35 v36 v1_0 v1_1 v1_2 => Z13 N v3 v4 v5 v34 v35 v36 v1_0 v1_1 v1_2 kn k0 kr) : Option ρ)
def Z10L {ρ : Type} (N : Nat) (k0 kr : LI → Option ρ) : Nat → LI → LI → LI → Int → Int → Int → Int → LI → Option ρ
  | 0, _, _, _, _, _, _, _, _ => none
  | M + 1, v3, v4, v5, v34, v35, v1_0, v1_1, v1_2 => Z11 N v3 v4 v5 v34 v35 v1_0 v1_1 v1_2 (fun v3 v4 v5 v34 v35 v1_0 v1_1 v1_2 => Z10L N k0 kr M v3 v4 v5 v34 v35 v1_0 v1_1 v1_2) k0 kr
def Z10 N v3 v4 v5 v34 v35 v1_0 v1_1 v1_2 k0 kr := (Z10L N k0 kr N v3 v4 v5 v34 v35 v1_0 v1_1 v1_2 : Option ρ)
def Z9 N v3 v4 v5 v34 v35 v1_0 v1_1 v1_2 kn kr := (Z10 N v3 v4 v5 v34 v35 v1_0 v1_1 v1_2 kn kr : Option ρ)
def Z7 N v3 v4 v5 v1_0 v1_1 v1_2 kn kr := (Z8 N v3 v4 v5 v1_0 v1_1 v1_2 (fun v3 v4 v5 v34 v35 v1_0 v1_1 v1_2 => Z9 N v3 v4 v5 v34 v35 v1_0 v1_1 v1_2 kn kr) : Option ρ)
def Z77 {ρ : Type} (N : Nat) (v5 : LI) (kr : LI → Option ρ) : Option ρ :=
 cond (Nat.blt 0 v5.length) (
  kr v5) none
def Z6 N v3 v4 v5 v1_0 v1_1 v1_2 kr := (Z7 N v3 v4 v5 v1_0 v1_1 v1_2 (fun v5 => Z77 N v5 kr) kr : Option ρ)
def Z4 N v3 v4 v1_0 v1_1 v1_2 kr := (Z5 N v3 v4 v1_0 v1_1 v1_2 (fun v3 v4 v5 v1_0 v1_1 v1_2 => Z6 N v3 v4 v5 v1_0 v1_1 v1_2 kr) : Option ρ)
def Z2 N v1_0 v1_1 v1_2 kr := (Z3 N v1_0 v1_1 v1_2 (fun v3 v4 v1_0 v1_1 v1_2 => Z4 N v3 v4 v1_0 v1_1 v1_2 kr) : Option ρ)
def Z0 N v0 kr := (Z1 N v0 (fun v1_0 v1_1 v1_2 => Z2 N v1_0 v1_1 v1_2 kr) : Option ρ)
def Spec : Prop := ∀  (v0 : MT), Ty.bd (.pair (.int .i64) (.pair (.int .i64) (.sl 0 (.int .i64)))) v0 → P v0 = true → ∃ N0, ∀ N, N0 ≤ N → Z0 N v0 (fun v2 => some ((), (v2, ()))) = some ((), ((g v0), ()))
theorem mx_abs {a : Int} (h : -99 ≤ a ∧ a ≤ 99) : mx a (w64 (0 - a)) = absK a := by
  rw [w64_id (by omega) (by omega), mx_eq]
  unfold absK
  omega
theorem absK_neg (a : Int) : absK (-a) = absK a := by unfold absK; omega
theorem pow4 {k : Nat} (h : k ≤ 4) : (99 : Int) ^ k ≤ 96059601 := by
  have h1 : 99 ^ k ≤ 99 ^ 4 := Nat.pow_le_pow_right (by omega) h
  have h2 : (99 : Int) ^ k = ((99 ^ k : Nat) : Int) := by rw [Int.natCast_pow]; rfl
  rw [h2]
  omega
theorem ne_good {n : Nat} {A : Nat → Nat → Int} {x j : Nat} (hx : x < n) (hj : j < n) (h : ¬ (A x j = 0 ∧ A j x = 0)) (h' : A x j = 0 ∨ A j x = 0) : ¬ ∃ e, Good n A e := by
  rintro ⟨e, he⟩
  rcases h' with z | z
  · exact h ⟨z, good_zero he hx hj z⟩
  · exact h ⟨good_zero he hj hx z, z⟩
section
variable {ρ : Type} {N : Nat} {m : Int × Int × List Int} {s p x j : Nat} {num0 num den out : List Int} {L : List Nat}
theorem core (hm : shapedK m = true) (hn : m.1.toNat ≤ 5) (hcl : Closed m.1.toNat (ent m) num0) (hf : FInv m.1.toNat (ent m) s num0 L num den) (hp : p < L.length) (hx : L.getD p 0 = x) (hj : j < m.1.toNat) (h0 : ¬ (ent m x j = 0 ∧ ent m j x = 0))
    (kn : List Int → List Int → List Int → List Int → Int → Int → Int → Int → Int → Int → Int → Int → List Int → Option ρ) (kr : List Int → Option ρ) (t34 t35 t62 t63 : Int) :
    (Z52 N num den out (ints L) (p : Int) (x : Int) (j : Int) (ent m x j) (-(ent m j x)) t34 t35 t62 t63 m.1 m.2.1 m.2.2 kn kr = kr [] ∧ ¬ ∃ e, Good m.1.toNat (ent m) e) ∨
    (∃ L' num' den', FInv m.1.toNat (ent m) s num0 L' num' den' ∧ (∃ u, L' = L ++ u) ∧ (∀ y ∈ L, ∀ k, Edge (ent m) L num den y k → Edge (ent m) L' num' den' y k) ∧ Edge (ent m) L' num' den' x j ∧
      Z52 N num den out (ints L) (p : Int) (x : Int) (j : Int) (ent m x j) (-(ent m j x)) t34 t35 t62 t63 m.1 m.2.1 m.2.2 kn kr = kn num' den' out (ints L') (p : Int) (x : Int) t34 t35 t62 t63 m.1 m.2.1 m.2.2) := by
  have hxm : x ∈ L := by rw [← hx]; exact getD_mem 0 hp
  have hxn := hf.lt x hxm
  have hle := hf.le
  simp only [Z52]
  by_cases z1 : ent m x j = 0
  · rw [ct (dt z1)]
    exact Or.inl ⟨rfl, ne_good hxn hj h0 (Or.inl z1)⟩
  rw [cf (df z1)]
  by_cases z2 : ent m j x = 0
  · rw [ct (dt (by omega))]
    exact Or.inl ⟨rfl, ne_good hxn hj h0 (Or.inr z2)⟩
  rw [cf (df (by omega))]
  by_cases sg : (0 < ent m x j ↔ 0 < -(ent m j x))
  · have sgb : (!(((lk N (decide (0 < ent m x j))) == (lk N (decide (0 < -(ent m j x))))))) = false := by
      rw [lk_eq, lk_eq]
      by_cases h1 : 0 < ent m x j
      · rw [dt h1, dt (sg.1 h1)]; rfl
      · rw [df h1, df (fun h => h1 (sg.2 h))]; rfl
    rw [cf sgb]
    have hne : ¬ ((x : Int) = (j : Int)) := fun e => by
      have e' : x = j := by omega
      subst e'
      omega
    rw [cf (df hne)]
    obtain ⟨Q, q1, q2, q3⟩ := hf.frac
    obtain ⟨c1, c2, c3, c4, c5⟩ := q3 x hxm
    have st := stepN (A := ent m) (num := num) (den := den) x j c1 c3 z1 z2
    have sk := skew_of z1 z2 sg
    have hb := ent_bound hm
    have e1 := mx_abs (hb x j)
    have e2 : mx (-(ent m j x)) (w64 (0 - -(ent m j x))) = absK (ent m j x) := by
      rw [mx_abs (by have := hb j x; omega), absK_neg]
    have pw := pow4 (k := L.length - 1) (by omega)
    have hdQ := Int.le_of_dvd q1 c4
    have a1 := absK_le (hb x j)
    have a2 := absK_le (hb j x)
    have a1' := absK_pos z1
    have a2' := absK_pos z2
    have b1 : num.getD x 0 * absK (ent m x j) ≤ 96059601 * 99 := Int.mul_le_mul (by omega) a1 (by omega) (by omega)
    have b2 : den.getD x 0 * absK (ent m j x) ≤ 96059601 * 99 := Int.mul_le_mul (by omega) a2 (by omega) (by omega)
    have hA := st.a0p
    have hB := st.b0p
    simp only [e1, e2, Int.toNat_natCast, w64_id (show -9223372036854775808 ≤ num.getD x 0 * absK (ent m x j) by omega) (by omega), w64_id (show -9223372036854775808 ≤ den.getD x 0 * absK (ent m j x) by omega) (by omega), impl_gcd.g]
    generalize hA0 : num.getD x 0 * absK (ent m x j) = A0 at *
    generalize hB0 : den.getD x 0 * absK (ent m j x) = B0 at *
    generalize hG : (Int.gcd A0 B0 : Int) = G at *
    generalize ha : Int.tdiv A0 G = a at *
    generalize hb' : Int.tdiv B0 G = b at *
    have gp := st.gp
    have ap := st.ap
    have bp := st.bp
    have al : a ≤ A0 := by
      have h1 := Int.mul_le_mul_of_nonneg_left (show (1 : Int) ≤ G by omega) (Int.le_of_lt ap)
      have h2 := st.ea
      omega
    have bl : b ≤ B0 := by
      have h1 := Int.mul_le_mul_of_nonneg_left (show (1 : Int) ≤ G by omega) (Int.le_of_lt bp)
      have h2 := st.eb
      omega
    have i1 : inB (x : Int) num.length = true := inB_nat (by rw [hf.nl]; exact hxn)
    have i2 : inB (x : Int) den.length = true := inB_nat (by rw [hf.dl]; exact hxn)
    have i3 : inB (j : Int) num.length = true := inB_nat (by rw [hf.nl]; exact hj)
    have i4 : inB (j : Int) den.length = true := inB_nat (by rw [hf.dl]; exact hj)
    have hP : impl_gcd.P A0 B0 = true := by
      simp only [impl_gcd.P, Bool.and_eq_true, decide_eq_true_eq]
      omega
    rw [ct i1, ct i2, ct hP, ct (nt (by omega)), ct (nt (by omega)), ct i3]
    simp only [w64_id (show -9223372036854775808 ≤ a by omega) (by omega), w64_id (show -9223372036854775808 ≤ b by omega) (by omega)]
    by_cases hz : num.getD j 0 = 0
    · obtain ⟨hg, hnj⟩ := hf.grow hp hj hz (by rw [hx]; exact st) (fun y k => absK_le (hb y k))
      have hxj : ∀ y ∈ L, j ≠ y := fun y hy e => hnj (e ▸ hy)
      have hnl : j < num.length := by rw [hf.nl]; exact hj
      have hdl : j < den.length := by rw [hf.dl]; exact hj
      rw [ct (dt hz), ct i3, ct i4, ct (show Nat.blt ((ints L).length + ([(j : Int)]).length) 1099511627776 = true by simp [ints_len, Nat.blt_eq]; omega), ints_append]
      refine Or.inr ⟨L ++ [j], num.set j a, den.set j b, hg, ⟨_, rfl⟩, fun y hy k he => he.grow hxj hnl hdl hy, Or.inr ⟨by simp, ?_⟩, rfl⟩
      have := step_edge st sk
      rw [getD_put hnl, if_neg (hxj x hxm), getD_put hdl, if_pos rfl, getD_put hnl, if_pos rfl, getD_put hdl, if_neg (hxj x hxm)]
      exact this
    · have hjm : j ∈ L := Classical.byContradiction fun hc => by
        have h1 : num0.getD j 0 ≠ 0 := by rw [← hf.out j hj hc]; exact hz
        exact hcl j hj h1 x hxn (Or.inr z1) (hf.new x hxm)
      obtain ⟨d1, d2, d3, d4, d5⟩ := q3 j hjm
      have hgood : (∃ e, Good m.1.toNat (ent m) e) → num.getD j 0 = a ∧ den.getD j 0 = b := by
        rintro ⟨e, he⟩
        have g1 := step_good st hxn hj he (hf.good e he x hxm)
        have g2 := hf.good e he j hjm
        have p1 := (he j hj).1
        have p2 : 0 < e s := (he s (by rw [← hf.hd]; exact hf.lt _ (getD_mem 0 hf.pos))).1
        have g3 : (e s * e j) * (num.getD j 0 * b) = (e s * e j) * (a * den.getD j 0) := by grind
        have p3 := Int.mul_pos p2 p1
        exact frac_eq d1 d3 ap bp d5 st.co (Int.eq_of_mul_eq_mul_left (by omega) g3)
      rw [cf (df hz), ct i3]
      by_cases ea : num.getD j 0 = a
      · rw [cf (nf ea), ct i4]
        by_cases eb : den.getD j 0 = b
        · rw [cf (nf eb)]
          refine Or.inr ⟨L, num, den, hf, ⟨[], by simp⟩, fun _ _ _ h => h, Or.inr ⟨hjm, ?_⟩, rfl⟩
          rw [ea, eb]
          exact step_edge st sk
        · rw [ct (nt eb)]
          exact Or.inl ⟨rfl, fun h => eb (hgood h).2⟩
      · rw [ct (nt ea)]
        exact Or.inl ⟨rfl, fun h => ea (hgood h).1⟩
  · have sgb : (!(((lk N (decide (0 < ent m x j))) == (lk N (decide (0 < -(ent m j x))))))) = true := by
      rw [lk_eq, lk_eq]
      by_cases h1 : 0 < ent m x j
      · rw [dt h1, df (fun h2 => sg ⟨fun _ => h2, fun _ => h1⟩)]; rfl
      · rw [df h1, dt (Classical.byContradiction fun h2 => sg ⟨fun h => absurd h h1, fun h => absurd h h2⟩)]; rfl
    rw [ct sgb]
    refine Or.inl ⟨rfl, ?_⟩
    rintro ⟨e, he⟩
    have h1 := good_sign he hxn hj
    rw [signK, Bool.and_eq_true, beq_iff_eq, decide_eq_decide] at h1
    have := h1.1
    omega
theorem at_g (hd : 0 ≤ m.1) (a b : Nat) : impl_Matrix_at.g (m.1, (m.2.1, m.2.2)) (a : Int) (b : Int) = ent m a b := atK_nat hd a b
theorem at_p (hd : dimK m = true) {a b : Nat} (ha : a < m.1.toNat) (hb : b < m.1.toNat) : impl_Matrix_at.P (m.1, (m.2.1, m.2.2)) (a : Int) (b : Int) = true := by
  obtain ⟨n, r, hn, hr, hn1, hn5, hnr, hr8, hl⟩ := dim_nat hd
  exact at_ok hd (by omega) hb
theorem inner (hm : shapedK m = true) (hcl : Closed m.1.toNat (ent m) num0) (k4 : List Int → List Int → List Int → List Int → Int → Int → Int → Int → Int → List Int → Option ρ) (kr : List Int → Option ρ) (t34 t35 : Int) : ∀ (M j : Nat) (L : List Nat) (num den : List Int), FInv m.1.toNat (ent m) s num0 L num den → p < L.length → L.getD p 0 = x → j ≤ m.1.toNat → m.1.toNat - j < M →
    (∀ k', k' < p → ∀ k, k < m.1.toNat → Edge (ent m) L num den (L.getD k' 0) k) → (∀ k, k < j → Edge (ent m) L num den x k) →
    (Z39L N k4 kr M num den out (ints L) (p : Int) (x : Int) t34 t35 (m.1.toNat : Int) (j : Int) m.1 m.2.1 m.2.2 = kr [] ∧ ¬ ∃ e, Good m.1.toNat (ent m) e) ∨
    (∃ L' num' den', FInv m.1.toNat (ent m) s num0 L' num' den' ∧ p < L'.length ∧ (∀ k', k' < p + 1 → ∀ k, k < m.1.toNat → Edge (ent m) L' num' den' (L'.getD k' 0) k) ∧
      Z39L N k4 kr M num den out (ints L) (p : Int) (x : Int) t34 t35 (m.1.toNat : Int) (j : Int) m.1 m.2.1 m.2.2 = k4 num' den' out (ints L') (p : Int) t34 t35 m.1 m.2.1 m.2.2) := by
  have hdim := shaped_dim hm
  obtain ⟨n, r, hn, hr, hn1, hn5, hnr, hr8, hl⟩ := dim_nat hdim
  intro M
  induction M with
  | zero => intro j _ _ _ _ _ _ _ h; omega
  | succ M ih =>
    intro j L num den hf hp hx hj hM hE1 hE2
    have hxm : x ∈ L := by rw [← hx]; exact getD_mem 0 hp
    have hxn := hf.lt x hxm
    simp only [Z39L, Z40, Z41, Z42, Z43]
    by_cases hlt : j < m.1.toNat
    · rw [ct' (by rw [lk_eq]; exact dt (by omega))]
      simp only [Z44, Z45, Z46, Z47, Z48, Z49]
      rw [ct (at_p hdim hxn hlt), ct (at_p hdim hlt hxn), at_g (by omega), at_g (by omega)]
      have hb := ent_bound hm j x
      rw [show w64 (0 - ent m j x) = -(ent m j x) by rw [w64_id (by omega) (by omega)]; omega]
      simp only [Z50, Z51]
      have next : ∀ (L' : List Nat) (num' den' : List Int), FInv m.1.toNat (ent m) s num0 L' num' den' → (∃ u, L' = L ++ u) → (∀ y ∈ L, ∀ k, Edge (ent m) L num den y k → Edge (ent m) L' num' den' y k) → Edge (ent m) L' num' den' x j →
          (Z39L N k4 kr M num' den' out (ints L') (p : Int) (x : Int) t34 t35 (m.1.toNat : Int) ((j + 1 : Nat) : Int) m.1 m.2.1 m.2.2 = kr [] ∧ ¬ ∃ e, Good m.1.toNat (ent m) e) ∨
          (∃ L'' num'' den'', FInv m.1.toNat (ent m) s num0 L'' num'' den'' ∧ p < L''.length ∧ (∀ k', k' < p + 1 → ∀ k, k < m.1.toNat → Edge (ent m) L'' num'' den'' (L''.getD k' 0) k) ∧
            Z39L N k4 kr M num' den' out (ints L') (p : Int) (x : Int) t34 t35 (m.1.toNat : Int) ((j + 1 : Nat) : Int) m.1 m.2.1 m.2.2 = k4 num'' den'' out (ints L'') (p : Int) t34 t35 m.1 m.2.1 m.2.2) := by
        intro L' num' den' hf' hu hk he
        obtain ⟨u, hu⟩ := hu
        have hget : ∀ k', k' < L.length → L'.getD k' 0 = L.getD k' 0 := fun k' hk' => by rw [hu, getD_append_lt hk']
        refine ih (j + 1) L' num' den' hf' (by rw [hu]; simp; omega) (by rw [hget p hp]; exact hx) hlt (by omega) (fun k' hk' k hkn => ?_) (fun k hk' => ?_)
        · rw [hget k' (by omega)]
          exact hk _ (getD_mem 0 (by omega)) k (hE1 k' hk' k hkn)
        · by_cases e : k = j
          · subst e; exact he
          · exact hk x hxm k (hE2 k (by omega))
      by_cases h0 : ent m x j = 0 ∧ ent m j x = 0
      · rw [ct (dt h0.1), ct (dt (by omega))]
        simp only [Z53]
        rw [w64_succ (by rw [maxLen_val]; omega)]
        exact next L num den hf ⟨[], by simp⟩ (fun _ _ _ h => h) (Or.inl h0)
      · have hz : ∀ (X Y : Option ρ), (cond (lk N (decide (ent m x j = 0))) (cond (lk N (decide (-(ent m j x) = 0))) X Y) Y) = Y := by
          intro X Y
          by_cases z1 : ent m x j = 0
          · rw [ct (dt z1), cf (df (fun z2 => h0 ⟨z1, by omega⟩))]
          · rw [cf (df z1)]
        rw [hz]
        rcases core (N := N) (out := out) hm (by omega) hcl hf hp hx hlt h0 (fun num3 den4 out5 piece7 at8 i9 t34 t35 t62 t63 m1_0 m1_1 m1_2 => Z53 N num3 den4 out5 piece7 at8 i9 t34 t35 t62 t63 m1_0 m1_1 m1_2 (fun num3 den4 out5 piece7 at8 i9 t34 t35 t62 t63 m1_0 m1_1 m1_2 => Z39L N k4 kr M num3 den4 out5 piece7 at8 i9 t34 t35 t62 t63 m1_0 m1_1 m1_2)) kr t34 t35 (m.1.toNat : Int) (j : Int) with hc | ⟨L', num', den', h1, h2, h3, h4, h5⟩
        · exact Or.inl hc
        · rw [h5]
          simp only [Z53]
          rw [w64_succ (by rw [maxLen_val]; omega)]
          exact next L' num' den' h1 h2 h3 h4
    · rw [cf' (by rw [lk_eq]; exact df (by omega))]
      refine Or.inr ⟨L, num, den, hf, hp, fun k' hk' k hk => ?_, rfl⟩
      by_cases e : k' = p
      · subst e; rw [hx]; exact hE2 k (by omega)
      · exact hE1 k' (by omega) k hk
theorem middle (hN : 10 ≤ N) (hm : shapedK m = true) (hcl : Closed m.1.toNat (ent m) num0) (k2 : List Int → List Int → List Int → List Int → Int → Int → Int → Int → List Int → Option ρ) (kr : List Int → Option ρ) (t34 t35 : Int) : ∀ (M p : Nat) (L : List Nat) (num den : List Int), FInv m.1.toNat (ent m) s num0 L num den → p ≤ L.length → m.1.toNat - p < M →
    (∀ k', k' < p → ∀ k, k < m.1.toNat → Edge (ent m) L num den (L.getD k' 0) k) →
    (Z29L N k2 kr M num den out (ints L) (p : Int) t34 t35 m.1 m.2.1 m.2.2 = kr [] ∧ ¬ ∃ e, Good m.1.toNat (ent m) e) ∨
    (∃ L' num' den', FInv m.1.toNat (ent m) s num0 L' num' den' ∧ (∀ x ∈ L', ∀ k, k < m.1.toNat → Edge (ent m) L' num' den' x k) ∧
      Z29L N k2 kr M num den out (ints L) (p : Int) t34 t35 m.1 m.2.1 m.2.2 = k2 num' den' out (ints L') t34 t35 m.1 m.2.1 m.2.2) := by
  have hdim := shaped_dim hm
  obtain ⟨n, r, hn, hr, hn1, hn5, hnr, hr8, hl⟩ := dim_nat hdim
  intro M
  induction M with
  | zero => intro p _ _ _ _ _ h; omega
  | succ M ih =>
    intro p L num den hf hp hM hE
    have hle := hf.le
    simp only [Z29L, Z30, Z31]
    by_cases hlt : p < L.length
    · rw [ct (dt (by rw [ints_len]; omega))]
      simp only [Z32, Z33, Z34, Z35]
      rw [ct (inB_nat (by rw [ints_len]; exact hlt))]
      simp only [Z36, Z37, Z38, Z39, Int.toNat_natCast, ints_getD, hf.nl]
      have hin := inner (ρ := ρ) (N := N) (out := out) hm hcl (fun num3 den4 out5 piece7 at8 t34 t35 m1_0 m1_1 m1_2 => Z54 N num3 den4 out5 piece7 at8 t34 t35 m1_0 m1_1 m1_2 (fun num3 den4 out5 piece7 at8 t34 t35 m1_0 m1_1 m1_2 => Z29L N k2 kr M num3 den4 out5 piece7 at8 t34 t35 m1_0 m1_1 m1_2)) kr t34 t35 N 0 L num den hf hlt rfl (by omega) (by omega) hE (fun k hk => by omega)
      rw [show ((0 : Nat) : Int) = 0 from rfl] at hin
      rcases hin with hc | ⟨L', num', den', h1, h2, h3, h4⟩
      · exact Or.inl hc
      · rw [h4]
        simp only [Z54]
        rw [w64_succ (by rw [maxLen_val]; omega)]
        exact ih (p + 1) L' num' den' h1 h2 (by omega) h3
    · rw [cf (df (by rw [ints_len]; omega))]
      refine Or.inr ⟨L, num, den, hf, fun x hx k hk => ?_, rfl⟩
      obtain ⟨k', hk', e⟩ := mem_getD hx
      rw [← e]
      exact hE k' (by omega) k hk
theorem common (hf : FInv m.1.toNat (ent m) s num0 L num den) (h5 : m.1.toNat ≤ 5) {Q : Int} (q1 : 0 < Q) (q2 : Q ≤ 96059601) (q3 : ∀ x ∈ L, 0 < den.getD x 0 ∧ den.getD x 0 ∣ Q) (k6 : List Int → List Int → List Int → List Int → Int → Int → Int → Int → Int → List Int → Option ρ) (t34 t35 : Int) : ∀ (M k : Nat) (c : Int), k ≤ L.length → L.length - k < M → 0 < c → c ∣ Q → (∀ k', k' < k → den.getD (L.getD k' 0) 0 ∣ c) →
    ∃ c', 0 < c' ∧ c' ∣ Q ∧ (∀ x ∈ L, den.getD x 0 ∣ c') ∧
      Z61L N k6 M num den out (ints L) c t34 t35 ((ints L).length : Int) (k : Int) m.1 m.2.1 m.2.2 = k6 num den out (ints L) c' t34 t35 m.1 m.2.1 m.2.2 := by
  have hle := hf.le
  intro M
  induction M with
  | zero => intro k _ _ h; omega
  | succ M ih =>
    intro k c hk hM hc hcQ hd
    simp only [Z61L, Z62]
    by_cases hlt : k < L.length
    · have hxm : L.getD k 0 ∈ L := getD_mem 0 hlt
      obtain ⟨d1, d2⟩ := q3 _ hxm
      have i1 : inB (k : Int) (ints L).length = true := inB_nat (by rw [ints_len]; exact hlt)
      have i2 : inB ((L.getD k 0 : Nat) : Int) den.length = true := inB_nat (by rw [hf.dl]; exact hf.lt _ hxm)
      obtain ⟨g1, g2, g3, g4, g5, g6, g7⟩ := lcm_step hc d1 hcQ d2 q1
      have b1 := Int.le_of_dvd q1 hcQ
      have b2 := Int.le_of_dvd q1 d2
      have b3 := Int.le_of_dvd q1 g5
      rw [ct (dt (by rw [ints_len]; omega)), ct i1]
      simp only [Int.toNat_natCast, ints_getD]
      rw [ct i2, ct i2, ct (show impl_gcd.P c (den.getD (L.getD k 0) 0) = true by
        simp only [impl_gcd.P, Bool.and_eq_true, decide_eq_true_eq]
        omega)]
      have eg : impl_gcd.g c (den.getD (L.getD k 0) 0) = (Int.gcd c (den.getD (L.getD k 0) 0) : Int) := rfl
      rw [ct (nt (by rw [eg]; omega)), eg, w64_id (n := Int.tdiv c _) (by omega) (by omega), w64_id (by omega) (by omega), w64_succ (by rw [maxLen_val]; omega)]
      refine ih (k + 1) _ hlt (by omega) g4 g5 (fun k' hk' => ?_)
      by_cases e : k' = k
      · subst e; exact g7
      · exact Int.dvd_trans (hd k' (by omega)) g6
    · rw [cf (df (by rw [ints_len]; omega))]
      refine ⟨c, hc, hcQ, fun x hx => ?_, rfl⟩
      obtain ⟨k', hk', e⟩ := mem_getD hx
      rw [← e]
      exact hd k' (by omega)
structure O2 (n : Nat) (L : List Nat) (num den out0 : List Int) (c : Int) (k : Nat) (out : List Int) (g : Int) : Prop where
  len : out.length = n
  old : ∀ x, x < n → (∀ k', k' < k → x ≠ L.getD k' 0) → out.getD x 0 = out0.getD x 0
  val : ∀ k', k' < k → out.getD (L.getD k' 0) 0 * den.getD (L.getD k' 0) 0 = c * num.getD (L.getD k' 0) 0 ∧ 0 < out.getD (L.getD k' 0) 0 ∧ out.getD (L.getD k' 0) 0 ≤ 9227446944279201
  gcd : g = ((gcdL ((List.range k).map fun t => out.getD (L.getD t 0) 0) : Nat) : Int)
theorem O2.g_range {n : Nat} {out0 : List Int} {c g : Int} {k : Nat} (h : O2 n L num den out0 c k out g) : 0 ≤ g ∧ g ≤ 9227446944279201 ∧ (0 < k → 0 < g) := by
  have h0 : 0 ≤ g := by rw [h.gcd]; omega
  by_cases e : k = 0
  · subst e
    have := h.gcd
    simp [gcdL] at this
    omega
  · obtain ⟨_, a1, a2⟩ := h.val 0 (by omega)
    have hd : g ∣ out.getD (L.getD 0 0) 0 := by
      rw [h.gcd]
      exact gcdL_dvd (List.mem_map.2 ⟨0, List.mem_range.2 (by omega), rfl⟩)
    have := Int.le_of_dvd a1 hd
    refine ⟨h0, by omega, fun _ => ?_⟩
    rcases Int.lt_or_le 0 g with h' | h'
    · exact h'
    · have e : g = 0 := by omega
      rw [e] at hd
      have := Int.zero_dvd.1 hd
      omega
theorem outs (hf : FInv m.1.toNat (ent m) s num0 L num den) (h5 : m.1.toNat ≤ 5) {c : Int} (c1 : 0 < c) (c2 : c ≤ 96059601) (q3 : ∀ x ∈ L, 0 < num.getD x 0 ∧ num.getD x 0 ≤ 96059601 ∧ 0 < den.getD x 0 ∧ den.getD x 0 ∣ c) (out0 : List Int) (k8 : List Int → List Int → List Int → List Int → Int → Int → Int → Int → Int → List Int → Option ρ) (t34 t35 : Int) : ∀ (M k : Nat) (out : List Int) (g : Int), k ≤ L.length → L.length - k < M → O2 m.1.toNat L num den out0 c k out g →
    ∃ out' g', O2 m.1.toNat L num den out0 c L.length out' g' ∧
      Z69L N k8 M num den out (ints L) c g t34 t35 ((ints L).length : Int) (k : Int) m.1 m.2.1 m.2.2 = k8 num den out' (ints L) g' t34 t35 m.1 m.2.1 m.2.2 := by
  have hle := hf.le
  intro M
  induction M with
  | zero => intro k _ _ _ h; omega
  | succ M ih =>
    intro k out g hk hM ho
    simp only [Z69L, Z70]
    by_cases hlt : k < L.length
    · have hxm : L.getD k 0 ∈ L := getD_mem 0 hlt
      have hxn := hf.lt _ hxm
      obtain ⟨d1, d2, d3, d4⟩ := q3 _ hxm
      have i1 : inB (k : Int) (ints L).length = true := inB_nat (by rw [ints_len]; exact hlt)
      have i2 : inB ((L.getD k 0 : Nat) : Int) den.length = true := inB_nat (by rw [hf.dl]; exact hxn)
      have i3 : inB ((L.getD k 0 : Nat) : Int) num.length = true := inB_nat (by rw [hf.nl]; exact hxn)
      have i4 : inB ((L.getD k 0 : Nat) : Int) out.length = true := inB_nat (by rw [ho.len]; exact hxn)
      have hxo : L.getD k 0 < out.length := by rw [ho.len]; exact hxn
      have hg := ho.g_range
      have t1 : Int.tdiv c (den.getD (L.getD k 0) 0) * den.getD (L.getD k 0) 0 = c := Int.tdiv_mul_cancel d4
      have t2 : 0 < Int.tdiv c (den.getD (L.getD k 0) 0) ∧ Int.tdiv c (den.getD (L.getD k 0) 0) ≤ c := by
        generalize Int.tdiv c (den.getD (L.getD k 0) 0) = t at t1 ⊢
        have : 0 < t := by
          rcases Int.lt_or_le 0 t with h' | h'
          · exact h'
          · have := Int.mul_nonpos_of_nonpos_of_nonneg h' (Int.le_of_lt d3); omega
        have := Int.mul_le_mul_of_nonneg_left (show (1 : Int) ≤ den.getD (L.getD k 0) 0 by omega) (Int.le_of_lt this)
        exact ⟨by omega, by omega⟩
      have t3 : 0 < Int.tdiv c (den.getD (L.getD k 0) 0) * num.getD (L.getD k 0) 0 := Int.mul_pos t2.1 d1
      have t4 : Int.tdiv c (den.getD (L.getD k 0) 0) * num.getD (L.getD k 0) 0 ≤ 96059601 * 96059601 := Int.mul_le_mul (by omega) d2 (by omega) (by omega)
      rw [ct (dt (by rw [ints_len]; omega)), ct i1]
      simp only [Int.toNat_natCast, ints_getD]
      rw [ct i2, ct (nt (by omega)), ct i3, ct i4]
      simp only [w64_id (show -9223372036854775808 ≤ Int.tdiv c (den.getD (L.getD k 0) 0) by omega) (by omega)]
      simp only [w64_id (show -9223372036854775808 ≤ Int.tdiv c (den.getD (L.getD k 0) 0) * num.getD (L.getD k 0) 0 by omega) (by omega)]
      generalize hv : Int.tdiv c (den.getD (L.getD k 0) 0) * num.getD (L.getD k 0) 0 = v at t3 t4 ⊢
      have hself : (out.set (L.getD k 0) v).getD (L.getD k 0) 0 = v := by rw [getD_put hxo, if_pos rfl]
      have hget : ∀ t, t < k → (out.set (L.getD k 0) v).getD (L.getD t 0) 0 = out.getD (L.getD t 0) 0 := fun t ht' => by
        rw [getD_put hxo, if_neg (fun e => by have := nodup_getD hf.nd hlt (by omega) e; omega)]
      rw [ct (inB_nat (by rw [List.length_set]; exact hxo)), hself, ct (show impl_gcd.P g v = true by
        simp only [impl_gcd.P, Bool.and_eq_true, decide_eq_true_eq]
        omega), w64_succ (by rw [maxLen_val]; omega)]
      refine ih (k + 1) _ _ hlt (by omega) ⟨by rw [List.length_set]; exact ho.len, ?_, ?_, ?_⟩
      · intro x hx hall
        rw [getD_put hxo, if_neg (fun e => hall k (by omega) e.symm)]
        exact ho.old x hx (fun t ht' => hall t (by omega))
      · intro t ht'
        by_cases e : t = k
        · subst e
          rw [hself]
          refine ⟨?_, t3, by omega⟩
          rw [← hv]
          have e1 := t1
          grind
        · rw [hget t (by omega)]
          exact ho.val t (by omega)
      · rw [List.range_succ, List.map_append, List.map_cons, List.map_nil, hself]
        rw [show (List.range k).map (fun t => (out.set (L.getD k 0) v).getD (L.getD t 0) 0) = (List.range k).map (fun t => out.getD (L.getD t 0) 0) from List.map_congr_left (fun t ht' => hget t (List.mem_range.1 ht'))]
        rw [ho.gcd]
        exact gcd_snoc _ _ v (by omega) rfl
    · have e : k = L.length := by omega
      subst e
      exact ⟨out, g, ho, by rw [cf (df (by rw [ints_len]; omega))]⟩
theorem divs (hf : FInv m.1.toNat (ent m) s num0 L num den) (h5 : m.1.toNat ≤ 5) {out2 : List Int} {g : Int} (hg : 0 < g) (hv : ∀ x ∈ L, 0 < out2.getD x 0 ∧ out2.getD x 0 ≤ 9227446944279201) (k10 : List Int → List Int → List Int → Int → Int → Int → Int → List Int → Option ρ) (t34 t35 : Int) : ∀ (M k : Nat) (d : List Int), k ≤ L.length → L.length - k < M → T3 m (L, []) out2 g k d →
    ∃ d', T3 m (L, []) out2 g L.length d' ∧ Z74L N k10 M num den d (ints L) g t34 t35 ((ints L).length : Int) (k : Int) m.1 m.2.1 m.2.2 = k10 num den d' t34 t35 m.1 m.2.1 m.2.2 := by
  have hle := hf.le
  intro M
  induction M with
  | zero => intro k _ _ h; omega
  | succ M ih =>
    intro k d hk hM ht
    simp only [Z74L, Z75]
    by_cases hlt : k < L.length
    · have hxm : L.getD k 0 ∈ L := getD_mem 0 hlt
      have hxn := hf.lt _ hxm
      obtain ⟨v1, v2⟩ := hv _ hxm
      have hcur := ht.cur hf.nd hf.lt hlt
      have hdv : 0 ≤ Int.tdiv (out2.getD (L.getD k 0) 0) g ∧ Int.tdiv (out2.getD (L.getD k 0) 0) g ≤ 9227446944279201 := by
        rw [Int.tdiv_eq_ediv_of_nonneg (by omega)]
        refine ⟨Int.ediv_nonneg (by omega) (by omega), ?_⟩
        have := Int.ediv_le_self (a := out2.getD (L.getD k 0) 0) g (by omega)
        omega
      have i4 : inB ((L.getD k 0 : Nat) : Int) d.length = true := inB_nat (by rw [ht.len]; exact hxn)
      have hcur' : d.getD (L.getD k 0) 0 = out2.getD (L.getD k 0) 0 := hcur
      rw [ct (dt (by rw [ints_len]; omega)), ct (inB_nat (by rw [ints_len]; exact hlt))]
      simp only [Int.toNat_natCast, ints_getD]
      rw [ct i4, ct (nt (by omega)), ct i4, hcur', w64_id (by omega) (by omega), w64_succ (by rw [maxLen_val]; omega)]
      exact ih (k + 1) _ hlt (by omega) (ht.step hf.nd hf.lt hlt)
    · have e : k = L.length := by omega
      subst e
      exact ⟨d, ht, by rw [cf (df (by rw [ints_len]; omega))]⟩
theorem outer (hN : 10 ≤ N) (hm : shapedK m = true) (kr : List Int → Option ρ) : ∀ (M i : Nat) (num den out : List Int), OInv m.1.toNat (ent m) num out → den.length = m.1.toNat → i ≤ m.1.toNat → (∀ x, x < i → num.getD x 0 ≠ 0) → m.1.toNat - i < M →
    Z10L N (fun out5 => Z77 N out5 kr) kr M num den out (m.1.toNat : Int) (i : Int) m.1 m.2.1 m.2.2 = kr (facK m) := by
  have hdim := shaped_dim hm
  obtain ⟨n, r, hn, hr, hn1, hn5, hnr, hr8, hl⟩ := dim_nat hdim
  intro M
  induction M with
  | zero => intro i _ _ _ _ _ _ _ h; omega
  | succ M ih =>
    intro i num den out hO hdl hi hpos hM
    simp only [Z10L, Z11, Z12, Z13, Z14]
    by_cases hlt : i < m.1.toNat
    · rw [ct' (by rw [lk_eq]; exact dt (by omega))]
      simp only [Z15, Z16, Z17, Z18, Z19, Z20]
      rw [ct (inB_nat (by rw [hO.nl]; exact hlt)), Int.toNat_natCast]
      by_cases hz : num.getD i 0 = 0
      · rw [cf (nf hz)]
        simp only [Z21, Z22]
        rw [ct (inB_nat (by rw [hO.nl]; exact hlt)), ct (inB_nat (by rw [hdl]; exact hlt)), Int.toNat_natCast]
        simp only [Z23, Z24, Z25, Z26, Z27, Z28, Z29]
        have hnl : i < num.length := by rw [hO.nl]; exact hlt
        have hdl' : i < den.length := by rw [hdl]; exact hlt
        have f0 : FInv m.1.toNat (ent m) i num [i] (num.set i 1) (den.set i 1) := by
          refine ⟨by rw [List.length_set]; exact hO.nl, by rw [List.length_set]; exact hdl, by simp, fun x hx => by rw [List.mem_singleton] at hx; omega, rfl, by simp, ?_, ?_, ?_, ?_⟩
          · intro x hx hni
            rw [getD_put hnl, if_neg (fun e => hni (by simp [e]))]
          · intro x hx
            rw [List.mem_singleton] at hx; subst hx; exact hz
          · refine ⟨1, by omega, by simp, fun x hx => ?_⟩
            rw [List.mem_singleton] at hx
            subst hx
            rw [getD_put hnl, if_pos rfl, getD_put hdl', if_pos rfl]
            exact ⟨by omega, by simp, by omega, Int.dvd_refl _, by decide⟩
          · intro e he x hx
            rw [List.mem_singleton] at hx
            subst hx
            rw [getD_put hnl, if_pos rfl, getD_put hdl', if_pos rfl]
        have hmid := middle (ρ := ρ) (out := out) hN hm hO.closed (fun num3 den4 out5 piece7 t34 t35 m1_0 m1_1 m1_2 => Z55 N num3 den4 out5 piece7 t34 t35 m1_0 m1_1 m1_2 (fun num3 den4 out5 t34 t35 m1_0 m1_1 m1_2 => Z76 N num3 den4 out5 t34 t35 m1_0 m1_1 m1_2 (fun num3 den4 out5 t34 t35 m1_0 m1_1 m1_2 => Z10L N (fun out5 => Z77 N out5 kr) kr M num3 den4 out5 t34 t35 m1_0 m1_1 m1_2))) kr (m.1.toNat : Int) (i : Int) N 0 [i] (num.set i 1) (den.set i 1) f0 (by omega) (by omega) (fun k' hk' => by omega)
        rw [show ((0 : Nat) : Int) = 0 from rfl, show ints [i] = [(i : Int)] from rfl] at hmid
        rcases hmid with ⟨h1, h2⟩ | ⟨L, num', den', hf, hE, h1⟩
        · rw [h1, fac_none h2]
        · rw [h1]
          have hle := hf.le
          obtain ⟨Q, q1, q2, q3⟩ := hf.frac
          have pw := pow4 (k := L.length - 1) (by omega)
          simp only [Z55, Z56, Z57, Z58, Z59, Z60, Z61]
          obtain ⟨c, c1, c2, c3, c4⟩ := common (ρ := ρ) (N := N) (out := out) (num := num') (m := m) hf (by omega) q1 (by omega) (fun x hx => ⟨(q3 x hx).2.2.1, (q3 x hx).2.2.2.1⟩) (fun num3 den4 out5 piece7 common16 t34 t35 m1_0 m1_1 m1_2 => Z63 N num3 den4 out5 piece7 common16 t34 t35 m1_0 m1_1 m1_2 (fun num3 den4 out5 t34 t35 m1_0 m1_1 m1_2 => Z76 N num3 den4 out5 t34 t35 m1_0 m1_1 m1_2 (fun num3 den4 out5 t34 t35 m1_0 m1_1 m1_2 => Z10L N (fun out5 => Z77 N out5 kr) kr M num3 den4 out5 t34 t35 m1_0 m1_1 m1_2))) (m.1.toNat : Int) (i : Int) N 0 1 (by omega) (by omega) (by omega) (Int.one_dvd _) (fun k' hk' => by omega)
          rw [show ((0 : Nat) : Int) = 0 from rfl] at c4
          rw [c4]
          have cQ := Int.le_of_dvd q1 c2
          simp only [Z63, Z64, Z65, Z66, Z67, Z68, Z69]
          obtain ⟨out2, g2, o1, o2⟩ := outs (ρ := ρ) (N := N) (num := num') (m := m) hf (by omega) c1 (by omega) (fun x hx => ⟨(q3 x hx).1, by have := (q3 x hx).2.1; omega, (q3 x hx).2.2.1, c3 x hx⟩) out (fun num3 den4 out5 piece7 g19 t34 t35 m1_0 m1_1 m1_2 => Z71 N num3 den4 out5 piece7 g19 t34 t35 m1_0 m1_1 m1_2 (fun num3 den4 out5 t34 t35 m1_0 m1_1 m1_2 => Z76 N num3 den4 out5 t34 t35 m1_0 m1_1 m1_2 (fun num3 den4 out5 t34 t35 m1_0 m1_1 m1_2 => Z10L N (fun out5 => Z77 N out5 kr) kr M num3 den4 out5 t34 t35 m1_0 m1_1 m1_2))) (m.1.toNat : Int) (i : Int) N 0 out 0 (by omega) (by omega) ⟨hO.ol, fun _ _ _ => rfl, fun k hk => by omega, rfl⟩
          rw [show ((0 : Nat) : Int) = 0 from rfl] at o2
          rw [o2]
          have hg2 := o1.g_range.2.2 hf.pos
          have hval : ∀ x ∈ L, out2.getD x 0 * den'.getD x 0 = c * num'.getD x 0 ∧ 0 < out2.getD x 0 ∧ out2.getD x 0 ≤ 9227446944279201 := by
            intro x hx
            obtain ⟨k, hk, e⟩ := mem_getD hx
            rw [← e]
            exact o1.val k hk
          simp only [Z71, Z72, Z73, Z74]
          obtain ⟨out3, p1, p2⟩ := divs (ρ := ρ) (N := N) (num := num') (m := m) hf (by omega) hg2 (fun x hx => (hval x hx).2) (fun num3 den4 out5 t34 t35 m1_0 m1_1 m1_2 => Z76 N num3 den4 out5 t34 t35 m1_0 m1_1 m1_2 (fun num3 den4 out5 t34 t35 m1_0 m1_1 m1_2 => Z10L N (fun out5 => Z77 N out5 kr) kr M num3 den4 out5 t34 t35 m1_0 m1_1 m1_2)) (m.1.toNat : Int) (i : Int) N 0 out2 (by omega) (by omega) ⟨o1.len, fun _ _ _ => rfl, fun k hk => by omega⟩
          rw [show ((0 : Nat) : Int) = 0 from rfl] at p2
          rw [p2]
          have hgl : g2 = ((gcdL (L.map fun x => out2.getD x 0) : Nat) : Int) := by
            rw [← range_getD L (fun x => out2.getD x 0)]
            exact o1.gcd
          obtain ⟨r1, r2, r3⟩ := hO.piece (out3 := out3) hf hE c1 hg2 (fun x hx => (hval x hx).1) hgl (fun x hx => by
            obtain ⟨k, hk, e⟩ := mem_getD hx
            have := p1.val k hk
            rw [← e]
            rw [show out3.getD (L.getD k 0) 0 = _ from this]
            refine Int.tdiv_mul_cancel ?_
            rw [hgl]
            exact gcdL_dvd (List.mem_map.2 ⟨L.getD k 0, getD_mem 0 hk, rfl⟩)) (fun x hx hni => by
            have hne : ∀ k', k' < L.length → x ≠ L.getD k' 0 := fun k' hk' e => hni (by rw [e]; exact getD_mem 0 hk')
            rw [p1.out x hx hne, o1.old x hx hne]) p1.len
          simp only [Z76]
          rw [w64_succ (by rw [maxLen_val]; omega)]
          exact ih (i + 1) num' den' out3 r1 hf.dl hlt (fun x hx => by
            by_cases e : x = i
            · subst e; exact r2
            · exact r3 x (by omega) (hpos x (by omega))) (by omega)
      · rw [ct (nt hz)]
        simp only [Z76]
        rw [w64_succ (by rw [maxLen_val]; omega)]
        exact ih (i + 1) num den out hO hdl hlt (fun x hx => by
          by_cases e : x = i
          · subst e; exact hz
          · exact hpos x (by omega)) (by omega)
    · rw [cf' (by rw [lk_eq]; exact df (by omega))]
      simp only [Z77]
      rw [hO.fac (fun x hx => hpos x (by omega)), ct' (by rw [hO.ol, Nat.blt_eq]; omega)]
end
theorem ok : Spec := fun m hb hp => ⟨10, fun N hN => by
  have hm : shapedK m = true := hp
  have hdim := shaped_dim hm
  obtain ⟨n, r, hn, hr, hn1, hn5, hnr, hr8, hl⟩ := dim_nat hdim
  have hz : ∀ x, (List.replicate m.1.toNat (0 : Int)).getD x 0 = 0 := fun x => by
    rw [List.getD_eq_getElem?_getD, List.getElem?_replicate]
    split <;> rfl
  have hc : (leB 0 m.1 && decide (m.1 < 1099511627776)) = true := by rw [leB_t (by omega), dt (by omega)]; rfl
  simp only [Z0, Z1, Z2, Z3]
  rw [ct hc, ct hc]
  have key : Z4 N (List.replicate m.1.toNat 0) (List.replicate m.1.toNat 0) m.1 m.2.1 m.2.2 (fun t2 => some ((), (t2, ()))) = some ((), (g m, ())) := by
    simp only [Z4, Z5]
    rw [ct hc]
    simp only [Z6, Z7, Z8, Z9, Z10, List.length_replicate]
    have := outer (ρ := Unit × List Int × Unit) hN hm (fun t2 => some ((), (t2, ()))) N 0 (List.replicate m.1.toNat 0) (List.replicate m.1.toNat 0) (List.replicate m.1.toNat 0) ⟨by simp, by simp, fun y hy h => absurd (hz y) h, fun j hj h => absurd (hz j) h⟩ (by simp) (by omega) (fun x hx => by omega) (by omega)
    exact this
  rw [key, both_self]⟩
end impl_factors
end
end Go.Fw
namespace Go.Fw
noncomputable section
variable {ρ : Type}
namespace impl_MatrixOk
def g (m : Int × Int × List Int) : Bool := shapedK m && !decide (facK m = [])
end impl_MatrixOk
namespace impl_MatrixOk
def Z0 {ρ : Type} (N : Nat) (v0 : MT) (kr : Bool → Option ρ) : Option ρ :=
 cond (lk N ((impl_shaped.g v0)))
 (
  cond (lk N (impl_factors.P v0)) (
   kr (lk N (!(decide ((impl_factors.g v0).length = 0))))) none)
 (
  kr false)
def Spec : Prop := ∀  (v0 : MT), Ty.bd (.pair (.int .i64) (.pair (.int .i64) (.sl 0 (.int .i64)))) v0 → ∃ N0, ∀ N, N0 ≤ N → Z0 N v0 (fun v2 => some ((), (v2, ()))) = some ((), ((g v0), ()))
theorem ok : Spec := fun m hb => ⟨0, fun N hN => by
  simp only [Z0, lk_eq, g, impl_shaped.g, impl_factors.P, impl_factors.g]
  cases shapedK m
  · rfl
  · by_cases h : facK m = []
    · rw [dt h, dt (by rw [h]; rfl)]; rfl
    · rw [df h, df (fun e => h (List.length_eq_zero_iff.1 e))]; rfl⟩
end impl_MatrixOk
end
end Go.Fw
namespace Go.Fw
noncomputable section
variable {ρ : Type}
namespace slices_Clone_int_int
def P (a : List Int) : Bool := decide (a.length < 1099511627776)
abbrev g (a : List Int) : List Int := a
end slices_Clone_int_int
namespace slices_Clone_int_int
def Z0 {ρ : Type} (N : Nat) (v0 : LI) (kr : LI → Option ρ) : Option ρ :=
 cond (lk N (decide (0 < v0.length)))
 (
  cond (lk N (Nat.blt (([] : List Int).length + v0.length) 1099511627776)) (
   kr (([] : List Int) ++ v0)) none)
 (
  both (
   kr ([] : List Int))
  (
   cond (lk N (Nat.blt (([] : List Int).length + v0.length) 1099511627776)) (
    kr (([] : List Int) ++ v0)) none))
def Spec : Prop := ∀  (v0 : LI), Ty.bd (.sl 0 (.int .i64)) v0 → P v0 = true → ∃ N0, ∀ N, N0 ≤ N → Z0 N v0 (fun v2 => some ((), (v2, ()))) = some ((), ((g v0), ()))
theorem ok : Spec := fun a hb hp => ⟨0, fun N hN => by
  have hl : a.length < 1099511627776 := by simpa [P] using hp
  have hc : Nat.blt (([] : List Int).length + a.length) 1099511627776 = true := by simpa using hl
  simp only [Z0, lk_eq, g, hc, cond_true, List.nil_append]
  by_cases h : 0 < a.length
  · simp [h]
  · have : a = [] := List.eq_nil_of_length_eq_zero (by omega)
    subst this
    simp [both_self]⟩
end slices_Clone_int_int
end
end Go.Fw
namespace Go.Fw
noncomputable section
variable {ρ : Type}
namespace impl_PrincipalMatrix
def g (m : Int × Int × List Int) : (Int × Int × List Int) × Bool :=
  if ((shapedK m && !decide (facK m = [])) && (decide (m.2.1 = m.1) && decide (2 * m.1 ≤ 8))) = true then (princK m, true) else ((0, 0, []), false)
end impl_PrincipalMatrix
namespace impl_PrincipalMatrix
def Z1 {ρ : Type} (N : Nat) (v0 : MT) (kn : I2 (LI → I2 (Option ρ))) : Option ρ :=
 kn v0.1 v0.2.1 v0.2.2 0 0
def Z3 {ρ : Type} (N : Nat) (v1_0 v1_1 : Int) (v1_2 : LI) (v2_0 v2_1 : Int) (kn : I2 (LI → I2 (Option ρ))) (kr : LI → Bool → I2 (Option ρ)) : Option ρ :=
 cond (!(lk N ((impl_MatrixOk.g (v1_0, (v1_1, v1_2))))))
 (
  kr ([] : List Int) false 0 0)
 (
  cond (lk N (!(decide (v1_1 = v1_0))))
  (
   kr ([] : List Int) false 0 0)
  (
   cond (lk N (decide (8 < (w64 (2 * v1_0)))))
   (
    kr ([] : List Int) false 0 0)
   (
    kn v1_0 v1_1 v1_2 v2_0 v2_1)))
def Z5 {ρ : Type} (N : Nat) (v1_0 v1_1 : Int) (v1_2 : LI) (v2_0 v2_1 : Int) (kn : LI → I2 (LI → I4 (Option ρ))) : Option ρ :=
 both (
  cond (lk N (slices_Clone_int_int.P v1_2)) (
   both (
    kn (slices_Clone_int_int.g v1_2) v1_0 v1_1 v1_2 v2_0 v2_1 v1_0 (w64 (2 * v1_0)))
   (
    kn (slices_Clone_int_int.g v1_2) v1_0 v1_1 v1_2 v2_0 v2_1 v1_0 (w64 (2 * v1_0)))) none)
 (
  cond (lk N (slices_Clone_int_int.P v1_2)) (
   kn (slices_Clone_int_int.g v1_2) v1_0 v1_1 v1_2 v2_0 v2_1 v1_0 (w64 (2 * v1_0))) none)
def Z8 {ρ : Type} (N : Nat) (v4_2 : LI) (v1_0 v1_1 : Int) (v1_2 : LI) (v2_0 v2_1 v4_0 v4_1 : Int) (kn : LI → I3 (LI → I4 (Option ρ))) : Option ρ :=
 kn v4_2 0 v1_0 v1_1 v1_2 v2_0 v2_1 v4_0 v4_1
def Z12 {ρ : Type} (N : Nat) (v4_2 : LI) (v5 v1_0 v1_1 : Int) (v1_2 : LI) (v2_0 v2_1 v4_0 v4_1 : Int) (kn : LI → I3 (LI → I4 (Option ρ))) (k0 : LI → I4 (Option ρ)) : Option ρ :=
 cond (lk N (decide (v5 < v1_0)))
 (
  kn v4_2 v5 v1_0 v1_1 v1_2 v2_0 v2_1 v4_0 v4_1)
 (
  k0 v4_2 v2_0 v2_1 v4_0 v4_1)
def Z16 {ρ : Type} (N : Nat) (v4_2 : LI) (v5 v1_0 v1_1 : Int) (v1_2 : LI) (v2_0 v2_1 v4_0 v4_1 : Int) (kn : LI → I4 (LI → I4 (Option ρ))) : Option ρ :=
 kn v4_2 v5 0 v1_0 v1_1 v1_2 v2_0 v2_1 v4_0 v4_1
def Z19 {ρ : Type} (N : Nat) (v4_2 : LI) (v5 v6 v1_0 v1_1 : Int) (v1_2 : LI) (v2_0 v2_1 v4_0 v4_1 : Int) (kn : LI → I4 (LI → I4 (Option ρ))) (k2 : LI → I3 (LI → I4 (Option ρ))) : Option ρ :=
 cond (lk N (decide (v6 < v1_0)))
 (
  cond (lk N (decide (v5 = v6)))
  (
   cond (lk N (Nat.blt (v4_2.length + ([1] : List Int).length) 1099511627776)) (
    kn (v4_2 ++ ([1] : List Int)) v5 (w64 (v6 + 1)) v1_0 v1_1 v1_2 v2_0 v2_1 v4_0 v4_1) none)
  (
   cond (lk N (Nat.blt (v4_2.length + ([0] : List Int).length) 1099511627776)) (
    kn (v4_2 ++ ([0] : List Int)) v5 (w64 (v6 + 1)) v1_0 v1_1 v1_2 v2_0 v2_1 v4_0 v4_1) none))
 (
  k2 v4_2 v5 v1_0 v1_1 v1_2 v2_0 v2_1 v4_0 v4_1)
def Z18L {ρ : Type} (N : Nat) (k2 : LI → I3 (LI → I4 (Option ρ))) : Nat → LI → Int → Int → Int → Int → LI → Int → Int → Int → Int → Option ρ
  | 0, _, _, _, _, _, _, _, _, _, _ => none
  | M + 1, v4_2, v5, v6, v1_0, v1_1, v1_2, v2_0, v2_1, v4_0, v4_1 => Z19 N v4_2 v5 v6 v1_0 v1_1 v1_2 v2_0 v2_1 v4_0 v4_1 (fun v4_2 v5 v6 v1_0 v1_1 v1_2 v2_0 v2_1 v4_0 v4_1 => Z18L N k2 M v4_2 v5 v6 v1_0 v1_1 v1_2 v2_0 v2_1 v4_0 v4_1) k2
def Z18 N v4_2 v5 v6 v1_0 v1_1 v1_2 v2_0 v2_1 v4_0 v4_1 k2 := (Z18L N k2 N v4_2 v5 v6 v1_0 v1_1 v1_2 v2_0 v2_1 v4_0 v4_1 : Option ρ)
def Z17 N v4_2 v5 v6 v1_0 v1_1 v1_2 v2_0 v2_1 v4_0 v4_1 kn := (Z18 N v4_2 v5 v6 v1_0 v1_1 v1_2 v2_0 v2_1 v4_0 v4_1 kn : Option ρ)
def Z15 N v4_2 v5 v1_0 v1_1 v1_2 v2_0 v2_1 v4_0 v4_1 kn := (Z16 N v4_2 v5 v1_0 v1_1 v1_2 v2_0 v2_1 v4_0 v4_1 (fun v4_2 v5 v6 v1_0 v1_1 v1_2 v2_0 v2_1 v4_0 v4_1 => Z17 N v4_2 v5 v6 v1_0 v1_1 v1_2 v2_0 v2_1 v4_0 v4_1 kn) : Option ρ)
def Z14 N v4_2 v5 v1_0 v1_1 v1_2 v2_0 v2_1 v4_0 v4_1 kn := (Z15 N v4_2 v5 v1_0 v1_1 v1_2 v2_0 v2_1 v4_0 v4_1 kn : Option ρ)
def Z20 {ρ : Type} (N : Nat) (v4_2 : LI) (v5 v1_0 v1_1 : Int) (v1_2 : LI) (v2_0 v2_1 v4_0 v4_1 : Int) (kn : LI → I3 (LI → I4 (Option ρ))) : Option ρ :=
 kn v4_2 (w64 (v5 + 1)) v1_0 v1_1 v1_2 v2_0 v2_1 v4_0 v4_1
def Z13 N v4_2 v5 v1_0 v1_1 v1_2 v2_0 v2_1 v4_0 v4_1 kn := (Z14 N v4_2 v5 v1_0 v1_1 v1_2 v2_0 v2_1 v4_0 v4_1 (fun v4_2 v5 v1_0 v1_1 v1_2 v2_0 v2_1 v4_0 v4_1 => Z20 N v4_2 v5 v1_0 v1_1 v1_2 v2_0 v2_1 v4_0 v4_1 kn) : Option ρ)
def Z11 N v4_2 v5 v1_0 v1_1 v1_2 v2_0 v2_1 v4_0 v4_1 kn k0 := (Z12 N v4_2 v5 v1_0 v1_1 v1_2 v2_0 v2_1 v4_0 v4_1 (fun v4_2 v5 v1_0 v1_1 v1_2 v2_0 v2_1 v4_0 v4_1 => Z13 N v4_2 v5 v1_0 v1_1 v1_2 v2_0 v2_1 v4_0 v4_1 kn) k0 : Option ρ)
def Z10L {ρ : Type} (N : Nat) (k0 : LI → I4 (Option ρ)) : Nat → LI → Int → Int → Int → LI → Int → Int → Int → Int → Option ρ
  | 0, _, _, _, _, _, _, _, _, _ => none
  | M + 1, v4_2, v5, v1_0, v1_1, v1_2, v2_0, v2_1, v4_0, v4_1 => Z11 N v4_2 v5 v1_0 v1_1 v1_2 v2_0 v2_1 v4_0 v4_1 (fun v4_2 v5 v1_0 v1_1 v1_2 v2_0 v2_1 v4_0 v4_1 => Z10L N k0 M v4_2 v5 v1_0 v1_1 v1_2 v2_0 v2_1 v4_0 v4_1) k0
def Z10 N v4_2 v5 v1_0 v1_1 v1_2 v2_0 v2_1 v4_0 v4_1 k0 := (Z10L N k0 N v4_2 v5 v1_0 v1_1 v1_2 v2_0 v2_1 v4_0 v4_1 : Option ρ)
def Z9 N v4_2 v5 v1_0 v1_1 v1_2 v2_0 v2_1 v4_0 v4_1 kn := (Z10 N v4_2 v5 v1_0 v1_1 v1_2 v2_0 v2_1 v4_0 v4_1 kn : Option ρ)
def Z7 N v4_2 v1_0 v1_1 v1_2 v2_0 v2_1 v4_0 v4_1 kn := (Z8 N v4_2 v1_0 v1_1 v1_2 v2_0 v2_1 v4_0 v4_1 (fun v4_2 v5 v1_0 v1_1 v1_2 v2_0 v2_1 v4_0 v4_1 => Z9 N v4_2 v5 v1_0 v1_1 v1_2 v2_0 v2_1 v4_0 v4_1 kn) : Option ρ)
def Z21 {ρ : Type} (N : Nat) (v4_2 : LI) (v2_0 v2_1 v4_0 v4_1 : Int) (kr : LI → Bool → I2 (Option ρ)) : Option ρ :=
 kr v4_2 true v4_0 v4_1
def Z6 N v4_2 v1_0 v1_1 v1_2 v2_0 v2_1 v4_0 v4_1 kr := (Z7 N v4_2 v1_0 v1_1 v1_2 v2_0 v2_1 v4_0 v4_1 (fun v4_2 v2_0 v2_1 v4_0 v4_1 => Z21 N v4_2 v2_0 v2_1 v4_0 v4_1 kr) : Option ρ)
def Z4 N v1_0 v1_1 v1_2 v2_0 v2_1 kr := (Z5 N v1_0 v1_1 v1_2 v2_0 v2_1 (fun v4_2 v1_0 v1_1 v1_2 v2_0 v2_1 v4_0 v4_1 => Z6 N v4_2 v1_0 v1_1 v1_2 v2_0 v2_1 v4_0 v4_1 kr) : Option ρ)
def Z2 N v1_0 v1_1 v1_2 v2_0 v2_1 kr := (Z3 N v1_0 v1_1 v1_2 v2_0 v2_1 (fun v1_0 v1_1 v1_2 v2_0 v2_1 => Z4 N v1_0 v1_1 v1_2 v2_0 v2_1 kr) kr : Option ρ)
def Z0 N v0 kr := (Z1 N v0 (fun v1_0 v1_1 v1_2 v2_0 v2_1 => Z2 N v1_0 v1_1 v1_2 v2_0 v2_1 kr) : Option ρ)
def Spec : Prop := ∀  (v0 : MT), Ty.bd (.pair (.int .i64) (.pair (.int .i64) (.sl 0 (.int .i64)))) v0 → ∃ N0, ∀ N, N0 ≤ N → Z0 N v0 (fun v2_2 v3 v2_0 v2_1 => some ((), ((v2_0, (v2_1, v2_2)), (v3, ())))) = some ((), ((g v0).1, ((g v0).2, ())))
theorem inner {ρ : Type} {N : Nat} {m : Int × Int × List Int} (hd : dimK m = true) (k2 : List Int → Int → Int → Int → List Int → Int → Int → Int → Int → Option ρ) (t0 t1 o0 o1 : Int) (base : List Int) (hb : base.length ≤ 65) {i : Nat} (hi : i < m.1.toNat) : ∀ (M j : Nat), j ≤ m.1.toNat → m.1.toNat - j < M →
    Z18L N k2 M (base ++ (rowU m.1.toNat i).take j) (i : Int) (j : Int) m.1 m.2.1 m.2.2 t0 t1 o0 o1 = k2 (base ++ rowU m.1.toNat i) (i : Int) m.1 m.2.1 m.2.2 t0 t1 o0 o1 := by
  obtain ⟨n, r, hn, hr, hn1, hn5, hnr, hr8, hl⟩ := dim_nat hd
  intro M
  induction M with
  | zero => intro j _ h; omega
  | succ M ih =>
    intro j hj hM
    simp only [Z18L, Z19]
    by_cases h : j < m.1.toNat
    · have hlen : ∀ x : Int, Nat.blt ((base ++ (rowU m.1.toNat i).take j).length + ([x]).length) 1099511627776 = true := fun x => by
        rw [Nat.blt_eq, List.length_append, List.length_take, rowU_len, List.length_singleton]; omega
      have ht := take_getD (l := rowU m.1.toNat i) (j := j) (0 : Int) (by rw [rowU_len]; exact h)
      rw [rowU_getD h] at ht
      have := ih (j + 1) h (by omega)
      rw [← ht, ← List.append_assoc] at this
      rw [ct (dt (by omega))]
      by_cases e : i = j
      · rw [if_pos e] at this
        rw [ct (dt (by omega)), ct (hlen _), w64_succ (by rw [maxLen_val]; omega)]
        exact this
      · rw [if_neg e] at this
        rw [cf (df (by omega)), ct (hlen _), w64_succ (by rw [maxLen_val]; omega)]
        exact this
    · rw [cf (df (by omega)), List.take_of_length_le (by rw [rowU_len]; omega)]
theorem loop {ρ : Type} {N : Nat} (hN : 10 ≤ N) {m : Int × Int × List Int} (hd : dimK m = true) (k0 : List Int → Int → Int → Int → Int → Option ρ) (t0 t1 o0 o1 : Int) : ∀ (M i : Nat), i ≤ m.1.toNat → m.1.toNat - i < M →
    Z10L N k0 M (m.2.2 ++ rowsU m.1.toNat i) (i : Int) m.1 m.2.1 m.2.2 t0 t1 o0 o1 = k0 (m.2.2 ++ rowsU m.1.toNat m.1.toNat) t0 t1 o0 o1 := by
  obtain ⟨n, r, hn, hr, hn1, hn5, hnr, hr8, hl⟩ := dim_nat hd
  intro M
  induction M with
  | zero => intro i _ h; omega
  | succ M ih =>
    intro i hi hM
    simp only [Z10L, Z11, Z12]
    by_cases h : i < m.1.toNat
    · rw [ct (dt (by omega))]
      simp only [Z13, Z14, Z15, Z16, Z17, Z18]
      have hin := inner (ρ := ρ) (N := N) hd (fun out4_2 i5 m1_0 m1_1 m1_2 t2_0 t2_1 out4_0 out4_1 => Z20 N out4_2 i5 m1_0 m1_1 m1_2 t2_0 t2_1 out4_0 out4_1 (fun out4_2 i5 m1_0 m1_1 m1_2 t2_0 t2_1 out4_0 out4_1 => Z10L N k0 M out4_2 i5 m1_0 m1_1 m1_2 t2_0 t2_1 out4_0 out4_1)) t0 t1 o0 o1 (m.2.2 ++ rowsU m.1.toNat i) (princ_len hd i (by omega)) h N 0 (by omega) (by omega)
      rw [List.take_zero, List.append_nil, show ((0 : Nat) : Int) = 0 from rfl] at hin
      rw [hin]
      simp only [Z20]
      rw [w64_succ (by rw [maxLen_val]; omega), List.append_assoc]
      exact ih (i + 1) h (by omega)
    · rw [cf (df (by omega)), show i = m.1.toNat by omega]
theorem ok : Spec := fun m hb => ⟨10, fun N hN => by
  have e0 : impl_MatrixOk.g (m.1, (m.2.1, m.2.2)) = (shapedK m && !decide (facK m = [])) := rfl
  simp only [Z0, Z1, Z2, Z3, e0, g, lk_eq]
  cases h1 : (shapedK m && !decide (facK m = []))
  · rfl
  have hs : shapedK m = true := by
    simp only [Bool.and_eq_true] at h1
    exact h1.1
  have hd := shaped_dim hs
  obtain ⟨n, r, hn, hr, hn1, hn5, hnr, hr8, hl⟩ := dim_nat hd
  have hlen := dim_len hd
  rw [w64_id (by omega) (by omega)]
  by_cases h2 : m.2.1 = m.1
  · rw [dt h2]
    by_cases h3 : 2 * m.1 ≤ 8
    · rw [dt h3, df (show ¬ 8 < 2 * m.1 by omega)]
      simp only [Z4, Z5]
      rw [ct (show slices_Clone_int_int.P m.2.2 = true from dt (by omega)), ct (show slices_Clone_int_int.P m.2.2 = true from dt (by omega)), both_self, both_self]
      simp only [Z6, Z7, Z8, Z9, Z10]
      have := loop (ρ := Unit × (Int × Int × List Int) × Bool × Unit) hN hd (fun out4_2 t2_0 t2_1 out4_0 out4_1 => Z21 N out4_2 t2_0 t2_1 out4_0 out4_1 (fun t2_2 t3 t2_0 t2_1 => some ((), ((t2_0, (t2_1, t2_2)), (t3, ()))))) 0 0 m.1 (w64 (2 * m.1)) N 0 (by omega) (by omega)
      rw [rowsU, List.append_nil] at this
      refine this.trans ?_
      simp only [Z21]
      rw [w64_id (by omega) (by omega)]
      rfl
    · rw [df h3, dt (show 8 < 2 * m.1 by omega)]; rfl
  · rw [df h2]; rfl⟩
end impl_PrincipalMatrix
end
end Go.Fw
namespace Go.Fw
noncomputable section
variable {ρ : Type}
namespace impl_colour
def P (m : Int × Int × List Int) (k : Int) : Bool := dimK m && (decide (0 ≤ k) && decide (k < m.1))
def g (m : Int × Int × List Int) (k : Int) : Int := signL (colK m k.toNat)
end impl_colour
namespace impl_colour
def Z1 {ρ : Type} (N : Nat) (v0 : MT) (v1 : Int) (kn : I3 (LI → Option ρ)) : Option ρ :=
 kn v1 v0.1 v0.2.1 v0.2.2
def Z3 {ρ : Type} (N : Nat) (v1 v2_0 v2_1 : Int) (v2_2 : LI) (kn : Int → Bool → Bool → I2 (LI → Option ρ)) : Option ρ :=
 kn v1 false false v2_0 v2_1 v2_2
def Z6 {ρ : Type} (N : Nat) (v1 : Int) (v5 v6 : Bool) (v2_0 v2_1 : Int) (v2_2 : LI) (kn : Int → Bool → Bool → I3 (LI → Option ρ)) : Option ρ :=
 kn v1 v5 v6 v2_0 v2_0 v2_1 v2_2
def Z9 {ρ : Type} (N : Nat) (v1 : Int) (v5 v6 : Bool) (v7 v2_0 v2_1 : Int) (v2_2 : LI) (kn : Int → Bool → Bool → I3 (LI → Option ρ)) (k0 : Bool → Bool → Option ρ) : Option ρ :=
 cond (lk N (decide (v7 < v2_1)))
 (
  cond (v5)
  (
   cond (v6)
   (
    kn v1 true true (w64 (v7 + 1)) v2_0 v2_1 v2_2)
   (
    cond (lk N (impl_Matrix_at.P (v2_0, (v2_1, v2_2)) v7 v1)) (
     kn v1 true (lk N (decide ((impl_Matrix_at.g (v2_0, (v2_1, v2_2)) v7 v1) < 0))) (w64 (v7 + 1)) v2_0 v2_1 v2_2) none))
  (
   cond (lk N (impl_Matrix_at.P (v2_0, (v2_1, v2_2)) v7 v1)) (
    cond (v6)
    (
     kn v1 (lk N (decide (0 < (impl_Matrix_at.g (v2_0, (v2_1, v2_2)) v7 v1)))) true (w64 (v7 + 1)) v2_0 v2_1 v2_2)
    (
     cond (lk N (impl_Matrix_at.P (v2_0, (v2_1, v2_2)) v7 v1)) (
      kn v1 (lk N (decide (0 < (impl_Matrix_at.g (v2_0, (v2_1, v2_2)) v7 v1)))) (lk N (decide ((impl_Matrix_at.g (v2_0, (v2_1, v2_2)) v7 v1) < 0))) (w64 (v7 + 1)) v2_0 v2_1 v2_2) none)) none))
 (
  k0 v5 v6)
def Z8L {ρ : Type} (N : Nat) (k0 : Bool → Bool → Option ρ) : Nat → Int → Bool → Bool → Int → Int → Int → LI → Option ρ
  | 0, _, _, _, _, _, _, _ => none
  | M + 1, v1, v5, v6, v7, v2_0, v2_1, v2_2 => Z9 N v1 v5 v6 v7 v2_0 v2_1 v2_2 (fun v1 v5 v6 v7 v2_0 v2_1 v2_2 => Z8L N k0 M v1 v5 v6 v7 v2_0 v2_1 v2_2) k0
def Z8 N v1 v5 v6 v7 v2_0 v2_1 v2_2 k0 := (Z8L N k0 N v1 v5 v6 v7 v2_0 v2_1 v2_2 : Option ρ)
def Z7 N v1 v5 v6 v7 v2_0 v2_1 v2_2 kn := (Z8 N v1 v5 v6 v7 v2_0 v2_1 v2_2 kn : Option ρ)
def Z5 N v1 v5 v6 v2_0 v2_1 v2_2 kn := (Z6 N v1 v5 v6 v2_0 v2_1 v2_2 (fun v1 v5 v6 v7 v2_0 v2_1 v2_2 => Z7 N v1 v5 v6 v7 v2_0 v2_1 v2_2 kn) : Option ρ)
def Z10 {ρ : Type} (N : Nat) (v5 v6 : Bool) (kr : Int → Option ρ) : Option ρ :=
 cond (v5)
 (
  cond (!(v6))
  (
   kr 1)
  (
   cond (v6)
   (
    cond (!(v5))
    (
     kr (-1))
    (
     kr 0))
   (
    kr 0)))
 (
  cond (v6)
  (
   cond (!(v5))
   (
    kr (-1))
   (
    kr 0))
  (
   kr 0))
def Z4 N v1 v5 v6 v2_0 v2_1 v2_2 kr := (Z5 N v1 v5 v6 v2_0 v2_1 v2_2 (fun v5 v6 => Z10 N v5 v6 kr) : Option ρ)
def Z2 N v1 v2_0 v2_1 v2_2 kr := (Z3 N v1 v2_0 v2_1 v2_2 (fun v1 v5 v6 v2_0 v2_1 v2_2 => Z4 N v1 v5 v6 v2_0 v2_1 v2_2 kr) : Option ρ)
def Z0 N v0 v1 kr := (Z1 N v0 v1 (fun v1 v2_0 v2_1 v2_2 => Z2 N v1 v2_0 v2_1 v2_2 kr) : Option ρ)
def Spec : Prop := ∀  (v0 : MT) (v1 : Int), Ty.bd (.pair (.int .i64) (.pair (.int .i64) (.sl 0 (.int .i64)))) v0 → P v0 v1 = true → ∃ N0, ∀ N, N0 ≤ N → Z0 N v0 v1 (fun v4 => some ((), (v4, ()))) = some ((), ((g v0 v1), ()))
theorem loop {ρ : Type} (N : Nat) (k0 : Bool → Bool → Option ρ) {m : Int × Int × List Int} (hd : dimK m = true) {k : Nat} (hk : k < m.1.toNat) : ∀ (M t : Nat) (u d : Bool), t ≤ m.2.1.toNat - m.1.toNat → m.2.1.toNat - m.1.toNat - t < M →
    Z8L N k0 M (k : Int) u d ((m.1.toNat + t : Nat) : Int) m.1 m.2.1 m.2.2 = k0 (u || (((colK m k).drop t).any fun x => decide (0 < x))) (d || (((colK m k).drop t).any fun x => decide (x < 0))) := by
  obtain ⟨n, r, hn, hr, hn1, hn5, hnr, hr8, hl⟩ := dim_nat hd
  have hcl : (colK m k).length = m.2.1.toNat - m.1.toNat := by simp [colK]
  intro M
  induction M with
  | zero => intro t _ _ _ h; omega
  | succ M ih =>
    intro t u d ht hM
    simp only [Z8L, Z9]
    by_cases h : t < m.2.1.toNat - m.1.toNat
    · have hP : impl_Matrix_at.P (m.1, (m.2.1, m.2.2)) ((m.1.toNat + t : Nat) : Int) (k : Int) = true := at_ok hd (by omega) hk
      have hA : impl_Matrix_at.g (m.1, (m.2.1, m.2.2)) ((m.1.toNat + t : Nat) : Int) (k : Int) = ent m (m.1.toNat + t) k := atK_nat (by omega) _ _
      have hg : (colK m k).getD t 0 = ent m (m.1.toNat + t) k := map_getD h 0
      rw [ct (dt (by omega)), drop_getD 0 (by omega), List.any_cons, List.any_cons, hg]
      simp only [lk_eq, hP, hA, cond_true]
      rw [w64_succ (by rw [maxLen_val]; omega)]
      have ih' := fun u d => ih (t + 1) u d h (by omega)
      simp only [← Nat.add_assoc] at ih'
      simp only [ih']
      cases u <;> cases d <;> simp
    · rw [cf (df (by omega)), List.drop_of_length_le (by omega)]
      simp
theorem ok : Spec := fun m k hb hp => ⟨10, fun N hN => by
  simp only [P, Bool.and_eq_true, decide_eq_true_eq] at hp
  obtain ⟨hd, h0, h1⟩ := hp
  obtain ⟨x, rfl⟩ := Int.eq_ofNat_of_zero_le h0
  obtain ⟨n, r, hn, hr, hn1, hn5, hnr, hr8, hl⟩ := dim_nat hd
  simp only [Z0, Z1, Z2, Z3, Z4, Z5, Z6, Z7, Z8]
  have := loop (ρ := Unit × Int × Unit) N (fun some5 none6 => Z10 N some5 none6 (fun t4 => some ((), (t4, ())))) hd (k := x) (by omega) N 0 false false (by omega) (by omega)
  rw [Nat.add_zero, show ((m.1.toNat : Nat) : Int) = m.1 by omega, List.drop_zero] at this
  refine this.trans ?_
  simp only [Bool.false_or, Z10, g, Int.toNat_natCast]
  cases hu : ((colK m x).any fun x => decide (0 < x)) <;> cases hd' : ((colK m x).any fun x => decide (x < 0)) <;> rw [signL_eq hu hd'] <;> rfl⟩
end impl_colour
end
end Go.Fw
namespace Go.Fw
noncomputable section
variable {ρ : Type}
namespace impl_mutated
def P (m : Int × Int × List Int) (k : Int) : Bool := shapedK m && (decide (0 ≤ k) && decide (k < m.1))
def g (m : Int × Int × List Int) (k : Int) : Int × Int × List Int := mutK m k.toNat
end impl_mutated
namespace impl_mutated
def Z1 {ρ : Type} (N : Nat) (v0 : MT) (v1 : Int) (kn : I3 (LI → I2 (Option ρ))) : Option ρ :=
 kn v1 v0.1 v0.2.1 v0.2.2 0 0
def Z3 {ρ : Type} (N : Nat) (v1 v2_0 v2_1 : Int) (v2_2 : LI) (v4_0 v4_1 : Int) (kn : LI → I3 (LI → I4 (Option ρ))) : Option ρ :=
 both (
  cond (lk N (slices_Clone_int_int.P v2_2)) (
   both (
    kn (slices_Clone_int_int.g v2_2) v1 v2_0 v2_1 v2_2 v4_0 v4_1 v2_0 v2_1)
   (
    kn (slices_Clone_int_int.g v2_2) v1 v2_0 v2_1 v2_2 v4_0 v4_1 v2_0 v2_1)) none)
 (
  cond (lk N (slices_Clone_int_int.P v2_2)) (
   kn (slices_Clone_int_int.g v2_2) v1 v2_0 v2_1 v2_2 v4_0 v4_1 v2_0 v2_1) none)
def Z6 {ρ : Type} (N : Nat) (v5_2 : LI) (v1 v2_0 v2_1 : Int) (v2_2 : LI) (v4_0 v4_1 v5_0 v5_1 : Int) (kn : LI → I4 (LI → I4 (Option ρ))) : Option ρ :=
 kn v5_2 v1 0 v2_0 v2_1 v2_2 v4_0 v4_1 v5_0 v5_1
def Z10 {ρ : Type} (N : Nat) (v5_2 : LI) (v1 v6 v2_0 v2_1 : Int) (v2_2 : LI) (v4_0 v4_1 v5_0 v5_1 : Int) (kn : LI → I4 (LI → I4 (Option ρ))) (k0 : LI → I4 (Option ρ)) : Option ρ :=
 cond (lk N (decide (v6 < v2_1)))
 (
  kn v5_2 v1 v6 v2_0 v2_1 v2_2 v4_0 v4_1 v5_0 v5_1)
 (
  k0 v5_2 v4_0 v4_1 v5_0 v5_1)
def Z14 {ρ : Type} (N : Nat) (v5_2 : LI) (v1 v6 v2_0 v2_1 : Int) (v2_2 : LI) (v4_0 v4_1 v5_0 v5_1 : Int) (kn : LI → I5 (LI → I4 (Option ρ))) : Option ρ :=
 kn v5_2 v1 v6 0 v2_0 v2_1 v2_2 v4_0 v4_1 v5_0 v5_1
def Z18 {ρ : Type} (N : Nat) (v5_2 : LI) (v1 v6 v7 v2_0 v2_1 : Int) (v2_2 : LI) (v4_0 v4_1 v5_0 v5_1 : Int) (kn : LI → I5 (LI → I4 (Option ρ))) (k2 : LI → I4 (LI → I4 (Option ρ))) : Option ρ :=
 cond (lk N (decide (v7 < v2_0)))
 (
  kn v5_2 v1 v6 v7 v2_0 v2_1 v2_2 v4_0 v4_1 v5_0 v5_1)
 (
  k2 v5_2 v1 v6 v2_0 v2_1 v2_2 v4_0 v4_1 v5_0 v5_1)
def Z22 {ρ : Type} (N : Nat) (v5_2 : LI) (v1 v6 v7 v2_0 v2_1 : Int) (v2_2 : LI) (v4_0 v4_1 v5_0 v5_1 : Int) (kn : LI → I6 (LI → I4 (Option ρ))) : Option ρ :=
 cond (lk N (inB (w64 ((w64 (v6 * v2_0)) + v7)) v5_2.length)) (
  kn v5_2 v1 v6 v7 (w64 ((w64 (v6 * v2_0)) + v7)) v2_0 v2_1 v2_2 v4_0 v4_1 v5_0 v5_1) none
def Z24 {ρ : Type} (N : Nat) (v5_2 : LI) (v1 v6 v7 v8 v2_0 v2_1 : Int) (v2_2 : LI) (v4_0 v4_1 v5_0 v5_1 : Int) (kn : LI → I8 (LI → I4 (Option ρ))) : Option ρ :=
 cond (lk N (impl_Matrix_at.P (v2_0, (v2_1, v2_2)) v6 v1)) (
  cond (lk N (impl_Matrix_at.P (v2_0, (v2_1, v2_2)) v1 v7)) (
   kn v5_2 v1 v6 v7 v8 (impl_Matrix_at.g (v2_0, (v2_1, v2_2)) v6 v1) (impl_Matrix_at.g (v2_0, (v2_1, v2_2)) v1 v7) v2_0 v2_1 v2_2 v4_0 v4_1 v5_0 v5_1) none) none
def Z27 {ρ : Type} (N : Nat) (v5_2 : LI) (v1 v6 v7 v8 v9 v10 v2_0 v2_1 : Int) (v2_2 : LI) (v4_0 v4_1 v5_0 v5_1 : Int) (kn : LI → I6 (Bool → I2 (LI → I4 (Option ρ)))) : Option ρ :=
 cond (lk N (decide (v6 = v1)))
 (
  kn v5_2 v1 v6 v7 v8 v9 v10 true v2_0 v2_1 v2_2 v4_0 v4_1 v5_0 v5_1)
 (
  kn v5_2 v1 v6 v7 v8 v9 v10 (lk N (decide (v7 = v1))) v2_0 v2_1 v2_2 v4_0 v4_1 v5_0 v5_1)
def Z28 {ρ : Type} (N : Nat) (v5_2 : LI) (v1 v6 v7 v8 v9 v10 : Int) (v48 : Bool) (v2_0 v2_1 : Int) (v2_2 : LI) (v4_0 v4_1 v5_0 v5_1 : Int) (kn : LI → I5 (LI → I4 (Option ρ))) : Option ρ :=
 cond (v48)
 (
  kn (v5_2.set v8.toNat (w64 (0 - (v5_2.getD v8.toNat 0)))) v1 v6 v7 v2_0 v2_1 v2_2 v4_0 v4_1 v5_0 v5_1)
 (
  cond (lk N (decide (0 < v9)))
  (
   cond (lk N (decide (0 < v10)))
   (
    kn (v5_2.set v8.toNat (w64 ((v5_2.getD v8.toNat 0) + (w64 (v9 * v10))))) v1 v6 v7 v2_0 v2_1 v2_2 v4_0 v4_1 v5_0 v5_1)
   (
    cond (lk N (decide (v9 < 0)))
    (
     cond (lk N (decide (v10 < 0)))
     (
      kn (v5_2.set v8.toNat (w64 ((v5_2.getD v8.toNat 0) - (w64 (v9 * v10))))) v1 v6 v7 v2_0 v2_1 v2_2 v4_0 v4_1 v5_0 v5_1)
     (
      kn v5_2 v1 v6 v7 v2_0 v2_1 v2_2 v4_0 v4_1 v5_0 v5_1))
    (
     kn v5_2 v1 v6 v7 v2_0 v2_1 v2_2 v4_0 v4_1 v5_0 v5_1)))
  (
   cond (lk N (decide (v9 < 0)))
   (
    cond (lk N (decide (v10 < 0)))
    (
     kn (v5_2.set v8.toNat (w64 ((v5_2.getD v8.toNat 0) - (w64 (v9 * v10))))) v1 v6 v7 v2_0 v2_1 v2_2 v4_0 v4_1 v5_0 v5_1)
    (
     kn v5_2 v1 v6 v7 v2_0 v2_1 v2_2 v4_0 v4_1 v5_0 v5_1))
   (
    kn v5_2 v1 v6 v7 v2_0 v2_1 v2_2 v4_0 v4_1 v5_0 v5_1)))
def Z26 N v5_2 v1 v6 v7 v8 v9 v10 v2_0 v2_1 v2_2 v4_0 v4_1 v5_0 v5_1 kn := (Z27 N v5_2 v1 v6 v7 v8 v9 v10 v2_0 v2_1 v2_2 v4_0 v4_1 v5_0 v5_1 (fun v5_2 v1 v6 v7 v8 v9 v10 v48 v2_0 v2_1 v2_2 v4_0 v4_1 v5_0 v5_1 => Z28 N v5_2 v1 v6 v7 v8 v9 v10 v48 v2_0 v2_1 v2_2 v4_0 v4_1 v5_0 v5_1 kn) : Option ρ)
def Z25 N v5_2 v1 v6 v7 v8 v9 v10 v2_0 v2_1 v2_2 v4_0 v4_1 v5_0 v5_1 kn := (Z26 N v5_2 v1 v6 v7 v8 v9 v10 v2_0 v2_1 v2_2 v4_0 v4_1 v5_0 v5_1 kn : Option ρ)
def Z23 N v5_2 v1 v6 v7 v8 v2_0 v2_1 v2_2 v4_0 v4_1 v5_0 v5_1 kn := (Z24 N v5_2 v1 v6 v7 v8 v2_0 v2_1 v2_2 v4_0 v4_1 v5_0 v5_1 (fun v5_2 v1 v6 v7 v8 v9 v10 v2_0 v2_1 v2_2 v4_0 v4_1 v5_0 v5_1 => Z25 N v5_2 v1 v6 v7 v8 v9 v10 v2_0 v2_1 v2_2 v4_0 v4_1 v5_0 v5_1 kn) : Option ρ)
def Z21 N v5_2 v1 v6 v7 v2_0 v2_1 v2_2 v4_0 v4_1 v5_0 v5_1 kn := (Z22 N v5_2 v1 v6 v7 v2_0 v2_1 v2_2 v4_0 v4_1 v5_0 v5_1 (fun v5_2 v1 v6 v7 v8 v2_0 v2_1 v2_2 v4_0 v4_1 v5_0 v5_1 => Z23 N v5_2 v1 v6 v7 v8 v2_0 v2_1 v2_2 v4_0 v4_1 v5_0 v5_1 kn) : Option ρ)
def Z20 N v5_2 v1 v6 v7 v2_0 v2_1 v2_2 v4_0 v4_1 v5_0 v5_1 kn := (Z21 N v5_2 v1 v6 v7 v2_0 v2_1 v2_2 v4_0 v4_1 v5_0 v5_1 kn : Option ρ)
def Z29 {ρ : Type} (N : Nat) (v5_2 : LI) (v1 v6 v7 v2_0 v2_1 : Int) (v2_2 : LI) (v4_0 v4_1 v5_0 v5_1 : Int) (kn : LI → I5 (LI → I4 (Option ρ))) : Option ρ :=
 kn v5_2 v1 v6 (w64 (v7 + 1)) v2_0 v2_1 v2_2 v4_0 v4_1 v5_0 v5_1
def Z19 N v5_2 v1 v6 v7 v2_0 v2_1 v2_2 v4_0 v4_1 v5_0 v5_1 kn := (Z20 N v5_2 v1 v6 v7 v2_0 v2_1 v2_2 v4_0 v4_1 v5_0 v5_1 (fun v5_2 v1 v6 v7 v2_0 v2_1 v2_2 v4_0 v4_1 v5_0 v5_1 => Z29 N v5_2 v1 v6 v7 v2_0 v2_1 v2_2 v4_0 v4_1 v5_0 v5_1 kn) : Option ρ)
def Z17 N v5_2 v1 v6 v7 v2_0 v2_1 v2_2 v4_0 v4_1 v5_0 v5_1 kn k2 := (Z18 N v5_2 v1 v6 v7 v2_0 v2_1 v2_2 v4_0 v4_1 v5_0 v5_1 (fun v5_2 v1 v6 v7 v2_0 v2_1 v2_2 v4_0 v4_1 v5_0 v5_1 => Z19 N v5_2 v1 v6 v7 v2_0 v2_1 v2_2 v4_0 v4_1 v5_0 v5_1 kn) k2 : Option ρ)
def Z16L {ρ : Type} (N : Nat) (k2 : LI → I4 (LI → I4 (Option ρ))) : Nat → LI → Int → Int → Int → Int → Int → LI → Int → Int → Int → Int → Option ρ
  | 0, _, _, _, _, _, _, _, _, _, _, _ => none
  | M + 1, v5_2, v1, v6, v7, v2_0, v2_1, v2_2, v4_0, v4_1, v5_0, v5_1 => Z17 N v5_2 v1 v6 v7 v2_0 v2_1 v2_2 v4_0 v4_1 v5_0 v5_1 (fun v5_2 v1 v6 v7 v2_0 v2_1 v2_2 v4_0 v4_1 v5_0 v5_1 => Z16L N k2 M v5_2 v1 v6 v7 v2_0 v2_1 v2_2 v4_0 v4_1 v5_0 v5_1) k2
def Z16 N v5_2 v1 v6 v7 v2_0 v2_1 v2_2 v4_0 v4_1 v5_0 v5_1 k2 := (Z16L N k2 N v5_2 v1 v6 v7 v2_0 v2_1 v2_2 v4_0 v4_1 v5_0 v5_1 : Option ρ)
def Z15 N v5_2 v1 v6 v7 v2_0 v2_1 v2_2 v4_0 v4_1 v5_0 v5_1 kn := (Z16 N v5_2 v1 v6 v7 v2_0 v2_1 v2_2 v4_0 v4_1 v5_0 v5_1 kn : Option ρ)
def Z13 N v5_2 v1 v6 v2_0 v2_1 v2_2 v4_0 v4_1 v5_0 v5_1 kn := (Z14 N v5_2 v1 v6 v2_0 v2_1 v2_2 v4_0 v4_1 v5_0 v5_1 (fun v5_2 v1 v6 v7 v2_0 v2_1 v2_2 v4_0 v4_1 v5_0 v5_1 => Z15 N v5_2 v1 v6 v7 v2_0 v2_1 v2_2 v4_0 v4_1 v5_0 v5_1 kn) : Option ρ)
def Z12 N v5_2 v1 v6 v2_0 v2_1 v2_2 v4_0 v4_1 v5_0 v5_1 kn := (Z13 N v5_2 v1 v6 v2_0 v2_1 v2_2 v4_0 v4_1 v5_0 v5_1 kn : Option ρ)
def Z30 {ρ : Type} (N : Nat) (v5_2 : LI) (v1 v6 v2_0 v2_1 : Int) (v2_2 : LI) (v4_0 v4_1 v5_0 v5_1 : Int) (kn : LI → I4 (LI → I4 (Option ρ))) : Option ρ :=
 kn v5_2 v1 (w64 (v6 + 1)) v2_0 v2_1 v2_2 v4_0 v4_1 v5_0 v5_1
def Z11 N v5_2 v1 v6 v2_0 v2_1 v2_2 v4_0 v4_1 v5_0 v5_1 kn := (Z12 N v5_2 v1 v6 v2_0 v2_1 v2_2 v4_0 v4_1 v5_0 v5_1 (fun v5_2 v1 v6 v2_0 v2_1 v2_2 v4_0 v4_1 v5_0 v5_1 => Z30 N v5_2 v1 v6 v2_0 v2_1 v2_2 v4_0 v4_1 v5_0 v5_1 kn) : Option ρ)
def Z9 N v5_2 v1 v6 v2_0 v2_1 v2_2 v4_0 v4_1 v5_0 v5_1 kn k0 := (Z10 N v5_2 v1 v6 v2_0 v2_1 v2_2 v4_0 v4_1 v5_0 v5_1 (fun v5_2 v1 v6 v2_0 v2_1 v2_2 v4_0 v4_1 v5_0 v5_1 => Z11 N v5_2 v1 v6 v2_0 v2_1 v2_2 v4_0 v4_1 v5_0 v5_1 kn) k0 : Option ρ)
def Z8L {ρ : Type} (N : Nat) (k0 : LI → I4 (Option ρ)) : Nat → LI → Int → Int → Int → Int → LI → Int → Int → Int → Int → Option ρ
  | 0, _, _, _, _, _, _, _, _, _, _ => none
  | M + 1, v5_2, v1, v6, v2_0, v2_1, v2_2, v4_0, v4_1, v5_0, v5_1 => Z9 N v5_2 v1 v6 v2_0 v2_1 v2_2 v4_0 v4_1 v5_0 v5_1 (fun v5_2 v1 v6 v2_0 v2_1 v2_2 v4_0 v4_1 v5_0 v5_1 => Z8L N k0 M v5_2 v1 v6 v2_0 v2_1 v2_2 v4_0 v4_1 v5_0 v5_1) k0
def Z8 N v5_2 v1 v6 v2_0 v2_1 v2_2 v4_0 v4_1 v5_0 v5_1 k0 := (Z8L N k0 N v5_2 v1 v6 v2_0 v2_1 v2_2 v4_0 v4_1 v5_0 v5_1 : Option ρ)
def Z7 N v5_2 v1 v6 v2_0 v2_1 v2_2 v4_0 v4_1 v5_0 v5_1 kn := (Z8 N v5_2 v1 v6 v2_0 v2_1 v2_2 v4_0 v4_1 v5_0 v5_1 kn : Option ρ)
def Z5 N v5_2 v1 v2_0 v2_1 v2_2 v4_0 v4_1 v5_0 v5_1 kn := (Z6 N v5_2 v1 v2_0 v2_1 v2_2 v4_0 v4_1 v5_0 v5_1 (fun v5_2 v1 v6 v2_0 v2_1 v2_2 v4_0 v4_1 v5_0 v5_1 => Z7 N v5_2 v1 v6 v2_0 v2_1 v2_2 v4_0 v4_1 v5_0 v5_1 kn) : Option ρ)
def Z31 {ρ : Type} (N : Nat) (v5_2 : LI) (v4_0 v4_1 v5_0 v5_1 : Int) (kr : LI → I2 (Option ρ)) : Option ρ :=
 kr v5_2 v5_0 v5_1
def Z4 N v5_2 v1 v2_0 v2_1 v2_2 v4_0 v4_1 v5_0 v5_1 kr := (Z5 N v5_2 v1 v2_0 v2_1 v2_2 v4_0 v4_1 v5_0 v5_1 (fun v5_2 v4_0 v4_1 v5_0 v5_1 => Z31 N v5_2 v4_0 v4_1 v5_0 v5_1 kr) : Option ρ)
def Z2 N v1 v2_0 v2_1 v2_2 v4_0 v4_1 kr := (Z3 N v1 v2_0 v2_1 v2_2 v4_0 v4_1 (fun v5_2 v1 v2_0 v2_1 v2_2 v4_0 v4_1 v5_0 v5_1 => Z4 N v5_2 v1 v2_0 v2_1 v2_2 v4_0 v4_1 v5_0 v5_1 kr) : Option ρ)
def Z0 N v0 v1 kr := (Z1 N v0 v1 (fun v1 v2_0 v2_1 v2_2 v4_0 v4_1 => Z2 N v1 v2_0 v2_1 v2_2 v4_0 v4_1 kr) : Option ρ)
def Spec : Prop := ∀  (v0 : MT) (v1 : Int), Ty.bd (.pair (.int .i64) (.pair (.int .i64) (.sl 0 (.int .i64)))) v0 → P v0 v1 = true → ∃ N0, ∀ N, N0 ≤ N → Z0 N v0 v1 (fun v4_2 v4_0 v4_1 => some ((), ((v4_0, (v4_1, v4_2)), ()))) = some ((), ((g v0 v1), ()))
section
variable {ρ : Type} {N : Nat} {m : Int × Int × List Int} {k : Nat}
theorem at_g (hd : 0 ≤ m.1) (a b : Nat) : impl_Matrix_at.g (m.1, (m.2.1, m.2.2)) (a : Int) (b : Int) = ent m a b := atK_nat hd a b
theorem at_p (hd : dimK m = true) {a b : Nat} (ha : a < m.2.1.toNat) (hb : b < m.1.toNat) : impl_Matrix_at.P (m.1, (m.2.1, m.2.2)) (a : Int) (b : Int) = true := at_ok hd ha hb
def cur (m : Int × Int × List Int) (k p : Nat) : List Int := upto m.2.2.length p (mutF m k) (fun p => m.2.2.getD p 0)
theorem inner (hs : shapedK m = true) (hk : k < m.1.toNat) (k2 : List Int → Int → Int → Int → Int → List Int → Int → Int → Int → Int → Option ρ) (t0 t1 o0 o1 : Int) {i : Nat} (hi : i < m.2.1.toNat) : ∀ (M j : Nat), j ≤ m.1.toNat → m.1.toNat - j < M →
    Z16L N k2 M (cur m k (i * m.1.toNat + j)) (k : Int) (i : Int) (j : Int) m.1 m.2.1 m.2.2 t0 t1 o0 o1 = k2 (cur m k (i * m.1.toNat + m.1.toNat)) (k : Int) (i : Int) m.1 m.2.1 m.2.2 t0 t1 o0 o1 := by
  have hd := shaped_dim hs
  obtain ⟨n, r, hn, hr, hn1, hn5, hnr, hr8, hl⟩ := dim_nat hd
  intro M
  induction M with
  | zero => intro j _ h; omega
  | succ M ih =>
    intro j hj hM
    simp only [Z16L, Z17, Z18]
    by_cases h : j < m.1.toNat
    · have hlt : i * m.1.toNat + j < m.2.2.length := by
        have := ent_lt (n := n) (r := r) (i := i) (j := j) (by omega) (by omega)
        rw [hl, hn]; exact this
      have hidx : w64 (w64 ((i : Int) * m.1) + (j : Int)) = ((i * m.1.toNat + j : Nat) : Int) := by
        have e : (i : Int) * m.1 = ((i * m.1.toNat : Nat) : Int) := by rw [hn, Int.natCast_mul]; simp
        have hb : i * m.1.toNat ≤ 8 * 5 := Nat.mul_le_mul (by omega) (by omega)
        have e2 : w64 (((i * m.1.toNat : Nat) : Int)) = ((i * m.1.toNat : Nat) : Int) := w64_id (by omega) (by omega)
        rw [e, e2, w64_id (by omega) (by omega)]
        omega
      have b1 := ent_bound hs i j
      have b2 := ent_bound hs i k
      have b3 := ent_bound hs k j
      have hbc := mutE_bound (f := false) b1 b2 b3
      have hF := mutF_at (m := m) (k := k) (i := i) h
      have hcl : (cur m k (i * m.1.toNat + j)).length = m.2.2.length := upto_len
      have hset : ∀ v, v = mutF m k (i * m.1.toNat + j) → (cur m k (i * m.1.toNat + j)).set (i * m.1.toNat + j) v = cur m k (i * m.1.toNat + (j + 1)) := fun v hv => by
        subst hv
        exact upto_set hlt
      have hsame : mutF m k (i * m.1.toNat + j) = ent m i j → cur m k (i * m.1.toNat + j) = cur m k (i * m.1.toNat + (j + 1)) := fun hv => (upto_same hv).symm
      have iB : inB (((i * m.1.toNat + j : Nat) : Int)) (cur m k (i * m.1.toNat + j)).length = true := inB_nat (by rw [hcl]; exact hlt)
      have pij := at_p hd hi h
      rw [ct (dt (by omega))]
      simp only [Z19, Z20, Z21, Z22, Z23, Z24, Z25]
      have fin : ∀ c, c = cur m k (i * m.1.toNat + (j + 1)) → Z29 N c (k : Int) (i : Int) (j : Int) m.1 m.2.1 m.2.2 t0 t1 o0 o1 (fun out5_2 k1 i6 j7 m2_0 m2_1 m2_2 t4_0 t4_1 out5_0 out5_1 => Z16L N k2 M out5_2 k1 i6 j7 m2_0 m2_1 m2_2 t4_0 t4_1 out5_0 out5_1) = k2 (cur m k (i * m.1.toNat + m.1.toNat)) (k : Int) (i : Int) m.1 m.2.1 m.2.2 t0 t1 o0 o1 := by
        intro c hc
        subst hc
        simp only [Z29]
        rw [w64_succ (by rw [maxLen_val]; omega)]
        exact ih (j + 1) h (by omega)
      have hcg : (cur m k (i * m.1.toNat + j)).getD (i * m.1.toNat + j) 0 = ent m i j := by
        refine (upto_get hlt 0).trans ?_
        rw [if_neg (by omega)]
        rfl
      rw [hidx, ct iB, ct (at_p hd hi hk), ct (at_p hd (show k < m.2.1.toNat by omega) h), at_g (by omega), at_g (by omega)]
      simp only [Z26, Z27, Z28, Int.toNat_natCast, hcg]
      by_cases hik : i = k
      · rw [ct (dt (by omega)), ct' rfl, w64_id (by omega) (by omega)]
        refine fin _ (hset _ ?_)
        rw [hF, dt hik, Int.zero_sub]; rfl
      · rw [cf (df (by omega))]
        by_cases hjk : j = k
        · rw [ct' (by rw [lk_eq]; exact dt (by omega)), w64_id (by omega) (by omega)]
          refine fin _ (hset _ ?_)
          rw [hF, df hik, dt hjk, Int.zero_sub]; rfl
        · rw [cf' (by rw [lk_eq]; exact df (by omega))]
          rw [df hik, df hjk] at hF
          simp only [mutE, Bool.or_self, Bool.false_eq_true, if_false] at hF
          have wbc : w64 (ent m i k * ent m k j) = ent m i k * ent m k j := w64_id (by omega) (by omega)
          rw [wbc]
          by_cases a1 : 0 < ent m i k
          · rw [ct (dt a1)]
            by_cases a2 : 0 < ent m k j
            · rw [ct (dt a2), w64_id (by omega) (by omega)]
              refine fin _ (hset _ ?_)
              rw [hF, if_pos ⟨a1, a2⟩]
            · rw [cf (df a2), cf (df (by omega))]
              refine fin _ (hsame ?_)
              rw [hF, if_neg (by omega), if_neg (by omega)]
          · rw [cf (df a1)]
            by_cases a2 : ent m i k < 0
            · rw [ct (dt a2)]
              by_cases a3 : ent m k j < 0
              · rw [ct (dt a3), w64_id (by omega) (by omega)]
                refine fin _ (hset _ ?_)
                rw [hF, if_neg (by omega), if_pos ⟨a2, a3⟩]
              · rw [cf (df a3)]
                refine fin _ (hsame ?_)
                rw [hF, if_neg (by omega), if_neg (by omega)]
            · rw [cf (df a2)]
              refine fin _ (hsame ?_)
              rw [hF, if_neg (by omega), if_neg (by omega)]
    · rw [cf (df (by omega)), show j = m.1.toNat by omega]
theorem outer (hN : 10 ≤ N) (hs : shapedK m = true) (hk : k < m.1.toNat) (k0 : List Int → Int → Int → Int → Int → Option ρ) (t0 t1 o0 o1 : Int) : ∀ (M i : Nat), i ≤ m.2.1.toNat → m.2.1.toNat - i < M →
    Z8L N k0 M (cur m k (i * m.1.toNat)) (k : Int) (i : Int) m.1 m.2.1 m.2.2 t0 t1 o0 o1 = k0 (cur m k (m.2.1.toNat * m.1.toNat)) t0 t1 o0 o1 := by
  have hd := shaped_dim hs
  obtain ⟨n, r, hn, hr, hn1, hn5, hnr, hr8, hl⟩ := dim_nat hd
  intro M
  induction M with
  | zero => intro i _ h; omega
  | succ M ih =>
    intro i hi hM
    simp only [Z8L, Z9, Z10]
    by_cases h : i < m.2.1.toNat
    · rw [ct (dt (by omega))]
      simp only [Z11, Z12, Z13, Z14, Z15, Z16]
      have hin := inner (ρ := ρ) (N := N) hs hk (fun out5_2 k1 i6 m2_0 m2_1 m2_2 t4_0 t4_1 out5_0 out5_1 => Z30 N out5_2 k1 i6 m2_0 m2_1 m2_2 t4_0 t4_1 out5_0 out5_1 (fun out5_2 k1 i6 m2_0 m2_1 m2_2 t4_0 t4_1 out5_0 out5_1 => Z8L N k0 M out5_2 k1 i6 m2_0 m2_1 m2_2 t4_0 t4_1 out5_0 out5_1)) t0 t1 o0 o1 h N 0 (by omega) (by omega)
      rw [show ((0 : Nat) : Int) = 0 from rfl, Nat.add_zero] at hin
      rw [hin]
      simp only [Z30]
      rw [w64_succ (by rw [maxLen_val]; omega)]
      have := ih (i + 1) h (by omega)
      rw [Nat.add_mul, Nat.one_mul] at this
      exact this
    · rw [cf (df (by omega)), show i = m.2.1.toNat by omega]
end
theorem ok : Spec := fun m k hb hp => ⟨10, fun N hN => by
  simp only [P, Bool.and_eq_true, decide_eq_true_eq] at hp
  obtain ⟨hs, h0, h1⟩ := hp
  obtain ⟨x, rfl⟩ := Int.eq_ofNat_of_zero_le h0
  have hd := shaped_dim hs
  obtain ⟨n, r, hn, hr, hn1, hn5, hnr, hr8, hl⟩ := dim_nat hd
  have hlen : m.2.2.length ≤ 8 * 5 := by rw [hl]; exact Nat.mul_le_mul hr8 hn5
  simp only [Z0, Z1, Z2, Z3]
  rw [ct (show slices_Clone_int_int.P m.2.2 = true from dt (by omega)), ct (show slices_Clone_int_int.P m.2.2 = true from dt (by omega)), both_self, both_self]
  simp only [Z4, Z5, Z6, Z7, Z8]
  have hstart : cur m x 0 = m.2.2 := by
    unfold cur
    rw [upto_zero]
    exact list_map 0 rfl
  have hend : cur m x (m.2.1.toNat * m.1.toNat) = (mutK m x).2.2 := by
    have e : m.2.1.toNat * m.1.toNat = m.2.2.length := by rw [hl, hn, hr]; simp
    rw [e]
    exact upto_full
  have := outer (ρ := Unit × (Int × Int × List Int) × Unit) hN hs (show x < m.1.toNat by omega) (fun out5_2 t4_0 t4_1 out5_0 out5_1 => Z31 N out5_2 t4_0 t4_1 out5_0 out5_1 (fun t4_2 t4_0 t4_1 => some ((), ((t4_0, (t4_1, t4_2)), ())))) 0 0 m.1 m.2.1 N 0 (by omega) (by omega)
  rw [Nat.zero_mul, hstart, hend] at this
  exact this⟩
end impl_mutated
end
end Go.Fw
namespace Go.Fw
noncomputable section
variable {ρ : Type}
namespace impl_MutateMatrix
def g (m : Int × Int × List Int) (k : Int) : (Int × Int × List Int) × Bool :=
  if ((shapedK m && !decide (facK m = [])) && (inK k 0 (m.1 - 1) && (shapedK (mutK m k.toNat) && !decide (facK (mutK m k.toNat) = [])))) = true then (mutK m k.toNat, true) else ((0, 0, []), false)
end impl_MutateMatrix
namespace impl_MutateMatrix
def Z0 {ρ : Type} (N : Nat) (v0 : MT) (v1 : Int) (kr : LI → Bool → I2 (Option ρ)) : Option ρ :=
 cond (!(lk N ((impl_MatrixOk.g v0))))
 (
  kr ([] : List Int) false 0 0)
 (
  cond (!(lk N ((impl_within.g v1 0 (w64 (v0.1 - 1))))))
  (
   kr ([] : List Int) false 0 0)
  (
   cond (lk N (impl_mutated.P v0 v1)) (
    cond (!(lk N ((impl_MatrixOk.g (impl_mutated.g v0 v1)))))
    (
     kr ([] : List Int) false 0 0)
    (
     kr (impl_mutated.g v0 v1).2.2 true (impl_mutated.g v0 v1).1 (impl_mutated.g v0 v1).2.1)) none))
def Spec : Prop := ∀  (v0 : MT) (v1 : Int), Ty.bd (.pair (.int .i64) (.pair (.int .i64) (.sl 0 (.int .i64)))) v0 → ∃ N0, ∀ N, N0 ≤ N → Z0 N v0 v1 (fun v4_2 v5 v4_0 v4_1 => some ((), ((v4_0, (v4_1, v4_2)), (v5, ())))) = some ((), ((g v0 v1).1, ((g v0 v1).2, ())))
theorem ok : Spec := fun m k hb => ⟨0, fun N hN => by
  simp only [Z0, lk_eq, g, impl_MatrixOk.g, impl_within.g]
  cases h1 : (shapedK m && !decide (facK m = []))
  · rfl
  have hs : shapedK m = true := by
    simp only [Bool.and_eq_true] at h1
    exact h1.1
  have hd := shaped_dim hs
  obtain ⟨n, r, hn, hr, hn1, hn5, hnr, hr8, hl⟩ := dim_nat hd
  rw [w64_id (by omega) (by omega)]
  cases h2 : inK k 0 (m.1 - 1)
  · rfl
  have h3 := inK_iff.1 h2
  have hP : impl_mutated.P m k = true := by
    simp only [impl_mutated.P, Bool.and_eq_true, decide_eq_true_eq]
    exact ⟨hs, by omega, by omega⟩
  rw [hP]
  have hg : impl_mutated.g m k = mutK m k.toNat := rfl
  rw [hg]
  cases (shapedK (mutK m k.toNat) && !decide (facK (mutK m k.toNat) = [])) <;> rfl⟩
end impl_MutateMatrix
end
end Go.Fw
namespace Go.Fw
noncomputable section
variable {ρ : Type}
namespace impl_greener_from
def P (r : List (List Int) × Bool) (p : Int × Int × List Int) (ks : List Int) : Bool := !r.2 && (decide (r.1.length ≤ 200) && (dimK p && decide (ks.length ≤ 12)))
noncomputable def g (r : List (List Int) × Bool) (p : Int × Int × List Int) (ks : List Int) : List (List Int) × Bool := grI impl_MutateMatrix.g (13 - ks.length) r p ks
def mu (_ : List (List Int) × Bool) (_ : Int × Int × List Int) (ks : List Int) : Nat := 12 - ks.length
end impl_greener_from
namespace impl_greener_from
def Z1 {ρ : Type} (N m : Nat) (v0 : LL × Bool) (v1 : MT) (v2 : LI) (kn : LL → LI → Bool → I2 (LI → Option ρ)) : Option ρ :=
 kn v0.1 v2 v0.2 v1.1 v1.2.1 v1.2.2
def Z3 {ρ : Type} (N m : Nat) (io100000_0 : LL) (v2 : LI) (io100000_1 : Bool) (v4_0 v4_1 : Int) (v4_2 : LI) (kn : LL → LI → Bool → Bool → I2 (LI → Option ρ)) : Option ρ :=
 kn io100000_0 v2 true io100000_1 v4_0 v4_1 v4_2
def Z6 {ρ : Type} (N m : Nat) (io100000_0 : LL) (v2 : LI) (v6 io100000_1 : Bool) (v4_0 v4_1 : Int) (v4_2 : LI) (kn : LL → LI → Bool → Int → Bool → I2 (LI → Option ρ)) : Option ρ :=
 kn io100000_0 v2 v6 0 io100000_1 v4_0 v4_1 v4_2
def Z9 {ρ : Type} (N m : Nat) (io100000_0 : LL) (v2 : LI) (v6 : Bool) (v7 : Int) (io100000_1 : Bool) (v4_0 v4_1 : Int) (v4_2 : LI) (kn : LL → LI → Bool → Int → Bool → I2 (LI → Option ρ)) (k0 : LL → LI → Bool → Bool → Option ρ) (kr : LL → Bool → Option ρ) : Option ρ :=
 cond (lk N (decide (v7 < v4_0)))
 (
  cond (!(io100000_1))
  (
   cond (lk N (impl_colour.P (v4_0, (v4_1, v4_2)) v7)) (
    cond (lk N (!(decide ((impl_colour.g (v4_0, (v4_1, v4_2)) v7) = 1))))
    (
     kn io100000_0 v2 v6 (w64 (v7 + 1)) io100000_1 v4_0 v4_1 v4_2)
    (
     cond (!(lk N ((impl_MutateMatrix.g (v4_0, (v4_1, v4_2)) v7).2)))
     (
      kr io100000_0 true)
     (
      cond (lk N (decide ((v2.length : Int) = 12)))
      (
       kr io100000_0 true)
      (
       both (
        both (
         cond (lk N (leB 0 (v2.length : Int) && (leB (v2.length : Int) v2.length && decide ((v2.length : Int) = (v2.length : Int))))) (
          cond (lk N (Nat.blt 0 ([v7] : List Int).length && Nat.blt ((v2.take (v2.length : Int).toNat).length + ([v7] : List Int).length) 1099511627776)) (
           cond (lk N (Nat.blt (mu (io100000_0, io100000_1) (impl_MutateMatrix.g (v4_0, (v4_1, v4_2)) v7).1 ((v2.take (v2.length : Int).toNat) ++ ([v7] : List Int))) m && P (io100000_0, io100000_1) (impl_MutateMatrix.g (v4_0, (v4_1, v4_2)) v7).1 ((v2.take (v2.length : Int).toNat) ++ ([v7] : List Int)))) (
            kn (g (io100000_0, io100000_1) (impl_MutateMatrix.g (v4_0, (v4_1, v4_2)) v7).1 ((v2.take (v2.length : Int).toNat) ++ ([v7] : List Int))).1 v2 false (w64 (v7 + 1)) (g (io100000_0, io100000_1) (impl_MutateMatrix.g (v4_0, (v4_1, v4_2)) v7).1 ((v2.take (v2.length : Int).toNat) ++ ([v7] : List Int))).2 v4_0 v4_1 v4_2) none) none) none)
        (
         cond (lk N (leB 0 (v2.length : Int) && (leB (v2.length : Int) v2.length && decide ((v2.length : Int) = (v2.length : Int))))) (
          cond (lk N (Nat.blt 0 ([v7] : List Int).length && Nat.blt ((v2.take (v2.length : Int).toNat).length + ([v7] : List Int).length) 1099511627776)) (
           cond (lk N (Nat.blt (mu (io100000_0, io100000_1) (impl_MutateMatrix.g (v4_0, (v4_1, v4_2)) v7).1 ((v2.take (v2.length : Int).toNat) ++ ([v7] : List Int))) m && P (io100000_0, io100000_1) (impl_MutateMatrix.g (v4_0, (v4_1, v4_2)) v7).1 ((v2.take (v2.length : Int).toNat) ++ ([v7] : List Int)))) (
            kn (g (io100000_0, io100000_1) (impl_MutateMatrix.g (v4_0, (v4_1, v4_2)) v7).1 ((v2.take (v2.length : Int).toNat) ++ ([v7] : List Int))).1 v2 false (w64 (v7 + 1)) (g (io100000_0, io100000_1) (impl_MutateMatrix.g (v4_0, (v4_1, v4_2)) v7).1 ((v2.take (v2.length : Int).toNat) ++ ([v7] : List Int))).2 v4_0 v4_1 v4_2) none) none) none))
       (
        both (
         cond (lk N (leB 0 (v2.length : Int) && (leB (v2.length : Int) v2.length && decide ((v2.length : Int) = (v2.length : Int))))) (
          both (
           cond (lk N (Nat.blt 0 ([v7] : List Int).length && Nat.blt ((v2.take (v2.length : Int).toNat).length + ([v7] : List Int).length) 1099511627776)) (
            cond (lk N (Nat.blt (mu (io100000_0, io100000_1) (impl_MutateMatrix.g (v4_0, (v4_1, v4_2)) v7).1 ((v2.take (v2.length : Int).toNat) ++ ([v7] : List Int))) m && P (io100000_0, io100000_1) (impl_MutateMatrix.g (v4_0, (v4_1, v4_2)) v7).1 ((v2.take (v2.length : Int).toNat) ++ ([v7] : List Int)))) (
             kn (g (io100000_0, io100000_1) (impl_MutateMatrix.g (v4_0, (v4_1, v4_2)) v7).1 ((v2.take (v2.length : Int).toNat) ++ ([v7] : List Int))).1 v2 false (w64 (v7 + 1)) (g (io100000_0, io100000_1) (impl_MutateMatrix.g (v4_0, (v4_1, v4_2)) v7).1 ((v2.take (v2.length : Int).toNat) ++ ([v7] : List Int))).2 v4_0 v4_1 v4_2) none) none)
          (
           both (
            cond (lk N (Nat.blt 0 ([v7] : List Int).length && Nat.blt ((v2.take (v2.length : Int).toNat).length + ([v7] : List Int).length) 1099511627776)) (
             cond (lk N (Nat.blt (mu (io100000_0, io100000_1) (impl_MutateMatrix.g (v4_0, (v4_1, v4_2)) v7).1 ((v2.take (v2.length : Int).toNat) ++ ([v7] : List Int))) m && P (io100000_0, io100000_1) (impl_MutateMatrix.g (v4_0, (v4_1, v4_2)) v7).1 ((v2.take (v2.length : Int).toNat) ++ ([v7] : List Int)))) (
              kn (g (io100000_0, io100000_1) (impl_MutateMatrix.g (v4_0, (v4_1, v4_2)) v7).1 ((v2.take (v2.length : Int).toNat) ++ ([v7] : List Int))).1 v2 false (w64 (v7 + 1)) (g (io100000_0, io100000_1) (impl_MutateMatrix.g (v4_0, (v4_1, v4_2)) v7).1 ((v2.take (v2.length : Int).toNat) ++ ([v7] : List Int))).2 v4_0 v4_1 v4_2) none) none)
           (
            cond (lk N (Nat.blt 0 ([v7] : List Int).length && Nat.blt ((v2.take (v2.length : Int).toNat).length + ([v7] : List Int).length) 1099511627776)) (
             cond (lk N (Nat.blt (mu (io100000_0, io100000_1) (impl_MutateMatrix.g (v4_0, (v4_1, v4_2)) v7).1 ((v2.take (v2.length : Int).toNat) ++ ([v7] : List Int))) m && P (io100000_0, io100000_1) (impl_MutateMatrix.g (v4_0, (v4_1, v4_2)) v7).1 ((v2.take (v2.length : Int).toNat) ++ ([v7] : List Int)))) (
              kn (g (io100000_0, io100000_1) (impl_MutateMatrix.g (v4_0, (v4_1, v4_2)) v7).1 ((v2.take (v2.length : Int).toNat) ++ ([v7] : List Int))).1 v2 false (w64 (v7 + 1)) (g (io100000_0, io100000_1) (impl_MutateMatrix.g (v4_0, (v4_1, v4_2)) v7).1 ((v2.take (v2.length : Int).toNat) ++ ([v7] : List Int))).2 v4_0 v4_1 v4_2) none) none))) none)
        (
         both (
          cond (lk N (leB 0 (v2.length : Int) && (leB (v2.length : Int) v2.length && decide ((v2.length : Int) = (v2.length : Int))))) (
           cond (lk N (Nat.blt 0 ([v7] : List Int).length && Nat.blt ((v2.take (v2.length : Int).toNat).length + ([v7] : List Int).length) 1099511627776)) (
            cond (lk N (Nat.blt (mu (io100000_0, io100000_1) (impl_MutateMatrix.g (v4_0, (v4_1, v4_2)) v7).1 ((v2.take (v2.length : Int).toNat) ++ ([v7] : List Int))) m && P (io100000_0, io100000_1) (impl_MutateMatrix.g (v4_0, (v4_1, v4_2)) v7).1 ((v2.take (v2.length : Int).toNat) ++ ([v7] : List Int)))) (
             kn (g (io100000_0, io100000_1) (impl_MutateMatrix.g (v4_0, (v4_1, v4_2)) v7).1 ((v2.take (v2.length : Int).toNat) ++ ([v7] : List Int))).1 v2 false (w64 (v7 + 1)) (g (io100000_0, io100000_1) (impl_MutateMatrix.g (v4_0, (v4_1, v4_2)) v7).1 ((v2.take (v2.length : Int).toNat) ++ ([v7] : List Int))).2 v4_0 v4_1 v4_2) none) none) none)
         (
          cond (lk N (leB 0 (v2.length : Int) && (leB (v2.length : Int) v2.length && decide ((v2.length : Int) = (v2.length : Int))))) (
           both (
            cond (lk N (Nat.blt 0 ([v7] : List Int).length && Nat.blt ((v2.take (v2.length : Int).toNat).length + ([v7] : List Int).length) 1099511627776)) (
             cond (lk N (Nat.blt (mu (io100000_0, io100000_1) (impl_MutateMatrix.g (v4_0, (v4_1, v4_2)) v7).1 ((v2.take (v2.length : Int).toNat) ++ ([v7] : List Int))) m && P (io100000_0, io100000_1) (impl_MutateMatrix.g (v4_0, (v4_1, v4_2)) v7).1 ((v2.take (v2.length : Int).toNat) ++ ([v7] : List Int)))) (
              kn (g (io100000_0, io100000_1) (impl_MutateMatrix.g (v4_0, (v4_1, v4_2)) v7).1 ((v2.take (v2.length : Int).toNat) ++ ([v7] : List Int))).1 v2 false (w64 (v7 + 1)) (g (io100000_0, io100000_1) (impl_MutateMatrix.g (v4_0, (v4_1, v4_2)) v7).1 ((v2.take (v2.length : Int).toNat) ++ ([v7] : List Int))).2 v4_0 v4_1 v4_2) none) none)
           (
            cond (lk N (Nat.blt 0 ([v7] : List Int).length && Nat.blt ((v2.take (v2.length : Int).toNat).length + ([v7] : List Int).length) 1099511627776)) (
             cond (lk N (Nat.blt (mu (io100000_0, io100000_1) (impl_MutateMatrix.g (v4_0, (v4_1, v4_2)) v7).1 ((v2.take (v2.length : Int).toNat) ++ ([v7] : List Int))) m && P (io100000_0, io100000_1) (impl_MutateMatrix.g (v4_0, (v4_1, v4_2)) v7).1 ((v2.take (v2.length : Int).toNat) ++ ([v7] : List Int)))) (
              kn (g (io100000_0, io100000_1) (impl_MutateMatrix.g (v4_0, (v4_1, v4_2)) v7).1 ((v2.take (v2.length : Int).toNat) ++ ([v7] : List Int))).1 v2 false (w64 (v7 + 1)) (g (io100000_0, io100000_1) (impl_MutateMatrix.g (v4_0, (v4_1, v4_2)) v7).1 ((v2.take (v2.length : Int).toNat) ++ ([v7] : List Int))).2 v4_0 v4_1 v4_2) none) none)) none))))))) none)
  (
   k0 io100000_0 v2 v6 io100000_1))
 (
  k0 io100000_0 v2 v6 io100000_1)
def Z8L {ρ : Type} (N m : Nat) (k0 : LL → LI → Bool → Bool → Option ρ) (kr : LL → Bool → Option ρ) : Nat → LL → LI → Bool → Int → Bool → Int → Int → LI → Option ρ
  | 0, _, _, _, _, _, _, _, _ => none
  | M + 1, io100000_0, v2, v6, v7, io100000_1, v4_0, v4_1, v4_2 => Z9 N m io100000_0 v2 v6 v7 io100000_1 v4_0 v4_1 v4_2 (fun io100000_0 v2 v6 v7 io100000_1 v4_0 v4_1 v4_2 => Z8L N m k0 kr M io100000_0 v2 v6 v7 io100000_1 v4_0 v4_1 v4_2) k0 kr
def Z8 N m io100000_0 v2 v6 v7 io100000_1 v4_0 v4_1 v4_2 k0 kr := (Z8L N m k0 kr N io100000_0 v2 v6 v7 io100000_1 v4_0 v4_1 v4_2 : Option ρ)
def Z7 N m io100000_0 v2 v6 v7 io100000_1 v4_0 v4_1 v4_2 kn kr := (Z8 N m io100000_0 v2 v6 v7 io100000_1 v4_0 v4_1 v4_2 kn kr : Option ρ)
def Z5 N m io100000_0 v2 v6 io100000_1 v4_0 v4_1 v4_2 kn kr := (Z6 N m io100000_0 v2 v6 io100000_1 v4_0 v4_1 v4_2 (fun io100000_0 v2 v6 v7 io100000_1 v4_0 v4_1 v4_2 => Z7 N m io100000_0 v2 v6 v7 io100000_1 v4_0 v4_1 v4_2 kn kr) : Option ρ)
def Z10 {ρ : Type} (N m : Nat) (io100000_0 : LL) (v2 : LI) (v6 io100000_1 : Bool) (kn : LL → Bool → Option ρ) : Option ρ :=
 cond (v6)
 (
  both (
   both (
    cond (lk N (Nat.blt (([] : List Int).length + v2.length) 1099511627776)) (
     cond (lk N (Nat.blt (io100000_0.length + ([(([] : List Int) ++ v2)] : List (LI)).length) 1099511627776)) (
      cond (io100000_1)
      (
       kn (io100000_0 ++ ([(([] : List Int) ++ v2)] : List (LI))) true)
      (
       kn (io100000_0 ++ ([(([] : List Int) ++ v2)] : List (LI))) (lk N (decide (200 < ((io100000_0 ++ ([(([] : List Int) ++ v2)] : List (LI))).length : Int)))))) none) none)
   (
    cond (lk N (Nat.blt (([] : List Int).length + v2.length) 1099511627776)) (
     both (
      cond (lk N (Nat.blt (io100000_0.length + ([(([] : List Int) ++ v2)] : List (LI)).length) 1099511627776)) (
       cond (io100000_1)
       (
        kn (io100000_0 ++ ([(([] : List Int) ++ v2)] : List (LI))) true)
       (
        kn (io100000_0 ++ ([(([] : List Int) ++ v2)] : List (LI))) (lk N (decide (200 < ((io100000_0 ++ ([(([] : List Int) ++ v2)] : List (LI))).length : Int)))))) none)
     (
      cond (lk N (Nat.blt (io100000_0.length + ([(([] : List Int) ++ v2)] : List (LI)).length) 1099511627776)) (
       cond (io100000_1)
       (
        kn (io100000_0 ++ ([(([] : List Int) ++ v2)] : List (LI))) true)
       (
        kn (io100000_0 ++ ([(([] : List Int) ++ v2)] : List (LI))) (lk N (decide (200 < ((io100000_0 ++ ([(([] : List Int) ++ v2)] : List (LI))).length : Int)))))) none)) none))
  (
   cond (lk N (Nat.blt (([] : List Int).length + v2.length) 1099511627776)) (
    both (
     both (
      cond (lk N (Nat.blt (io100000_0.length + ([(([] : List Int) ++ v2)] : List (LI)).length) 1099511627776)) (
       cond (io100000_1)
       (
        kn (io100000_0 ++ ([(([] : List Int) ++ v2)] : List (LI))) true)
       (
        kn (io100000_0 ++ ([(([] : List Int) ++ v2)] : List (LI))) (lk N (decide (200 < ((io100000_0 ++ ([(([] : List Int) ++ v2)] : List (LI))).length : Int)))))) none)
     (
      cond (lk N (Nat.blt (io100000_0.length + ([(([] : List Int) ++ v2)] : List (LI)).length) 1099511627776)) (
       cond (io100000_1)
       (
        kn (io100000_0 ++ ([(([] : List Int) ++ v2)] : List (LI))) true)
       (
        kn (io100000_0 ++ ([(([] : List Int) ++ v2)] : List (LI))) (lk N (decide (200 < ((io100000_0 ++ ([(([] : List Int) ++ v2)] : List (LI))).length : Int)))))) none))
    (
     cond (lk N (Nat.blt (io100000_0.length + ([(([] : List Int) ++ v2)] : List (LI)).length) 1099511627776)) (
      cond (io100000_1)
      (
       kn (io100000_0 ++ ([(([] : List Int) ++ v2)] : List (LI))) true)
      (
       kn (io100000_0 ++ ([(([] : List Int) ++ v2)] : List (LI))) (lk N (decide (200 < ((io100000_0 ++ ([(([] : List Int) ++ v2)] : List (LI))).length : Int)))))) none)) none))
 (
  kn io100000_0 io100000_1)
def Z4 N m io100000_0 v2 v6 io100000_1 v4_0 v4_1 v4_2 kn kr := (Z5 N m io100000_0 v2 v6 io100000_1 v4_0 v4_1 v4_2 (fun io100000_0 v2 v6 io100000_1 => Z10 N m io100000_0 v2 v6 io100000_1 kn) kr : Option ρ)
def Z2 N m io100000_0 v2 io100000_1 v4_0 v4_1 v4_2 kn kr := (Z3 N m io100000_0 v2 io100000_1 v4_0 v4_1 v4_2 (fun io100000_0 v2 v6 io100000_1 v4_0 v4_1 v4_2 => Z4 N m io100000_0 v2 v6 io100000_1 v4_0 v4_1 v4_2 kn kr) : Option ρ)
def Z0 N m v0 v1 v2 kn kr := (Z1 N m v0 v1 v2 (fun io100000_0 v2 io100000_1 v4_0 v4_1 v4_2 => Z2 N m io100000_0 v2 io100000_1 v4_0 v4_1 v4_2 kn kr) : Option ρ)
def Spec : Prop := ∀ (m : Nat) (v0 : LL × Bool) (v1 : MT) (v2 : LI), Ty.bd (.pair (.sl 0 (.sl 0 (.int .i64))) (.bool)) v0 → Ty.bd (.pair (.int .i64) (.pair (.int .i64) (.sl 0 (.int .i64)))) v1 → Ty.bd (.sl 0 (.int .i64)) v2 → (Nat.blt (mu v0 v1 v2) (m + 1) && P v0 v1 v2) = true → ∃ N0, ∀ N, N0 ≤ N → Z0 N m v0 v1 v2 (fun io100000_0 io100000_1 => some ((io100000_0, io100000_1), ())) (fun io100000_0 io100000_1 => some ((io100000_0, io100000_1), ())) = some ((g v0 v1 v2), ())
theorem dim_f {m : Int × Int × List Int} {k : Int} (h : (impl_MutateMatrix.g m k).2 = true) : dimK (impl_MutateMatrix.g m k).1 = true := by
  unfold impl_MutateMatrix.g at h ⊢
  split
  · rename_i hc
    simp only [Bool.and_eq_true] at hc
    exact dim_mut (shaped_dim hc.1.1) _
  · rename_i hc
    rw [if_neg hc] at h; cases h
theorem loop {ρ : Type} {N m d : Nat} {p : Int × Int × List Int} (hd : dimK p = true) {ks : List Int} (hf : ks.length + d = 12) (hm : 12 - ks.length ≤ m) (k0 : List (List Int) → List Int → Bool → Bool → Option ρ) (kr : List (List Int) → Bool → Option ρ) : ∀ (M j : Nat) (s : List (List Int) × Bool) (last : Bool), okS s → j ≤ p.1.toNat → p.1.toNat - j < M →
    Z8L N m k0 kr M s.1 ks last (j : Int) s.2 p.1 p.2.1 p.2.2 = match grIK impl_MutateMatrix.g (grI impl_MutateMatrix.g d) p ks ((List.range p.1.toNat).drop j) s last with | (s', none) => kr s'.1 s'.2 | (s', some lst) => k0 s'.1 ks lst s'.2 := by
  obtain ⟨n, r, hn, hr, hn1, hn5, hnr, hr8, hl⟩ := dim_nat hd
  intro M
  induction M with
  | zero => intro j _ _ _ _ h; omega
  | succ M ih =>
    intro j s last hs hj hM
    simp only [Z8L, Z9]
    by_cases h : j < p.1.toNat
    · have hCP : impl_colour.P (p.1, (p.2.1, p.2.2)) (j : Int) = true := by
        simp only [impl_colour.P, Bool.and_eq_true, decide_eq_true_eq]
        exact ⟨hd, by omega, by omega⟩
      have hCg : impl_colour.g (p.1, (p.2.1, p.2.2)) (j : Int) = signL (colK p j) := rfl
      have hMg : impl_MutateMatrix.g (p.1, (p.2.1, p.2.2)) (j : Int) = impl_MutateMatrix.g p (j : Int) := rfl
      have htk : ks.take ((ks.length : Int)).toNat = ks := by rw [Int.toNat_natCast, List.take_length]
      rw [ct (dt (by omega)), range_drop h, grIK, hMg]
      cases h0 : s.2
      · rw [ct' (show (!false) = true from rfl), ct hCP, hCg, if_neg (by simp)]
        have hlen := hs.2 h0
        have hsp : (s.1, false) = s := by rw [← h0]
        by_cases h1 : signL (colK p j) = 1
        · rw [cf (nf h1), if_pos h1]
          cases h2 : (impl_MutateMatrix.g p (j : Int)).2
          · rw [lk_eq, ct' (show (!false) = true from rfl), if_neg (by simp)]
          · rw [lk_eq, cf' (show (!true) = false from rfl), if_pos rfl]
            by_cases h3 : ks.length = 12
            · rw [ct (dt (by omega)), if_pos h3]
            · rw [cf (df (by omega)), if_neg h3, htk]
              have hdd : 13 - (ks ++ [(j : Int)]).length = d := by simp; omega
              have hgg : g (s.1, false) (impl_MutateMatrix.g p (j : Int)).1 (ks ++ [(j : Int)]) = grI impl_MutateMatrix.g d s (impl_MutateMatrix.g p (j : Int)).1 (ks ++ [(j : Int)]) := by
                unfold g
                rw [hdd, hsp]
              have hrec : (Nat.blt (mu (s.1, false) (impl_MutateMatrix.g p (j : Int)).1 (ks ++ [(j : Int)])) m && P (s.1, false) (impl_MutateMatrix.g p (j : Int)).1 (ks ++ [(j : Int)])) = true := by
                simp only [Bool.and_eq_true, mu, P, Nat.blt_eq, decide_eq_true_eq, List.length_append, List.length_singleton]
                exact ⟨by omega, rfl, hlen, dim_f h2, by omega⟩
              have hA : (leB 0 (ks.length : Int) && (leB (ks.length : Int) (ks.length : Int) && decide True)) = true := by rw [leB_t (by omega), leB_t (by omega)]; rfl
              have hB : (Nat.blt 0 ([(j : Int)] : List Int).length && Nat.blt (ks.length + ([(j : Int)] : List Int).length) 1099511627776) = true := by simp; omega
              simp only [hA, hB, hrec, hgg, lk_eq, cond_true, both_self]
              rw [w64_succ (by rw [maxLen_val]; omega)]
              exact ih (j + 1) _ false (grI_len d s _ _ h0 hs) h (by omega)
        · rw [ct (nt h1), if_neg h1, w64_succ (by rw [maxLen_val]; omega)]
          have := ih (j + 1) s last hs h (by omega)
          rw [h0] at this
          exact this
      · rw [cf' (show (!true) = false from rfl), if_pos rfl]
        simp only [h0]
    · rw [cf (df (by omega)), List.drop_of_length_le (by simp; omega), grIK]
theorem ok : Spec := fun m r p ks hb1 hb2 hb3 hp => ⟨10, fun N hN => by
  simp only [Bool.and_eq_true, P, mu, Nat.blt_eq, decide_eq_true_eq, Bool.not_eq_true'] at hp
  obtain ⟨hm, h0, hl, hd, hf⟩ := hp
  obtain ⟨n, rr, hn, hr, hn1, hn5, hnr, hr8, hll⟩ := dim_nat hd
  obtain ⟨d, hd13⟩ : ∃ d, ks.length + d = 12 := ⟨12 - ks.length, by omega⟩
  have hgd : 13 - ks.length = d + 1 := by omega
  have hs : okS r := ⟨by omega, fun _ => hl⟩
  simp only [Z0, Z1, Z2, Z3, Z4, Z5, Z6, Z7, Z8]
  have := fun k0 kr => loop (ρ := (List (List Int) × Bool) × Unit) (N := N) (m := m) hd hd13 (by omega) k0 kr N 0 r true hs (by omega) (by omega)
  simp only [show ((0 : Nat) : Int) = 0 from rfl, List.drop_zero] at this
  obtain ⟨i1, i2⟩ := grIK_len (f := impl_MutateMatrix.g) (grI_len d) p ks (List.range p.1.toNat) r true (fun _ => h0) hs
  rw [this, g, hgd, grI]
  cases hq : grIK impl_MutateMatrix.g (grI impl_MutateMatrix.g d) p ks (List.range p.1.toNat) r true with
  | mk s' o =>
    rw [hq] at i1 i2
    cases o with
    | none => rfl
    | some last =>
      simp only [Z10]
      cases last
      · rfl
      · have h00 : s'.2 = false := i2 rfl
        have h01 := i1.2 h00
        simp only at h01
        have e1 : endI ks s' true = (s'.1 ++ [ks], decide ((200 : Int) < ((s'.1 ++ [ks]).length : Int))) := by simp [endI, h00]
        have hA : Nat.blt (([] : List Int).length + ks.length) 1099511627776 = true := by rw [Nat.blt_eq]; simp; omega
        have hB : Nat.blt (s'.1.length + ([ks] : List (List Int)).length) 1099511627776 = true := by rw [Nat.blt_eq]; simp; omega
        simp only [e1, hA, hB, h00, lk_eq, cond_true, cond_false, both_self, List.nil_append]⟩
end impl_greener_from
end
end Go.Fw
namespace Go.Fw
noncomputable section
variable {ρ : Type}
namespace impl_GreenSequences
noncomputable def g (m : Int × Int × List Int) : List (List Int) × Bool :=
  if (impl_PrincipalMatrix.g m).2 = true then (if (grI impl_MutateMatrix.g 13 ([], false) (impl_PrincipalMatrix.g m).1 []).2 = true then ([], false) else ((grI impl_MutateMatrix.g 13 ([], false) (impl_PrincipalMatrix.g m).1 []).1, true)) else ([], false)
end impl_GreenSequences
namespace impl_GreenSequences
def Z0 {ρ : Type} (N : Nat) (v0 : MT) (kr : LL → Bool → Option ρ) : Option ρ :=
 cond (!(lk N ((impl_PrincipalMatrix.g v0).2)))
 (
  kr ([] : List (LI)) false)
 (
  cond (lk N (impl_greener_from.P (([] : List (LI)), false) (impl_PrincipalMatrix.g v0).1 ([] : List Int))) (
   cond ((impl_greener_from.g (([] : List (LI)), false) (impl_PrincipalMatrix.g v0).1 ([] : List Int)).2)
   (
    kr ([] : List (LI)) false)
   (
    kr (impl_greener_from.g (([] : List (LI)), false) (impl_PrincipalMatrix.g v0).1 ([] : List Int)).1 true)) none)
def Spec : Prop := ∀  (v0 : MT), Ty.bd (.pair (.int .i64) (.pair (.int .i64) (.sl 0 (.int .i64)))) v0 → ∃ N0, ∀ N, N0 ≤ N → Z0 N v0 (fun v2 v3 => some ((), (v2, (v3, ())))) = some ((), ((g v0).1, ((g v0).2, ())))
theorem ok : Spec := fun m hb => ⟨0, fun N hN => by
  simp only [Z0]
  rw [g]
  cases h : (impl_PrincipalMatrix.g m).2
  · rw [lk_eq]
    rfl
  · rw [lk_eq, cf' (show (!true) = false from rfl), if_pos rfl]
    have hd : dimK (impl_PrincipalMatrix.g m).1 = true := by
      unfold impl_PrincipalMatrix.g at h ⊢
      split
      · rename_i hq
        simp only [Bool.and_eq_true, decide_eq_true_eq] at hq
        exact dim_princ (shaped_dim hq.1.1) hq.2.1 hq.2.2
      · rename_i hq
        rw [if_neg hq] at h; cases h
    have hP : impl_greener_from.P (([] : List (List Int)), false) (impl_PrincipalMatrix.g m).1 ([] : List Int) = true := by
      simp only [impl_greener_from.P, Bool.and_eq_true, decide_eq_true_eq]
      exact ⟨rfl, by simp, hd, by simp⟩
    rw [ct hP, show impl_greener_from.g (([] : List (List Int)), false) (impl_PrincipalMatrix.g m).1 ([] : List Int) = grI impl_MutateMatrix.g 13 ([], false) (impl_PrincipalMatrix.g m).1 [] from rfl]
    cases (grI impl_MutateMatrix.g 13 ([], false) (impl_PrincipalMatrix.g m).1 []).2 <;> rfl⟩
end impl_GreenSequences
end
end Go.Fw
namespace Go.Fw
noncomputable section
variable {ρ : Type}
namespace laws_eqIntS
def g (a b : List Int) : Bool := decide (a = b)
end laws_eqIntS
namespace laws_eqIntS
def Z1 {ρ : Type} (N : Nat) (v0 v1 : LI) (kn : LI → LI → Option ρ) : Option ρ :=
 kn v0 v1
def Z3 {ρ : Type} (N : Nat) (v0 v1 : LI) (kn : LI → LI → Option ρ) (kr : Bool → Option ρ) : Option ρ :=
 cond (lk N (!(decide ((v0.length : Int) = (v1.length : Int)))))
 (
  kr false)
 (
  kn v0 v1)
def Z6 {ρ : Type} (N : Nat) (v0 v1 : LI) (kn : LI → LI → Int → Option ρ) : Option ρ :=
 kn v0 v1 0
def Z9 {ρ : Type} (N : Nat) (v0 v1 : LI) (v5 : Int) (kn : LI → LI → Int → Option ρ) (k0 : Option ρ) (kr : Bool → Option ρ) : Option ρ :=
 cond (lk N (decide (v5 < (v0.length : Int))))
 (
  cond (lk N (inB v5 v0.length)) (
   cond (lk N (inB v5 v1.length)) (
    cond (lk N (!(decide ((v0.getD v5.toNat 0) = (v1.getD v5.toNat 0)))))
    (
     kr false)
    (
     kn v0 v1 (w64 (v5 + 1)))) none) none)
 (
  k0)
def Z8L {ρ : Type} (N : Nat) (k0 : Option ρ) (kr : Bool → Option ρ) : Nat → LI → LI → Int → Option ρ
  | 0, _, _, _ => none
  | M + 1, v0, v1, v5 => Z9 N v0 v1 v5 (fun v0 v1 v5 => Z8L N k0 kr M v0 v1 v5) k0 kr
def Z8 N v0 v1 v5 k0 kr := (Z8L N k0 kr N v0 v1 v5 : Option ρ)
def Z7 N v0 v1 v5 kn kr := (Z8 N v0 v1 v5 kn kr : Option ρ)
def Z5 N v0 v1 kn kr := (Z6 N v0 v1 (fun v0 v1 v5 => Z7 N v0 v1 v5 kn kr) : Option ρ)
def Z10 {ρ : Type} (N : Nat)  (kr : Bool → Option ρ) : Option ρ :=
 kr true
def Z4 N v0 v1 kr := (Z5 N v0 v1 (Z10 N kr) kr : Option ρ)
def Z2 N v0 v1 kr := (Z3 N v0 v1 (fun v0 v1 => Z4 N v0 v1 kr) kr : Option ρ)
def Z0 N v0 v1 kr := (Z1 N v0 v1 (fun v0 v1 => Z2 N v0 v1 kr) : Option ρ)
def Spec : Prop := ∀  (v0 v1 : LI), Ty.bd (.sl 0 (.int .i64)) v0 → Ty.bd (.sl 0 (.int .i64)) v1 → ∃ N0, ∀ N, N0 ≤ N → Z0 N v0 v1 (fun v4 => some ((), (v4, ()))) = some ((), ((g v0 v1), ()))
theorem loop {ρ : Type} (N : Nat) (k0 : Option ρ) (kr : Bool → Option ρ) (a b : List Int) (hl : a.length = b.length) (ha : a.length ≤ maxLen) : ∀ (M j : Nat), j ≤ a.length → a.length - j < M →
    Z8L N k0 kr M a b (j : Int) = if a.drop j = b.drop j then k0 else kr false := by
  intro M
  induction M with
  | zero => intro j _ h; omega
  | succ M ih =>
    intro j hj hM
    simp only [Z8L, Z9]
    by_cases h : j < a.length
    · rw [ct (dt (by omega)), ct (inB_nat h), ct (inB_nat (by omega)), Int.toNat_natCast, w64_succ (by omega), ih (j + 1) h (by omega), drop_getD 0 h, drop_getD (l := b) (j := j) 0 (by omega)]
      by_cases e : a.getD j 0 = b.getD j 0
      · rw [cf (nf e), e]
        simp only [List.cons.injEq, true_and]
      · rw [ct (nt e), if_neg (by simp only [List.cons.injEq]; exact fun h => e h.1)]
    · rw [cf (df (by omega)), if_pos (by rw [List.drop_of_length_le (by omega), List.drop_of_length_le (by omega)])]
theorem ok : Spec := fun a b ha hb => ⟨a.length + 1, fun N hN => by
  simp only [Z1, Z3, Z6, Z9, Z8, Z7, Z5, Z10, Z4, Z2, Z0]
  by_cases hl : a.length = b.length
  · rw [cf (nf (by omega))]
    rw [show (0 : Int) = ((0 : Nat) : Int) from rfl, loop _ _ _ a b hl ha.1 N 0 (by omega) (by omega)]
    by_cases e : a = b <;> simp [e, g]
  · rw [ct (nt (by omega))]
    have : a ≠ b := fun e => hl (by rw [e])
    simp [g, this]⟩
end laws_eqIntS
end
end Go.Fw
namespace Go.Fw
noncomputable section
variable {ρ : Type}
namespace laws_eqIntSS
def g (a b : List (List Int)) : Bool := decide (a = b)
end laws_eqIntSS
namespace laws_eqIntSS
def Z1 {ρ : Type} (N : Nat) (v0 v1 : LL) (kn : LL → LL → Option ρ) : Option ρ :=
 kn v0 v1
def Z3 {ρ : Type} (N : Nat) (v0 v1 : LL) (kn : LL → LL → Option ρ) (kr : Bool → Option ρ) : Option ρ :=
 cond (lk N (!(decide ((v0.length : Int) = (v1.length : Int)))))
 (
  kr false)
 (
  kn v0 v1)
def Z6 {ρ : Type} (N : Nat) (v0 v1 : LL) (kn : LL → LL → Int → Option ρ) : Option ρ :=
 kn v0 v1 0
def Z9 {ρ : Type} (N : Nat) (v0 v1 : LL) (v5 : Int) (kn : LL → LL → Int → Option ρ) (k0 : Option ρ) (kr : Bool → Option ρ) : Option ρ :=
 cond (lk N (decide (v5 < (v0.length : Int))))
 (
  cond (lk N (inB v5 v0.length)) (
   cond (lk N (inB v5 v1.length)) (
    cond (!(lk N ((laws_eqIntS.g (v0.getD v5.toNat []) (v1.getD v5.toNat [])))))
    (
     kr false)
    (
     kn v0 v1 (w64 (v5 + 1)))) none) none)
 (
  k0)
def Z8L {ρ : Type} (N : Nat) (k0 : Option ρ) (kr : Bool → Option ρ) : Nat → LL → LL → Int → Option ρ
  | 0, _, _, _ => none
  | M + 1, v0, v1, v5 => Z9 N v0 v1 v5 (fun v0 v1 v5 => Z8L N k0 kr M v0 v1 v5) k0 kr
def Z8 N v0 v1 v5 k0 kr := (Z8L N k0 kr N v0 v1 v5 : Option ρ)
def Z7 N v0 v1 v5 kn kr := (Z8 N v0 v1 v5 kn kr : Option ρ)
def Z5 N v0 v1 kn kr := (Z6 N v0 v1 (fun v0 v1 v5 => Z7 N v0 v1 v5 kn kr) : Option ρ)
def Z10 {ρ : Type} (N : Nat)  (kr : Bool → Option ρ) : Option ρ :=
 kr true
def Z4 N v0 v1 kr := (Z5 N v0 v1 (Z10 N kr) kr : Option ρ)
def Z2 N v0 v1 kr := (Z3 N v0 v1 (fun v0 v1 => Z4 N v0 v1 kr) kr : Option ρ)
def Z0 N v0 v1 kr := (Z1 N v0 v1 (fun v0 v1 => Z2 N v0 v1 kr) : Option ρ)
def Spec : Prop := ∀  (v0 v1 : LL), Ty.bd (.sl 0 (.sl 0 (.int .i64))) v0 → Ty.bd (.sl 0 (.sl 0 (.int .i64))) v1 → ∃ N0, ∀ N, N0 ≤ N → Z0 N v0 v1 (fun v4 => some ((), (v4, ()))) = some ((), ((g v0 v1), ()))
theorem loop {ρ : Type} (N : Nat) (k0 : Option ρ) (kr : Bool → Option ρ) (a b : List (List Int)) (hl : a.length = b.length) (ha : a.length ≤ maxLen) : ∀ (M j : Nat), j ≤ a.length → a.length - j < M →
    Z8L N k0 kr M a b (j : Int) = if a.drop j = b.drop j then k0 else kr false := by
  intro M
  induction M with
  | zero => intro j _ h; omega
  | succ M ih =>
    intro j hj hM
    simp only [Z8L, Z9]
    by_cases h : j < a.length
    · rw [ct (dt (by omega)), ct (inB_nat h), ct (inB_nat (by omega)), Int.toNat_natCast, w64_succ (by omega), ih (j + 1) h (by omega), drop_getD [] h, drop_getD (l := b) (j := j) [] (by omega)]
      by_cases e : a.getD j [] = b.getD j []
      · rw [cf' (by rw [lk_eq, laws_eqIntS.g, dt e]; rfl), e]
        simp only [List.cons.injEq, true_and]
      · rw [ct' (by rw [lk_eq, laws_eqIntS.g, df e]; rfl), if_neg (by simp only [List.cons.injEq]; exact fun h => e h.1)]
    · rw [cf (df (by omega)), if_pos (by rw [List.drop_of_length_le (by omega), List.drop_of_length_le (by omega)])]
theorem ok : Spec := fun a b ha hb => ⟨a.length + 1, fun N hN => by
  simp only [Z1, Z3, Z6, Z9, Z8, Z7, Z5, Z10, Z4, Z2, Z0]
  by_cases hl : a.length = b.length
  · rw [cf (nf (by omega))]
    rw [show (0 : Int) = ((0 : Nat) : Int) from rfl, loop _ _ _ a b hl ha.1 N 0 (by omega) (by omega)]
    by_cases e : a = b <;> simp [e, g]
  · rw [ct (nt (by omega))]
    have : a ≠ b := fun e => hl (by rw [e])
    simp [g, this]⟩
end laws_eqIntSS
end
end Go.Fw
namespace Go.Fw
noncomputable section
variable {ρ : Type}
namespace laws_eqMatrix
def g (a b : Int × Int × List Int) : Bool := decide (a = b)
end laws_eqMatrix
namespace laws_eqMatrix
def Z0 {ρ : Type} (N : Nat) (v0 v1 : MT) (kr : Bool → Option ρ) : Option ρ :=
 cond (lk N (!(decide (v0.1 = v1.1))))
 (
  kr false)
 (
  cond (lk N (!(decide (v0.2.1 = v1.2.1))))
  (
   kr false)
  (
   cond (!(lk N ((laws_eqIntS.g v0.2.2 v1.2.2))))
   (
    kr false)
   (
    kr true)))
def Spec : Prop := ∀  (v0 v1 : MT), Ty.bd (.pair (.int .i64) (.pair (.int .i64) (.sl 0 (.int .i64)))) v0 → Ty.bd (.pair (.int .i64) (.pair (.int .i64) (.sl 0 (.int .i64)))) v1 → ∃ N0, ∀ N, N0 ≤ N → Z0 N v0 v1 (fun v4 => some ((), (v4, ()))) = some ((), ((g v0 v1), ()))
theorem ok : Spec := fun a b ha hb => ⟨0, fun N hN => by
  obtain ⟨a1, a2, a3⟩ := a
  obtain ⟨b1, b2, b3⟩ := b
  simp only [Z0, lk_eq, g, laws_eqIntS.g, Prod.mk.injEq]
  by_cases h1 : a1 = b1 <;> by_cases h2 : a2 = b2 <;> by_cases h3 : a3 = b3 <;> simp [h1, h2, h3]⟩
end laws_eqMatrix
end
end Go.Fw
namespace Go.Fw
noncomputable section
variable {ρ : Type}
namespace laws_markMatrix
def g (a : Int × Int × List Int) (k : Int) : (Int × Int × List Int) × Int := ((a.1, a.2.1, (laws_markIntS.g a.2.2 k).1), (laws_markIntS.g a.2.2 k).2)
end laws_markMatrix
namespace laws_markMatrix
def Z0 {ρ : Type} (N : Nat) (v0 : MT) (v1 : Int) (kr : LI → I3 (Option ρ)) : Option ρ :=
 kr (laws_markIntS.g v0.2.2 v1).1 (laws_markIntS.g v0.2.2 v1).2 v0.1 v0.2.1
def Spec : Prop := ∀  (v0 : MT) (v1 : Int), Ty.bd (.pair (.int .i64) (.pair (.int .i64) (.sl 0 (.int .i64)))) v0 → ∃ N0, ∀ N, N0 ≤ N → Z0 N v0 v1 (fun io100000_2 v4 io100000_0 io100000_1 => some ((io100000_0, (io100000_1, io100000_2)), (v4, ()))) = some ((g v0 v1).1, ((g v0 v1).2, ()))
theorem ok : Spec := fun a k ha => ⟨0, fun N hN => by simp only [Z0, g]⟩
end laws_markMatrix
end
end Go.Fw
namespace Go.Fw
noncomputable section
variable {ρ : Type}
namespace laws_FnExactGreenSequences
def g (_ : Int × Int × List Int) : Bool := true
end laws_FnExactGreenSequences
namespace laws_FnExactGreenSequences
def Z1 {ρ : Type} (N : Nat) (v0 : MT) (kn : I2 (LI → Option ρ)) : Option ρ :=
 kn v0.1 v0.2.1 v0.2.2
def Z3 {ρ : Type} (N : Nat) (v1_0 v1_1 : Int) (v1_2 : LI) (kn : I3 (LI → Option ρ)) : Option ρ :=
 kn 1048576 v1_0 v1_1 v1_2
def Z5 {ρ : Type} (N : Nat) (v3 v1_0 v1_1 : Int) (v1_2 : LI) (kn : I3 (LI → Option ρ)) : Option ρ :=
 kn (laws_szMatrix.g (v1_0, (v1_1, v1_2)) v3) v1_0 v1_1 v1_2
def Z7 {ρ : Type} (N : Nat) (v3 v1_0 v1_1 : Int) (v1_2 : LI) (kn : I2 (LI → Option ρ)) (kr : Bool → Option ρ) : Option ρ :=
 cond (lk N (decide (v3 < 0)))
 (
  kr true)
 (
  kn v1_0 v1_1 v1_2)
def Z9 {ρ : Type} (N : Nat) (v1_0 v1_1 : Int) (v1_2 : LI) (kn : LL → Bool → I2 (LI → Option ρ)) : Option ρ :=
 cond (lk N (laws_toMatrix.P (v1_0, (v1_1, v1_2)))) (
  kn (spec_GreenSequences.g (laws_toMatrix.g (v1_0, (v1_1, v1_2)))).1 (lk N ((spec_GreenSequences.g (laws_toMatrix.g (v1_0, (v1_1, v1_2)))).2)) v1_0 v1_1 v1_2) none
def Z11 {ρ : Type} (N : Nat) (v4 : LL) (v5 : Bool) (v1_0 v1_1 : Int) (v1_2 : LI) (kn : LL → LI → Bool → I2 (LI → I2 (Option ρ))) : Option ρ :=
 cond (lk N (laws_toMatrix.P (v1_0, (v1_1, v1_2)))) (
  kn v4 (laws_toMatrix.g (v1_0, (v1_1, v1_2))).2.2 v5 v1_0 v1_1 v1_2 (laws_toMatrix.g (v1_0, (v1_1, v1_2))).1 (laws_toMatrix.g (v1_0, (v1_1, v1_2))).2.1) none
def Z13 {ρ : Type} (N : Nat) (v4 : LL) (v6_2 : LI) (v5 : Bool) (v1_0 v1_1 : Int) (v1_2 : LI) (v6_0 v6_1 : Int) (kn : LL → LL → LI → Bool → Bool → I2 (LI → I2 (Option ρ))) : Option ρ :=
 kn v4 (impl_GreenSequences.g (v6_0, (v6_1, v6_2))).1 v6_2 v5 (lk N ((impl_GreenSequences.g (v6_0, (v6_1, v6_2))).2)) v1_0 v1_1 v1_2 v6_0 v6_1
def Z15 {ρ : Type} (N : Nat) (v4 v7 : LL) (v6_2 : LI) (v5 v8 : Bool) (v1_0 v1_1 : Int) (v1_2 : LI) (v6_0 v6_1 : Int) (kn : LL → LL → LI → Bool → Bool → I2 (LI → I2 (Option ρ))) (kr : Bool → Option ρ) : Option ρ :=
 cond (!(lk N ((laws_eqIntSS.g v7 v4))))
 (
  kr false)
 (
  cond (lk N (!((v8 == v5))))
  (
   kr false)
  (
   kn v4 v7 v6_2 v5 v8 v1_0 v1_1 v1_2 v6_0 v6_1))
def Z17 {ρ : Type} (N : Nat) (v4 v7 : LL) (v6_2 : LI) (v5 v8 : Bool) (v1_0 v1_1 : Int) (v1_2 : LI) (v6_0 v6_1 : Int) (kn : LL → LL → LI → Bool → Bool → I2 (LI → I2 (Option ρ))) (kr : Bool → Option ρ) : Option ρ :=
 cond (lk N (laws_toMatrix.P (v1_0, (v1_1, v1_2)))) (
  cond (!(lk N ((laws_eqMatrix.g (v6_0, (v6_1, v6_2)) (laws_toMatrix.g (v1_0, (v1_1, v1_2)))))))
  (
   kr false)
  (
   kn v4 v7 v6_2 v5 v8 v1_0 v1_1 v1_2 v6_0 v6_1)) none
def Z19 {ρ : Type} (N : Nat) (v4 v7 : LL) (v6_2 : LI) (v5 v8 : Bool) (v1_0 v1_1 : Int) (v1_2 : LI) (v6_0 v6_1 : Int) (kn : LL → LL → LI → Bool → Bool → I3 (LI → I2 (Option ρ))) : Option ρ :=
 kn v4 v7 v6_2 v5 v8 1 v1_0 v1_1 v1_2 v6_0 v6_1
def Z21 {ρ : Type} (N : Nat) (v4 v7 : LL) (v6_2 : LI) (v5 v8 : Bool) (v9 v1_0 v1_1 : Int) (v1_2 : LI) (v6_0 v6_1 : Int) (kn : LL → LL → Bool → Bool → I3 (LI → Option ρ)) : Option ρ :=
 kn v4 v7 v5 v8 (laws_markMatrix.g (v6_0, (v6_1, v6_2)) v9).2 v1_0 v1_1 v1_2
def Z23 {ρ : Type} (N : Nat) (v4 v7 : LL) (v5 v8 : Bool) (v9 v1_0 v1_1 : Int) (v1_2 : LI) (kn : LL → LL → Bool → I2 (LI → Option ρ)) (kr : Bool → Option ρ) : Option ρ :=
 cond (lk N (decide (v9 < 0)))
 (
  kr false)
 (
  cond (!(lk N ((laws_eqIntSS.g v7 v4))))
  (
   kr false)
  (
   cond (lk N (!((v8 == v5))))
   (
    kr false)
   (
    kn v4 v7 v5 v1_0 v1_1 v1_2)))
def Z24 {ρ : Type} (N : Nat) (v4 v7 : LL) (v5 : Bool) (v1_0 v1_1 : Int) (v1_2 : LI) (kr : Bool → Option ρ) : Option ρ :=
 cond (lk N (decide ((laws_heldIntSS.g (laws_markIntSS.g v7 1).1 1) < 0)))
 (
  kr false)
 (
  cond (lk N (!(decide ((laws_heldIntSS.g (laws_markIntSS.g v7 1).1 1) = (laws_markIntSS.g v7 1).2))))
  (
   kr false)
  (
   cond (lk N (laws_toMatrix.P (v1_0, (v1_1, v1_2)))) (
    cond (!(lk N ((laws_eqIntSS.g (impl_GreenSequences.g (laws_toMatrix.g (v1_0, (v1_1, v1_2)))).1 v4))))
    (
     kr false)
    (
     cond (lk N (!(((lk N ((impl_GreenSequences.g (laws_toMatrix.g (v1_0, (v1_1, v1_2)))).2)) == v5))))
     (
      kr false)
     (
      cond (lk N (decide ((laws_heldIntSS.g (laws_markIntSS.g v7 1).1 1) < 0)))
      (
       kr false)
      (
       cond (lk N (!(decide ((laws_heldIntSS.g (laws_markIntSS.g v7 1).1 1) = (laws_markIntSS.g v7 1).2))))
       (
        kr false)
       (
        kr true))))) none))
def Z22 N v4 v7 v5 v8 v9 v1_0 v1_1 v1_2 kr := (Z23 N v4 v7 v5 v8 v9 v1_0 v1_1 v1_2 (fun v4 v7 v5 v1_0 v1_1 v1_2 => Z24 N v4 v7 v5 v1_0 v1_1 v1_2 kr) kr : Option ρ)
def Z20 N v4 v7 v6_2 v5 v8 v9 v1_0 v1_1 v1_2 v6_0 v6_1 kr := (Z21 N v4 v7 v6_2 v5 v8 v9 v1_0 v1_1 v1_2 v6_0 v6_1 (fun v4 v7 v5 v8 v9 v1_0 v1_1 v1_2 => Z22 N v4 v7 v5 v8 v9 v1_0 v1_1 v1_2 kr) : Option ρ)
def Z18 N v4 v7 v6_2 v5 v8 v1_0 v1_1 v1_2 v6_0 v6_1 kr := (Z19 N v4 v7 v6_2 v5 v8 v1_0 v1_1 v1_2 v6_0 v6_1 (fun v4 v7 v6_2 v5 v8 v9 v1_0 v1_1 v1_2 v6_0 v6_1 => Z20 N v4 v7 v6_2 v5 v8 v9 v1_0 v1_1 v1_2 v6_0 v6_1 kr) : Option ρ)
def Z16 N v4 v7 v6_2 v5 v8 v1_0 v1_1 v1_2 v6_0 v6_1 kr := (Z17 N v4 v7 v6_2 v5 v8 v1_0 v1_1 v1_2 v6_0 v6_1 (fun v4 v7 v6_2 v5 v8 v1_0 v1_1 v1_2 v6_0 v6_1 => Z18 N v4 v7 v6_2 v5 v8 v1_0 v1_1 v1_2 v6_0 v6_1 kr) kr : Option ρ)
def Z14 N v4 v7 v6_2 v5 v8 v1_0 v1_1 v1_2 v6_0 v6_1 kr := (Z15 N v4 v7 v6_2 v5 v8 v1_0 v1_1 v1_2 v6_0 v6_1 (fun v4 v7 v6_2 v5 v8 v1_0 v1_1 v1_2 v6_0 v6_1 => Z16 N v4 v7 v6_2 v5 v8 v1_0 v1_1 v1_2 v6_0 v6_1 kr) kr : Option ρ)
def Z12 N v4 v6_2 v5 v1_0 v1_1 v1_2 v6_0 v6_1 kr := (Z13 N v4 v6_2 v5 v1_0 v1_1 v1_2 v6_0 v6_1 (fun v4 v7 v6_2 v5 v8 v1_0 v1_1 v1_2 v6_0 v6_1 => Z14 N v4 v7 v6_2 v5 v8 v1_0 v1_1 v1_2 v6_0 v6_1 kr) : Option ρ)
def Z10 N v4 v5 v1_0 v1_1 v1_2 kr := (Z11 N v4 v5 v1_0 v1_1 v1_2 (fun v4 v6_2 v5 v1_0 v1_1 v1_2 v6_0 v6_1 => Z12 N v4 v6_2 v5 v1_0 v1_1 v1_2 v6_0 v6_1 kr) : Option ρ)
def Z8 N v1_0 v1_1 v1_2 kr := (Z9 N v1_0 v1_1 v1_2 (fun v4 v5 v1_0 v1_1 v1_2 => Z10 N v4 v5 v1_0 v1_1 v1_2 kr) : Option ρ)
def Z6 N v3 v1_0 v1_1 v1_2 kr := (Z7 N v3 v1_0 v1_1 v1_2 (fun v1_0 v1_1 v1_2 => Z8 N v1_0 v1_1 v1_2 kr) kr : Option ρ)
def Z4 N v3 v1_0 v1_1 v1_2 kr := (Z5 N v3 v1_0 v1_1 v1_2 (fun v3 v1_0 v1_1 v1_2 => Z6 N v3 v1_0 v1_1 v1_2 kr) : Option ρ)
def Z2 N v1_0 v1_1 v1_2 kr := (Z3 N v1_0 v1_1 v1_2 (fun v3 v1_0 v1_1 v1_2 => Z4 N v3 v1_0 v1_1 v1_2 kr) : Option ρ)
def Z0 N v0 kr := (Z1 N v0 (fun v1_0 v1_1 v1_2 => Z2 N v1_0 v1_1 v1_2 kr) : Option ρ)
def Spec : Prop := ∀  (v0 : MT), Ty.bd (.pair (.int .i64) (.pair (.int .i64) (.sl 0 (.int .i64)))) v0 → ∃ N0, ∀ N, N0 ≤ N → Z0 N v0 (fun v2 => some ((), (v2, ()))) = some ((), ((g v0), ()))
theorem alike (m : Int × Int × List Int) : impl_GreenSequences.g m = spec_GreenSequences.g m := by
  unfold impl_GreenSequences.g spec_GreenSequences.g impl_PrincipalMatrix.g
  rw [ok_alike]
  cases h : ((sizesK m && !decide (facK m = [])) && (decide (m.2.1 = m.1) && decide (2 * m.1 ≤ 8)))
  · rfl
  · rw [if_pos rfl, if_pos rfl, if_pos rfl]
    simp only
    have h' := h
    simp only [Bool.and_eq_true, decide_eq_true_eq] at h'
    have hok := ok_princ (m := m) (by simpa using h'.1) h'.2.1 h'.2.2
    have hf : ∀ (p : Int × Int × List Int) (k : Nat), okK p → k < p.1.toNat → (impl_MutateMatrix.g p (k : Int)).2 = sizesK (mutK p k) ∧ ((impl_MutateMatrix.g p (k : Int)).2 = true → (impl_MutateMatrix.g p (k : Int)).1 = mutK p k) := by
      intro p k hp hk
      have hq := okK_iff hp
      have hin : inK (k : Int) 0 (p.1 - 1) = true := inK_iff.2 (by omega)
      unfold impl_MutateMatrix.g
      rw [ok_alike, hq, hin, Int.toNat_natCast, mut_alike hq hk, Bool.true_and, Bool.true_and]
      cases sizesK (mutK p k)
      · exact ⟨rfl, fun h => by cases h⟩
      · exact ⟨rfl, fun _ => rfl⟩
    obtain ⟨q1, q2⟩ := gr_eq hf 13 (princK m) [] [] rfl hok (by simp) (by omega)
    cases hq : grn 13 (princK m) [] [] with
    | none => rw [if_pos (q2 hq)]
    | some l =>
      rw [q1 l hq]
      rfl
theorem small (m : Int × Int × List Int) : szSS (spec_GreenSequences.g m).1 < 4611686018427387904 := by
  unfold spec_GreenSequences.g
  split
  · cases hq : grn 13 (princK m) [] [] with
    | none => decide
    | some l =>
      have h1 := grn_len hq
      have h2 := grn_all 13 (princK m) [] [] l (by simp) (fun x hx => by cases hx) hq
      have := szSS_le (l := l) (a := 200) (b := 12) h1 h2
      show szSS l < _
      omega
  · decide
theorem ok : Spec := fun m hb => ⟨0, fun N hN => by
  by_cases hl : laws_szMatrix.g m 1048576 < 0
  · simp only [Z1, Z3, Z5, Z7, Z9, Z11, Z13, Z15, Z17, Z19, Z21, Z23, Z24, Z22, Z20, Z18, Z16, Z14, Z12, Z10, Z8, Z6, Z4, Z2, Z0]
    rw [ct (dt hl)]
    rfl
  obtain ⟨hP, hlen⟩ := szMat_P m hb.2.2.1 hl
  have he := alike m
  obtain ⟨h1, h2⟩ := ss_mark _ (small m)
  have hm : ¬ (laws_markMatrix.g m 1).2 < 0 := by
    have := (int_mark m.2.2 (by omega)).2
    show ¬ (laws_markIntS.g m.2.2 1).2 < 0
    omega
  simp only [Z1, Z3, Z5, Z7, Z9, Z11, Z13, Z15, Z17, Z19, Z21, Z23, Z24, Z22, Z20, Z18, Z16, Z14, Z12, Z10, Z8, Z6, Z4, Z2, Z0, lk_eq, laws_toMatrix.g, hP, he, laws_eqMatrix.g, laws_eqIntSS.g, h1, df hl, df hm, df h2, dt (rfl : m = _), dt (rfl : (spec_GreenSequences.g m).1 = _), dt (rfl : (laws_markIntSS.g (spec_GreenSequences.g m).1 1).2 = _), beq_self_eq_true]
  rfl⟩
end laws_FnExactGreenSequences
end
end Go.Fw
