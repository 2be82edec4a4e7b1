/- The plain part: what the functions compute, in lists and numbers. Nothing is assumed. -/
import Derived.Test.YtakkbbpdfmkbnaaFwb
import Derived.Test.YtakkbbpdfmkbnaaPuFnExactInitialSeeda
set_option linter.unusedVariables false
set_option linter.unusedSimpArgs false
set_option maxRecDepth 100000
namespace Go.Fw
noncomputable section
namespace impl_factors
def P (m : Int × Int × List Int) : Bool := shapedK m
abbrev g (m : Int × Int × List Int) : List Int := facK m
end impl_factors
namespace impl_factors
def Z1 {ρ : Type} (N : Nat) (m0 : Int × Int × List Int) (kn : Int → Int → List Int → Option ρ) : Option ρ :=
 kn m0.1 m0.2.1 m0.2.2
def Z3 {ρ : Type} (N : Nat) (m1_0 : Int) (m1_1 : Int) (m1_2 : List Int) (kn : List Int → List Int → Int → Int → List Int → Option ρ) : Option ρ :=
 both (
  cond (lk N (leB 0 m1_0 && decide (m1_0 < 1099511627776))) (
   cond (lk N (leB 0 m1_0 && decide (m1_0 < 1099511627776))) (
    kn (List.replicate m1_0.toNat (0 : Int)) (List.replicate m1_0.toNat (0 : Int)) m1_0 m1_1 m1_2) none) none)
 (
  cond (lk N (leB 0 m1_0 && decide (m1_0 < 1099511627776))) (
   cond (lk N (leB 0 m1_0 && decide (m1_0 < 1099511627776))) (
    kn (List.replicate m1_0.toNat (0 : Int)) (List.replicate m1_0.toNat (0 : Int)) m1_0 m1_1 m1_2) none) none)
def Z5 {ρ : Type} (N : Nat) (num3 : List Int) (den4 : List Int) (m1_0 : Int) (m1_1 : Int) (m1_2 : List Int) (kn : List Int → List Int → List Int → Int → Int → List Int → Option ρ) : Option ρ :=
 cond (lk N (leB 0 m1_0 && decide (m1_0 < 1099511627776))) (
  kn num3 den4 (List.replicate m1_0.toNat (0 : Int)) m1_0 m1_1 m1_2) none
def Z8 {ρ : Type} (N : Nat) (num3 : List Int) (den4 : List Int) (out5 : List Int) (m1_0 : Int) (m1_1 : Int) (m1_2 : List Int) (kn : List Int → List Int → List Int → Int → Int → Int → Int → List Int → Option ρ) : Option ρ :=
 kn num3 den4 out5 (num3.length : Int) 0 m1_0 m1_1 m1_2
def Z12 {ρ : Type} (N : Nat) (num3 : List Int) (den4 : List Int) (out5 : List Int) (t34 : Int) (t35 : Int) (m1_0 : Int) (m1_1 : Int) (m1_2 : List Int) (kn : List Int → List Int → List Int → Int → Int → Bool → Int → Int → List Int → Option ρ) : Option ρ :=
 kn num3 den4 out5 t34 t35 (lk N (decide (t35 < t34))) m1_0 m1_1 m1_2
def Z14 {ρ : Type} (N : Nat) (num3 : List Int) (den4 : List Int) (out5 : List Int) (t34 : Int) (t35 : Int) (t36 : Bool) (m1_0 : Int) (m1_1 : Int) (m1_2 : List Int) (kn : List Int → List Int → List Int → Int → Int → Int → Int → List Int → Option ρ) (k0 : List Int → Option ρ) : Option ρ :=
 cond (t36)
 (
  kn num3 den4 out5 t34 t35 m1_0 m1_1 m1_2)
 (
  k0 out5)
def Z18 {ρ : Type} (N : Nat) (num3 : List Int) (den4 : List Int) (out5 : List Int) (t34 : Int) (t35 : Int) (m1_0 : Int) (m1_1 : Int) (m1_2 : List Int) (kn : List Int → List Int → List Int → Int → Int → Int → Int → Int → List Int → Option ρ) : Option ρ :=
 kn num3 den4 out5 t35 t34 t35 m1_0 m1_1 m1_2
def Z20 {ρ : Type} (N : Nat) (num3 : List Int) (den4 : List Int) (out5 : List Int) (s6 : Int) (t34 : Int) (t35 : Int) (m1_0 : Int) (m1_1 : Int) (m1_2 : List Int) (kn : List Int → List Int → List Int → Int → Int → Int → Int → Int → List Int → Option ρ) (k1 : List Int → List Int → List Int → Int → Int → Int → Int → List Int → Option ρ) : Option ρ :=
 cond (lk N (inB s6 num3.length)) (
  cond (lk N (!(decide ((num3.getD s6.toNat 0) = 0))))
  (
   k1 num3 den4 out5 t34 t35 m1_0 m1_1 m1_2)
  (
   kn num3 den4 out5 s6 t34 t35 m1_0 m1_1 m1_2)) none
def Z22 {ρ : Type} (N : Nat) (num3 : List Int) (den4 : List Int) (out5 : List Int) (s6 : Int) (t34 : Int) (t35 : Int) (m1_0 : Int) (m1_1 : Int) (m1_2 : List Int) (kn : List Int → List Int → List Int → Int → Int → Int → Int → Int → List Int → Option ρ) : Option ρ :=
 cond (lk N (inB s6 num3.length)) (
  cond (lk N (inB s6 den4.length)) (
   kn (num3.set s6.toNat 1) (den4.set s6.toNat 1) out5 s6 t34 t35 m1_0 m1_1 m1_2) none) none
def Z24 {ρ : Type} (N : Nat) (num3 : List Int) (den4 : List Int) (out5 : List Int) (s6 : Int) (t34 : Int) (t35 : Int) (m1_0 : Int) (m1_1 : Int) (m1_2 : List Int) (kn : List Int → List Int → List Int → List Int → Int → Int → Int → Int → List Int → Option ρ) : Option ρ :=
 kn num3 den4 out5 ([s6] : List Int) t34 t35 m1_0 m1_1 m1_2
def Z27 {ρ : Type} (N : Nat) (num3 : List Int) (den4 : List Int) (out5 : List Int) (piece7 : List Int) (t34 : Int) (t35 : Int) (m1_0 : Int) (m1_1 : Int) (m1_2 : List Int) (kn : List Int → List Int → List Int → List Int → Int → Int → Int → Int → Int → List Int → Option ρ) : Option ρ :=
 kn num3 den4 out5 piece7 0 t34 t35 m1_0 m1_1 m1_2
def Z31 {ρ : Type} (N : Nat) (num3 : List Int) (den4 : List Int) (out5 : List Int) (piece7 : List Int) (at8 : Int) (t34 : Int) (t35 : Int) (m1_0 : Int) (m1_1 : Int) (m1_2 : List Int) (kn : List Int → List Int → List Int → List Int → Int → Int → Int → Int → Int → List Int → Option ρ) (k2 : List Int → List Int → List Int → List Int → Int → Int → Int → Int → List Int → Option ρ) : Option ρ :=
 cond (lk N (decide (at8 < (piece7.length : Int))))
 (
  kn num3 den4 out5 piece7 at8 t34 t35 m1_0 m1_1 m1_2)
 (
  k2 num3 den4 out5 piece7 t34 t35 m1_0 m1_1 m1_2)
def Z35 {ρ : Type} (N : Nat) (num3 : List Int) (den4 : List Int) (out5 : List Int) (piece7 : List Int) (at8 : Int) (t34 : Int) (t35 : Int) (m1_0 : Int) (m1_1 : Int) (m1_2 : List Int) (kn : List Int → List Int → List Int → List Int → Int → Int → Int → Int → Int → Int → List Int → Option ρ) : Option ρ :=
 cond (lk N (inB at8 piece7.length)) (
  kn num3 den4 out5 piece7 at8 (piece7.getD at8.toNat 0) t34 t35 m1_0 m1_1 m1_2) none
def Z37 {ρ : Type} (N : Nat) (num3 : List Int) (den4 : List Int) (out5 : List Int) (piece7 : List Int) (at8 : Int) (i9 : Int) (t34 : Int) (t35 : Int) (m1_0 : Int) (m1_1 : Int) (m1_2 : List Int) (kn : List Int → List Int → List Int → List Int → Int → Int → Int → Int → Int → Int → Int → Int → List Int → Option ρ) : Option ρ :=
 kn num3 den4 out5 piece7 at8 i9 t34 t35 (num3.length : Int) 0 m1_0 m1_1 m1_2
def Z41 {ρ : Type} (N : Nat) (num3 : List Int) (den4 : List Int) (out5 : List Int) (piece7 : List Int) (at8 : Int) (i9 : Int) (t34 : Int) (t35 : Int) (t62 : Int) (t63 : Int) (m1_0 : Int) (m1_1 : Int) (m1_2 : List Int) (kn : List Int → List Int → List Int → List Int → Int → Int → Int → Int → Int → Int → Bool → Int → Int → List Int → Option ρ) : Option ρ :=
 kn num3 den4 out5 piece7 at8 i9 t34 t35 t62 t63 (lk N (decide (t63 < t62))) m1_0 m1_1 m1_2
def Z43 {ρ : Type} (N : Nat) (num3 : List Int) (den4 : List Int) (out5 : List Int) (piece7 : List Int) (at8 : Int) (i9 : Int) (t34 : Int) (t35 : Int) (t62 : Int) (t63 : Int) (t64 : Bool) (m1_0 : Int) (m1_1 : Int) (m1_2 : List Int) (kn : List Int → List Int → List Int → List Int → Int → Int → Int → Int → Int → Int → Int → Int → List Int → Option ρ) (k4 : List Int → List Int → List Int → List Int → Int → Int → Int → Int → Int → List Int → Option ρ) : Option ρ :=
 cond (t64)
 (
  kn num3 den4 out5 piece7 at8 i9 t34 t35 t62 t63 m1_0 m1_1 m1_2)
 (
  k4 num3 den4 out5 piece7 at8 t34 t35 m1_0 m1_1 m1_2)
def Z47 {ρ : Type} (N : Nat) (num3 : List Int) (den4 : List Int) (out5 : List Int) (piece7 : List Int) (at8 : Int) (i9 : Int) (t34 : Int) (t35 : Int) (t62 : Int) (t63 : Int) (m1_0 : Int) (m1_1 : Int) (m1_2 : List Int) (kn : List Int → List Int → List Int → List Int → Int → Int → Int → Int → Int → Int → Int → Int → Int → List Int → Option ρ) : Option ρ :=
 kn num3 den4 out5 piece7 at8 i9 t63 t34 t35 t62 t63 m1_0 m1_1 m1_2
def Z49 {ρ : Type} (N : Nat) (num3 : List Int) (den4 : List Int) (out5 : List Int) (piece7 : List Int) (at8 : Int) (i9 : Int) (j10 : Int) (t34 : Int) (t35 : Int) (t62 : Int) (t63 : Int) (m1_0 : Int) (m1_1 : Int) (m1_2 : List Int) (kn : List Int → List Int → List Int → List Int → Int → Int → Int → Int → Int → Int → Int → Int → Int → Int → Int → List Int → Option ρ) : Option ρ :=
 cond (lk N (impl_Matrix_at.P (m1_0, (m1_1, m1_2)) i9 j10)) (
  cond (lk N (impl_Matrix_at.P (m1_0, (m1_1, m1_2)) j10 i9)) (
   kn num3 den4 out5 piece7 at8 i9 j10 (impl_Matrix_at.g (m1_0, (m1_1, m1_2)) i9 j10) (w64 (0 - (impl_Matrix_at.g (m1_0, (m1_1, m1_2)) j10 i9))) t34 t35 t62 t63 m1_0 m1_1 m1_2) none) none
def Z51 {ρ : Type} (N : Nat) (num3 : List Int) (den4 : List Int) (out5 : List Int) (piece7 : List Int) (at8 : Int) (i9 : Int) (j10 : Int) (p11 : Int) (q12 : Int) (t34 : Int) (t35 : Int) (t62 : Int) (t63 : Int) (m1_0 : Int) (m1_1 : Int) (m1_2 : List Int) (kn : List Int → List Int → List Int → List Int → Int → Int → Int → Int → Int → Int → Int → Int → Int → Int → Int → List Int → Option ρ) (k5 : List Int → List Int → List Int → List Int → Int → Int → Int → Int → Int → Int → Int → Int → List Int → Option ρ) : Option ρ :=
 cond (lk N (decide (p11 = 0)))
 (
  cond (lk N (decide (q12 = 0)))
  (
   k5 num3 den4 out5 piece7 at8 i9 t34 t35 t62 t63 m1_0 m1_1 m1_2)
  (
   kn num3 den4 out5 piece7 at8 i9 j10 p11 q12 t34 t35 t62 t63 m1_0 m1_1 m1_2))
 (
  kn num3 den4 out5 piece7 at8 i9 j10 p11 q12 t34 t35 t62 t63 m1_0 m1_1 m1_2)
def Z52 {ρ : Type} (N : Nat) (num3 : List Int) (den4 : List Int) (out5 : List Int) (piece7 : List Int) (at8 : Int) (i9 : Int) (j10 : Int) (p11 : Int) (q12 : Int) (t34 : Int) (t35 : Int) (t62 : Int) (t63 : Int) (m1_0 : Int) (m1_1 : Int) (m1_2 : List Int) (kn : List Int → List Int → List Int → List Int → Int → Int → Int → Int → Int → Int → Int → Int → List Int → Option ρ) (kr : List Int → Option ρ) : Option ρ :=
 cond (lk N (decide (p11 = 0)))
 (
  kr ([] : List Int))
 (
  cond (lk N (decide (q12 = 0)))
  (
   kr ([] : List Int))
  (
   cond (lk N (!(((lk N (decide (0 < p11))) == (lk N (decide (0 < q12)))))))
   (
    kr ([] : List Int))
   (
    cond (lk N (decide (i9 = j10)))
    (
     kr ([] : List Int))
    (
     cond (lk N (inB i9 num3.length)) (
      cond (lk N (inB i9 den4.length)) (
       cond (lk N (impl_gcd.P (w64 ((num3.getD i9.toNat 0) * (mx p11 (w64 (0 - p11))))) (w64 ((den4.getD i9.toNat 0) * (mx q12 (w64 (0 - q12))))))) (
        cond (lk N (!(decide ((impl_gcd.g (w64 ((num3.getD i9.toNat 0) * (mx p11 (w64 (0 - p11))))) (w64 ((den4.getD i9.toNat 0) * (mx q12 (w64 (0 - q12)))))) = 0)))) (
         cond (lk N (!(decide ((impl_gcd.g (w64 ((num3.getD i9.toNat 0) * (mx p11 (w64 (0 - p11))))) (w64 ((den4.getD i9.toNat 0) * (mx q12 (w64 (0 - q12)))))) = 0)))) (
          cond (lk N (inB j10 num3.length)) (
           cond (lk N (decide ((num3.getD j10.toNat 0) = 0)))
           (
            cond (lk N (inB j10 num3.length)) (
             cond (lk N (inB j10 den4.length)) (
              cond (lk N (Nat.blt (piece7.length + ([j10] : List Int).length) 1099511627776)) (
               kn (num3.set j10.toNat (w64 (Int.tdiv (w64 ((num3.getD i9.toNat 0) * (mx p11 (w64 (0 - p11))))) (impl_gcd.g (w64 ((num3.getD i9.toNat 0) * (mx p11 (w64 (0 - p11))))) (w64 ((den4.getD i9.toNat 0) * (mx q12 (w64 (0 - q12))))))))) (den4.set j10.toNat (w64 (Int.tdiv (w64 ((den4.getD i9.toNat 0) * (mx q12 (w64 (0 - q12))))) (impl_gcd.g (w64 ((num3.getD i9.toNat 0) * (mx p11 (w64 (0 - p11))))) (w64 ((den4.getD i9.toNat 0) * (mx q12 (w64 (0 - q12))))))))) out5 (piece7 ++ ([j10] : List Int)) at8 i9 t34 t35 t62 t63 m1_0 m1_1 m1_2) none) none) none)
           (
            cond (lk N (inB j10 num3.length)) (
             cond (lk N (!(decide ((num3.getD j10.toNat 0) = (w64 (Int.tdiv (w64 ((num3.getD i9.toNat 0) * (mx p11 (w64 (0 - p11))))) (impl_gcd.g (w64 ((num3.getD i9.toNat 0) * (mx p11 (w64 (0 - p11))))) (w64 ((den4.getD i9.toNat 0) * (mx q12 (w64 (0 - q12))))))))))))
             (
              kr ([] : List Int))
             (
              cond (lk N (inB j10 den4.length)) (
               cond (lk N (!(decide ((den4.getD j10.toNat 0) = (w64 (Int.tdiv (w64 ((den4.getD i9.toNat 0) * (mx q12 (w64 (0 - q12))))) (impl_gcd.g (w64 ((num3.getD i9.toNat 0) * (mx p11 (w64 (0 - p11))))) (w64 ((den4.getD i9.toNat 0) * (mx q12 (w64 (0 - q12))))))))))))
               (
                kr ([] : List Int))
               (
                kn num3 den4 out5 piece7 at8 i9 t34 t35 t62 t63 m1_0 m1_1 m1_2)) none)) none)) none) none) none) none) none) none))))
def Z50 {ρ : Type} (N : Nat) (num3 : List Int) (den4 : List Int) (out5 : List Int) (piece7 : List Int) (at8 : Int) (i9 : Int) (j10 : Int) (p11 : Int) (q12 : Int) (t34 : Int) (t35 : Int) (t62 : Int) (t63 : Int) (m1_0 : Int) (m1_1 : Int) (m1_2 : List Int) (kn : List Int → List Int → List Int → List Int → Int → Int → Int → Int → Int → Int → Int → Int → List Int → Option ρ) (k5 : List Int → List Int → List Int → List Int → Int → Int → Int → Int → Int → Int → Int → Int → List Int → Option ρ) (kr : List Int → Option ρ) : Option ρ := Z51 N num3 den4 out5 piece7 at8 i9 j10 p11 q12 t34 t35 t62 t63 m1_0 m1_1 m1_2 (fun num3 den4 out5 piece7 at8 i9 j10 p11 q12 t34 t35 t62 t63 m1_0 m1_1 m1_2 => Z52 N num3 den4 out5 piece7 at8 i9 j10 p11 q12 t34 t35 t62 t63 m1_0 m1_1 m1_2 kn kr) k5
def Z48 {ρ : Type} (N : Nat) (num3 : List Int) (den4 : List Int) (out5 : List Int) (piece7 : List Int) (at8 : Int) (i9 : Int) (j10 : Int) (t34 : Int) (t35 : Int) (t62 : Int) (t63 : Int) (m1_0 : Int) (m1_1 : Int) (m1_2 : List Int) (kn : List Int → List Int → List Int → List Int → Int → Int → Int → Int → Int → Int → Int → Int → List Int → Option ρ) (k5 : List Int → List Int → List Int → List Int → Int → Int → Int → Int → Int → Int → Int → Int → List Int → Option ρ) (kr : List Int → Option ρ) : Option ρ := Z49 N num3 den4 out5 piece7 at8 i9 j10 t34 t35 t62 t63 m1_0 m1_1 m1_2 (fun num3 den4 out5 piece7 at8 i9 j10 p11 q12 t34 t35 t62 t63 m1_0 m1_1 m1_2 => Z50 N num3 den4 out5 piece7 at8 i9 j10 p11 q12 t34 t35 t62 t63 m1_0 m1_1 m1_2 kn k5 kr)
def Z46 {ρ : Type} (N : Nat) (num3 : List Int) (den4 : List Int) (out5 : List Int) (piece7 : List Int) (at8 : Int) (i9 : Int) (t34 : Int) (t35 : Int) (t62 : Int) (t63 : Int) (m1_0 : Int) (m1_1 : Int) (m1_2 : List Int) (kn : List Int → List Int → List Int → List Int → Int → Int → Int → Int → Int → Int → Int → Int → List Int → Option ρ) (k5 : List Int → List Int → List Int → List Int → Int → Int → Int → Int → Int → Int → Int → Int → List Int → Option ρ) (kr : List Int → Option ρ) : Option ρ := Z47 N num3 den4 out5 piece7 at8 i9 t34 t35 t62 t63 m1_0 m1_1 m1_2 (fun num3 den4 out5 piece7 at8 i9 j10 t34 t35 t62 t63 m1_0 m1_1 m1_2 => Z48 N num3 den4 out5 piece7 at8 i9 j10 t34 t35 t62 t63 m1_0 m1_1 m1_2 kn k5 kr)
def Z45 {ρ : Type} (N : Nat) (num3 : List Int) (den4 : List Int) (out5 : List Int) (piece7 : List Int) (at8 : Int) (i9 : Int) (t34 : Int) (t35 : Int) (t62 : Int) (t63 : Int) (m1_0 : Int) (m1_1 : Int) (m1_2 : List Int) (kn : List Int → List Int → List Int → List Int → Int → Int → Int → Int → Int → Int → Int → Int → List Int → Option ρ) (kr : List Int → Option ρ) : Option ρ := Z46 N num3 den4 out5 piece7 at8 i9 t34 t35 t62 t63 m1_0 m1_1 m1_2 kn kn kr
def Z53 {ρ : Type} (N : Nat) (num3 : List Int) (den4 : List Int) (out5 : List Int) (piece7 : List Int) (at8 : Int) (i9 : Int) (t34 : Int) (t35 : Int) (t62 : Int) (t63 : Int) (m1_0 : Int) (m1_1 : Int) (m1_2 : List Int) (kn : List Int → List Int → List Int → List Int → Int → Int → Int → Int → Int → Int → Int → Int → List Int → Option ρ) : Option ρ :=
 kn num3 den4 out5 piece7 at8 i9 t34 t35 t62 (w64 (t63 + 1)) m1_0 m1_1 m1_2
def Z44 {ρ : Type} (N : Nat) (num3 : List Int) (den4 : List Int) (out5 : List Int) (piece7 : List Int) (at8 : Int) (i9 : Int) (t34 : Int) (t35 : Int) (t62 : Int) (t63 : Int) (m1_0 : Int) (m1_1 : Int) (m1_2 : List Int) (kn : List Int → List Int → List Int → List Int → Int → Int → Int → Int → Int → Int → Int → Int → List Int → Option ρ) (kr : List Int → Option ρ) : Option ρ := Z45 N num3 den4 out5 piece7 at8 i9 t34 t35 t62 t63 m1_0 m1_1 m1_2 (fun num3 den4 out5 piece7 at8 i9 t34 t35 t62 t63 m1_0 m1_1 m1_2 => Z53 N num3 den4 out5 piece7 at8 i9 t34 t35 t62 t63 m1_0 m1_1 m1_2 kn) kr
def Z42 {ρ : Type} (N : Nat) (num3 : List Int) (den4 : List Int) (out5 : List Int) (piece7 : List Int) (at8 : Int) (i9 : Int) (t34 : Int) (t35 : Int) (t62 : Int) (t63 : Int) (t64 : Bool) (m1_0 : Int) (m1_1 : Int) (m1_2 : List Int) (kn : List Int → List Int → List Int → List Int → Int → Int → Int → Int → Int → Int → Int → Int → List Int → Option ρ) (k4 : List Int → List Int → List Int → List Int → Int → Int → Int → Int → Int → List Int → Option ρ) (kr : List Int → Option ρ) : Option ρ := Z43 N num3 den4 out5 piece7 at8 i9 t34 t35 t62 t63 t64 m1_0 m1_1 m1_2 (fun num3 den4 out5 piece7 at8 i9 t34 t35 t62 t63 m1_0 m1_1 m1_2 => Z44 N num3 den4 out5 piece7 at8 i9 t34 t35 t62 t63 m1_0 m1_1 m1_2 kn kr) k4
def Z40 {ρ : Type} (N : Nat) (num3 : List Int) (den4 : List Int) (out5 : List Int) (piece7 : List Int) (at8 : Int) (i9 : Int) (t34 : Int) (t35 : Int) (t62 : Int) (t63 : Int) (m1_0 : Int) (m1_1 : Int) (m1_2 : List Int) (kn : List Int → List Int → List Int → List Int → Int → Int → Int → Int → Int → Int → Int → Int → List Int → Option ρ) (k4 : List Int → List Int → List Int → List Int → Int → Int → Int → Int → Int → List Int → Option ρ) (kr : List Int → Option ρ) : Option ρ := Z41 N num3 den4 out5 piece7 at8 i9 t34 t35 t62 t63 m1_0 m1_1 m1_2 (fun num3 den4 out5 piece7 at8 i9 t34 t35 t62 t63 t64 m1_0 m1_1 m1_2 => Z42 N num3 den4 out5 piece7 at8 i9 t34 t35 t62 t63 t64 m1_0 m1_1 m1_2 kn k4 kr)
def Z39L {ρ : Type} (N : Nat) (k4 : List Int → List Int → List Int → List Int → Int → Int → Int → Int → Int → List Int → Option ρ) (kr : List Int → Option ρ) : Nat → List Int → List Int → List Int → List Int → Int → Int → Int → Int → Int → Int → Int → Int → List Int → Option ρ
  | 0, _, _, _, _, _, _, _, _, _, _, _, _, _ => none
  | M + 1, num3, den4, out5, piece7, at8, i9, t34, t35, t62, t63, m1_0, m1_1, m1_2 => Z40 N num3 den4 out5 piece7 at8 i9 t34 t35 t62 t63 m1_0 m1_1 m1_2 (fun num3 den4 out5 piece7 at8 i9 t34 t35 t62 t63 m1_0 m1_1 m1_2 => Z39L N k4 kr M num3 den4 out5 piece7 at8 i9 t34 t35 t62 t63 m1_0 m1_1 m1_2) k4 kr
def Z39 {ρ : Type} (N : Nat) (num3 : List Int) (den4 : List Int) (out5 : List Int) (piece7 : List Int) (at8 : Int) (i9 : Int) (t34 : Int) (t35 : Int) (t62 : Int) (t63 : Int) (m1_0 : Int) (m1_1 : Int) (m1_2 : List Int) (k4 : List Int → List Int → List Int → List Int → Int → Int → Int → Int → Int → List Int → Option ρ) (kr : List Int → Option ρ) : Option ρ := Z39L N k4 kr N num3 den4 out5 piece7 at8 i9 t34 t35 t62 t63 m1_0 m1_1 m1_2
def Z38 {ρ : Type} (N : Nat) (num3 : List Int) (den4 : List Int) (out5 : List Int) (piece7 : List Int) (at8 : Int) (i9 : Int) (t34 : Int) (t35 : Int) (t62 : Int) (t63 : Int) (m1_0 : Int) (m1_1 : Int) (m1_2 : List Int) (kn : List Int → List Int → List Int → List Int → Int → Int → Int → Int → Int → List Int → Option ρ) (kr : List Int → Option ρ) : Option ρ := Z39 N num3 den4 out5 piece7 at8 i9 t34 t35 t62 t63 m1_0 m1_1 m1_2 kn kr
def Z36 {ρ : Type} (N : Nat) (num3 : List Int) (den4 : List Int) (out5 : List Int) (piece7 : List Int) (at8 : Int) (i9 : Int) (t34 : Int) (t35 : Int) (m1_0 : Int) (m1_1 : Int) (m1_2 : List Int) (kn : List Int → List Int → List Int → List Int → Int → Int → Int → Int → Int → List Int → Option ρ) (kr : List Int → Option ρ) : Option ρ := Z37 N num3 den4 out5 piece7 at8 i9 t34 t35 m1_0 m1_1 m1_2 (fun num3 den4 out5 piece7 at8 i9 t34 t35 t62 t63 m1_0 m1_1 m1_2 => Z38 N num3 den4 out5 piece7 at8 i9 t34 t35 t62 t63 m1_0 m1_1 m1_2 kn kr)
def Z34 {ρ : Type} (N : Nat) (num3 : List Int) (den4 : List Int) (out5 : List Int) (piece7 : List Int) (at8 : Int) (t34 : Int) (t35 : Int) (m1_0 : Int) (m1_1 : Int) (m1_2 : List Int) (kn : List Int → List Int → List Int → List Int → Int → Int → Int → Int → Int → List Int → Option ρ) (kr : List Int → Option ρ) : Option ρ := Z35 N num3 den4 out5 piece7 at8 t34 t35 m1_0 m1_1 m1_2 (fun num3 den4 out5 piece7 at8 i9 t34 t35 m1_0 m1_1 m1_2 => Z36 N num3 den4 out5 piece7 at8 i9 t34 t35 m1_0 m1_1 m1_2 kn kr)
def Z33 {ρ : Type} (N : Nat) (num3 : List Int) (den4 : List Int) (out5 : List Int) (piece7 : List Int) (at8 : Int) (t34 : Int) (t35 : Int) (m1_0 : Int) (m1_1 : Int) (m1_2 : List Int) (kn : List Int → List Int → List Int → List Int → Int → Int → Int → Int → Int → List Int → Option ρ) (kr : List Int → Option ρ) : Option ρ := Z34 N num3 den4 out5 piece7 at8 t34 t35 m1_0 m1_1 m1_2 kn kr
def Z54 {ρ : Type} (N : Nat) (num3 : List Int) (den4 : List Int) (out5 : List Int) (piece7 : List Int) (at8 : Int) (t34 : Int) (t35 : Int) (m1_0 : Int) (m1_1 : Int) (m1_2 : List Int) (kn : List Int → List Int → List Int → List Int → Int → Int → Int → Int → Int → List Int → Option ρ) : Option ρ :=
 kn num3 den4 out5 piece7 (w64 (at8 + 1)) t34 t35 m1_0 m1_1 m1_2
def Z32 {ρ : Type} (N : Nat) (num3 : List Int) (den4 : List Int) (out5 : List Int) (piece7 : List Int) (at8 : Int) (t34 : Int) (t35 : Int) (m1_0 : Int) (m1_1 : Int) (m1_2 : List Int) (kn : List Int → List Int → List Int → List Int → Int → Int → Int → Int → Int → List Int → Option ρ) (kr : List Int → Option ρ) : Option ρ := Z33 N num3 den4 out5 piece7 at8 t34 t35 m1_0 m1_1 m1_2 (fun num3 den4 out5 piece7 at8 t34 t35 m1_0 m1_1 m1_2 => Z54 N num3 den4 out5 piece7 at8 t34 t35 m1_0 m1_1 m1_2 kn) kr
def Z30 {ρ : Type} (N : Nat) (num3 : List Int) (den4 : List Int) (out5 : List Int) (piece7 : List Int) (at8 : Int) (t34 : Int) (t35 : Int) (m1_0 : Int) (m1_1 : Int) (m1_2 : List Int) (kn : List Int → List Int → List Int → List Int → Int → Int → Int → Int → Int → List Int → Option ρ) (k2 : List Int → List Int → List Int → List Int → Int → Int → Int → Int → List Int → Option ρ) (kr : List Int → Option ρ) : Option ρ := Z31 N num3 den4 out5 piece7 at8 t34 t35 m1_0 m1_1 m1_2 (fun num3 den4 out5 piece7 at8 t34 t35 m1_0 m1_1 m1_2 => Z32 N num3 den4 out5 piece7 at8 t34 t35 m1_0 m1_1 m1_2 kn kr) k2
def Z29L {ρ : Type} (N : Nat) (k2 : List Int → List Int → List Int → List Int → Int → Int → Int → Int → List Int → Option ρ) (kr : List Int → Option ρ) : Nat → List Int → List Int → List Int → List Int → Int → Int → Int → Int → Int → List Int → Option ρ
  | 0, _, _, _, _, _, _, _, _, _, _ => none
  | M + 1, num3, den4, out5, piece7, at8, t34, t35, m1_0, m1_1, m1_2 => Z30 N num3 den4 out5 piece7 at8 t34 t35 m1_0 m1_1 m1_2 (fun num3 den4 out5 piece7 at8 t34 t35 m1_0 m1_1 m1_2 => Z29L N k2 kr M num3 den4 out5 piece7 at8 t34 t35 m1_0 m1_1 m1_2) k2 kr
def Z29 {ρ : Type} (N : Nat) (num3 : List Int) (den4 : List Int) (out5 : List Int) (piece7 : List Int) (at8 : Int) (t34 : Int) (t35 : Int) (m1_0 : Int) (m1_1 : Int) (m1_2 : List Int) (k2 : List Int → List Int → List Int → List Int → Int → Int → Int → Int → List Int → Option ρ) (kr : List Int → Option ρ) : Option ρ := Z29L N k2 kr N num3 den4 out5 piece7 at8 t34 t35 m1_0 m1_1 m1_2
def Z28 {ρ : Type} (N : Nat) (num3 : List Int) (den4 : List Int) (out5 : List Int) (piece7 : List Int) (at8 : Int) (t34 : Int) (t35 : Int) (m1_0 : Int) (m1_1 : Int) (m1_2 : List Int) (kn : List Int → List Int → List Int → List Int → Int → Int → Int → Int → List Int → Option ρ) (kr : List Int → Option ρ) : Option ρ := Z29 N num3 den4 out5 piece7 at8 t34 t35 m1_0 m1_1 m1_2 kn kr
def Z26 {ρ : Type} (N : Nat) (num3 : List Int) (den4 : List Int) (out5 : List Int) (piece7 : List Int) (t34 : Int) (t35 : Int) (m1_0 : Int) (m1_1 : Int) (m1_2 : List Int) (kn : List Int → List Int → List Int → List Int → Int → Int → Int → Int → List Int → Option ρ) (kr : List Int → Option ρ) : Option ρ := Z27 N num3 den4 out5 piece7 t34 t35 m1_0 m1_1 m1_2 (fun num3 den4 out5 piece7 at8 t34 t35 m1_0 m1_1 m1_2 => Z28 N num3 den4 out5 piece7 at8 t34 t35 m1_0 m1_1 m1_2 kn kr)
def Z56 {ρ : Type} (N : Nat) (num3 : List Int) (den4 : List Int) (out5 : List Int) (piece7 : List Int) (t34 : Int) (t35 : Int) (m1_0 : Int) (m1_1 : Int) (m1_2 : List Int) (kn : List Int → List Int → List Int → List Int → Int → Int → Int → Int → Int → List Int → Option ρ) : Option ρ :=
 kn num3 den4 out5 piece7 1 t34 t35 m1_0 m1_1 m1_2
def Z59 {ρ : Type} (N : Nat) (num3 : List Int) (den4 : List Int) (out5 : List Int) (piece7 : List Int) (common16 : Int) (t34 : Int) (t35 : Int) (m1_0 : Int) (m1_1 : Int) (m1_2 : List Int) (kn : List Int → List Int → List Int → List Int → Int → Int → Int → Int → Int → Int → Int → List Int → Option ρ) : Option ρ :=
 kn num3 den4 out5 piece7 common16 t34 t35 (piece7.length : Int) 0 m1_0 m1_1 m1_2
def Z62 {ρ : Type} (N : Nat) (num3 : List Int) (den4 : List Int) (out5 : List Int) (piece7 : List Int) (common16 : Int) (t34 : Int) (t35 : Int) (t159 : Int) (t160 : Int) (m1_0 : Int) (m1_1 : Int) (m1_2 : List Int) (kn : List Int → List Int → List Int → List Int → Int → Int → Int → Int → Int → Int → Int → List Int → Option ρ) (k6 : List Int → List Int → List Int → List Int → Int → Int → Int → Int → Int → List Int → Option ρ) : Option ρ :=
 cond (lk N (decide (t160 < t159)))
 (
  cond (lk N (inB t160 piece7.length)) (
   cond (lk N (inB (piece7.getD t160.toNat 0) den4.length)) (
    cond (lk N (inB (piece7.getD t160.toNat 0) den4.length)) (
     cond (lk N (impl_gcd.P common16 (den4.getD (piece7.getD t160.toNat 0).toNat 0))) (
      cond (lk N (!(decide ((impl_gcd.g common16 (den4.getD (piece7.getD t160.toNat 0).toNat 0)) = 0)))) (
       kn num3 den4 out5 piece7 (w64 ((w64 (Int.tdiv common16 (impl_gcd.g common16 (den4.getD (piece7.getD t160.toNat 0).toNat 0)))) * (den4.getD (piece7.getD t160.toNat 0).toNat 0))) t34 t35 t159 (w64 (t160 + 1)) m1_0 m1_1 m1_2) none) none) none) none) none)
 (
  k6 num3 den4 out5 piece7 common16 t34 t35 m1_0 m1_1 m1_2)
def Z61L {ρ : Type} (N : Nat) (k6 : List Int → List Int → List Int → List Int → Int → Int → Int → Int → Int → List Int → Option ρ) : Nat → List Int → List Int → List Int → List Int → Int → Int → Int → Int → Int → Int → Int → List Int → Option ρ
  | 0, _, _, _, _, _, _, _, _, _, _, _, _ => none
  | M + 1, num3, den4, out5, piece7, common16, t34, t35, t159, t160, m1_0, m1_1, m1_2 => Z62 N num3 den4 out5 piece7 common16 t34 t35 t159 t160 m1_0 m1_1 m1_2 (fun num3 den4 out5 piece7 common16 t34 t35 t159 t160 m1_0 m1_1 m1_2 => Z61L N k6 M num3 den4 out5 piece7 common16 t34 t35 t159 t160 m1_0 m1_1 m1_2) k6
def Z61 {ρ : Type} (N : Nat) (num3 : List Int) (den4 : List Int) (out5 : List Int) (piece7 : List Int) (common16 : Int) (t34 : Int) (t35 : Int) (t159 : Int) (t160 : Int) (m1_0 : Int) (m1_1 : Int) (m1_2 : List Int) (k6 : List Int → List Int → List Int → List Int → Int → Int → Int → Int → Int → List Int → Option ρ) : Option ρ := Z61L N k6 N num3 den4 out5 piece7 common16 t34 t35 t159 t160 m1_0 m1_1 m1_2
def Z60 {ρ : Type} (N : Nat) (num3 : List Int) (den4 : List Int) (out5 : List Int) (piece7 : List Int) (common16 : Int) (t34 : Int) (t35 : Int) (t159 : Int) (t160 : Int) (m1_0 : Int) (m1_1 : Int) (m1_2 : List Int) (kn : List Int → List Int → List Int → List Int → Int → Int → Int → Int → Int → List Int → Option ρ) : Option ρ := Z61 N num3 den4 out5 piece7 common16 t34 t35 t159 t160 m1_0 m1_1 m1_2 kn
def Z58 {ρ : Type} (N : Nat) (num3 : List Int) (den4 : List Int) (out5 : List Int) (piece7 : List Int) (common16 : Int) (t34 : Int) (t35 : Int) (m1_0 : Int) (m1_1 : Int) (m1_2 : List Int) (kn : List Int → List Int → List Int → List Int → Int → Int → Int → Int → Int → List Int → Option ρ) : Option ρ := Z59 N num3 den4 out5 piece7 common16 t34 t35 m1_0 m1_1 m1_2 (fun num3 den4 out5 piece7 common16 t34 t35 t159 t160 m1_0 m1_1 m1_2 => Z60 N num3 den4 out5 piece7 common16 t34 t35 t159 t160 m1_0 m1_1 m1_2 kn)
def Z64 {ρ : Type} (N : Nat) (num3 : List Int) (den4 : List Int) (out5 : List Int) (piece7 : List Int) (common16 : Int) (t34 : Int) (t35 : Int) (m1_0 : Int) (m1_1 : Int) (m1_2 : List Int) (kn : List Int → List Int → List Int → List Int → Int → Int → Int → Int → Int → Int → List Int → Option ρ) : Option ρ :=
 kn num3 den4 out5 piece7 common16 0 t34 t35 m1_0 m1_1 m1_2
def Z67 {ρ : Type} (N : Nat) (num3 : List Int) (den4 : List Int) (out5 : List Int) (piece7 : List Int) (common16 : Int) (g19 : Int) (t34 : Int) (t35 : Int) (m1_0 : Int) (m1_1 : Int) (m1_2 : List Int) (kn : List Int → List Int → List Int → List Int → Int → Int → Int → Int → Int → Int → Int → Int → List Int → Option ρ) : Option ρ :=
 kn num3 den4 out5 piece7 common16 g19 t34 t35 (piece7.length : Int) 0 m1_0 m1_1 m1_2
def Z70 {ρ : Type} (N : Nat) (num3 : List Int) (den4 : List Int) (out5 : List Int) (piece7 : List Int) (common16 : Int) (g19 : Int) (t34 : Int) (t35 : Int) (t179 : Int) (t180 : Int) (m1_0 : Int) (m1_1 : Int) (m1_2 : List Int) (kn : List Int → List Int → List Int → List Int → Int → Int → Int → Int → Int → Int → Int → Int → List Int → Option ρ) (k8 : List Int → List Int → List Int → List Int → Int → Int → Int → Int → Int → List Int → Option ρ) : Option ρ :=
 cond (lk N (decide (t180 < t179)))
 (
  cond (lk N (inB t180 piece7.length)) (
   cond (lk N (inB (piece7.getD t180.toNat 0) den4.length)) (
    cond (lk N (!(decide ((den4.getD (piece7.getD t180.toNat 0).toNat 0) = 0)))) (
     cond (lk N (inB (piece7.getD t180.toNat 0) num3.length)) (
      cond (lk N (inB (piece7.getD t180.toNat 0) out5.length)) (
       cond (lk N (inB (piece7.getD t180.toNat 0) (out5.set (piece7.getD t180.toNat 0).toNat (w64 ((w64 (Int.tdiv common16 (den4.getD (piece7.getD t180.toNat 0).toNat 0))) * (num3.getD (piece7.getD t180.toNat 0).toNat 0)))).length)) (
        cond (lk N (impl_gcd.P g19 ((out5.set (piece7.getD t180.toNat 0).toNat (w64 ((w64 (Int.tdiv common16 (den4.getD (piece7.getD t180.toNat 0).toNat 0))) * (num3.getD (piece7.getD t180.toNat 0).toNat 0)))).getD (piece7.getD t180.toNat 0).toNat 0))) (
         kn num3 den4 (out5.set (piece7.getD t180.toNat 0).toNat (w64 ((w64 (Int.tdiv common16 (den4.getD (piece7.getD t180.toNat 0).toNat 0))) * (num3.getD (piece7.getD t180.toNat 0).toNat 0)))) piece7 common16 (impl_gcd.g g19 ((out5.set (piece7.getD t180.toNat 0).toNat (w64 ((w64 (Int.tdiv common16 (den4.getD (piece7.getD t180.toNat 0).toNat 0))) * (num3.getD (piece7.getD t180.toNat 0).toNat 0)))).getD (piece7.getD t180.toNat 0).toNat 0)) t34 t35 t179 (w64 (t180 + 1)) m1_0 m1_1 m1_2) none) none) none) none) none) none) none)
 (
  k8 num3 den4 out5 piece7 g19 t34 t35 m1_0 m1_1 m1_2)
def Z69L {ρ : Type} (N : Nat) (k8 : List Int → List Int → List Int → List Int → Int → Int → Int → Int → Int → List Int → Option ρ) : Nat → List Int → List Int → List Int → List Int → Int → Int → Int → Int → Int → Int → Int → Int → List Int → Option ρ
  | 0, _, _, _, _, _, _, _, _, _, _, _, _, _ => none
  | M + 1, num3, den4, out5, piece7, common16, g19, t34, t35, t179, t180, m1_0, m1_1, m1_2 => Z70 N num3 den4 out5 piece7 common16 g19 t34 t35 t179 t180 m1_0 m1_1 m1_2 (fun num3 den4 out5 piece7 common16 g19 t34 t35 t179 t180 m1_0 m1_1 m1_2 => Z69L N k8 M num3 den4 out5 piece7 common16 g19 t34 t35 t179 t180 m1_0 m1_1 m1_2) k8
def Z69 {ρ : Type} (N : Nat) (num3 : List Int) (den4 : List Int) (out5 : List Int) (piece7 : List Int) (common16 : Int) (g19 : Int) (t34 : Int) (t35 : Int) (t179 : Int) (t180 : Int) (m1_0 : Int) (m1_1 : Int) (m1_2 : List Int) (k8 : List Int → List Int → List Int → List Int → Int → Int → Int → Int → Int → List Int → Option ρ) : Option ρ := Z69L N k8 N num3 den4 out5 piece7 common16 g19 t34 t35 t179 t180 m1_0 m1_1 m1_2
def Z68 {ρ : Type} (N : Nat) (num3 : List Int) (den4 : List Int) (out5 : List Int) (piece7 : List Int) (common16 : Int) (g19 : Int) (t34 : Int) (t35 : Int) (t179 : Int) (t180 : Int) (m1_0 : Int) (m1_1 : Int) (m1_2 : List Int) (kn : List Int → List Int → List Int → List Int → Int → Int → Int → Int → Int → List Int → Option ρ) : Option ρ := Z69 N num3 den4 out5 piece7 common16 g19 t34 t35 t179 t180 m1_0 m1_1 m1_2 kn
def Z66 {ρ : Type} (N : Nat) (num3 : List Int) (den4 : List Int) (out5 : List Int) (piece7 : List Int) (common16 : Int) (g19 : Int) (t34 : Int) (t35 : Int) (m1_0 : Int) (m1_1 : Int) (m1_2 : List Int) (kn : List Int → List Int → List Int → List Int → Int → Int → Int → Int → Int → List Int → Option ρ) : Option ρ := Z67 N num3 den4 out5 piece7 common16 g19 t34 t35 m1_0 m1_1 m1_2 (fun num3 den4 out5 piece7 common16 g19 t34 t35 t179 t180 m1_0 m1_1 m1_2 => Z68 N num3 den4 out5 piece7 common16 g19 t34 t35 t179 t180 m1_0 m1_1 m1_2 kn)
def Z72 {ρ : Type} (N : Nat) (num3 : List Int) (den4 : List Int) (out5 : List Int) (piece7 : List Int) (g19 : Int) (t34 : Int) (t35 : Int) (m1_0 : Int) (m1_1 : Int) (m1_2 : List Int) (kn : List Int → List Int → List Int → List Int → Int → Int → Int → Int → Int → Int → Int → List Int → Option ρ) : Option ρ :=
 kn num3 den4 out5 piece7 g19 t34 t35 (piece7.length : Int) 0 m1_0 m1_1 m1_2
def Z75 {ρ : Type} (N : Nat) (num3 : List Int) (den4 : List Int) (out5 : List Int) (t205 : List Int) (g19 : Int) (t34 : Int) (t35 : Int) (t206 : Int) (t207 : Int) (m1_0 : Int) (m1_1 : Int) (m1_2 : List Int) (kn : List Int → List Int → List Int → List Int → Int → Int → Int → Int → Int → Int → Int → List Int → Option ρ) (k10 : List Int → List Int → List Int → Int → Int → Int → Int → List Int → Option ρ) : Option ρ :=
 cond (lk N (decide (t207 < t206)))
 (
  cond (lk N (inB t207 t205.length)) (
   cond (lk N (inB (t205.getD t207.toNat 0) out5.length)) (
    cond (lk N (!(decide (g19 = 0)))) (
     cond (lk N (inB (t205.getD t207.toNat 0) out5.length)) (
      kn num3 den4 (out5.set (t205.getD t207.toNat 0).toNat (w64 (Int.tdiv (out5.getD (t205.getD t207.toNat 0).toNat 0) g19))) t205 g19 t34 t35 t206 (w64 (t207 + 1)) m1_0 m1_1 m1_2) none) none) none) none)
 (
  k10 num3 den4 out5 t34 t35 m1_0 m1_1 m1_2)
def Z74L {ρ : Type} (N : Nat) (k10 : List Int → List Int → List Int → Int → Int → Int → Int → List Int → Option ρ) : Nat → List Int → List Int → List Int → List Int → Int → Int → Int → Int → Int → Int → Int → List Int → Option ρ
  | 0, _, _, _, _, _, _, _, _, _, _, _, _ => none
  | M + 1, num3, den4, out5, t205, g19, t34, t35, t206, t207, m1_0, m1_1, m1_2 => Z75 N num3 den4 out5 t205 g19 t34 t35 t206 t207 m1_0 m1_1 m1_2 (fun num3 den4 out5 t205 g19 t34 t35 t206 t207 m1_0 m1_1 m1_2 => Z74L N k10 M num3 den4 out5 t205 g19 t34 t35 t206 t207 m1_0 m1_1 m1_2) k10
def Z74 {ρ : Type} (N : Nat) (num3 : List Int) (den4 : List Int) (out5 : List Int) (t205 : List Int) (g19 : Int) (t34 : Int) (t35 : Int) (t206 : Int) (t207 : Int) (m1_0 : Int) (m1_1 : Int) (m1_2 : List Int) (k10 : List Int → List Int → List Int → Int → Int → Int → Int → List Int → Option ρ) : Option ρ := Z74L N k10 N num3 den4 out5 t205 g19 t34 t35 t206 t207 m1_0 m1_1 m1_2
def Z73 {ρ : Type} (N : Nat) (num3 : List Int) (den4 : List Int) (out5 : List Int) (t205 : List Int) (g19 : Int) (t34 : Int) (t35 : Int) (t206 : Int) (t207 : Int) (m1_0 : Int) (m1_1 : Int) (m1_2 : List Int) (kn : List Int → List Int → List Int → Int → Int → Int → Int → List Int → Option ρ) : Option ρ := Z74 N num3 den4 out5 t205 g19 t34 t35 t206 t207 m1_0 m1_1 m1_2 kn
def Z71 {ρ : Type} (N : Nat) (num3 : List Int) (den4 : List Int) (out5 : List Int) (piece7 : List Int) (g19 : Int) (t34 : Int) (t35 : Int) (m1_0 : Int) (m1_1 : Int) (m1_2 : List Int) (kn : List Int → List Int → List Int → Int → Int → Int → Int → List Int → Option ρ) : Option ρ := Z72 N num3 den4 out5 piece7 g19 t34 t35 m1_0 m1_1 m1_2 (fun num3 den4 out5 t205 g19 t34 t35 t206 t207 m1_0 m1_1 m1_2 => Z73 N num3 den4 out5 t205 g19 t34 t35 t206 t207 m1_0 m1_1 m1_2 kn)
def Z65 {ρ : Type} (N : Nat) (num3 : List Int) (den4 : List Int) (out5 : List Int) (piece7 : List Int) (common16 : Int) (g19 : Int) (t34 : Int) (t35 : Int) (m1_0 : Int) (m1_1 : Int) (m1_2 : List Int) (kn : List Int → List Int → List Int → Int → Int → Int → Int → List Int → Option ρ) : Option ρ := Z66 N num3 den4 out5 piece7 common16 g19 t34 t35 m1_0 m1_1 m1_2 (fun num3 den4 out5 piece7 g19 t34 t35 m1_0 m1_1 m1_2 => Z71 N num3 den4 out5 piece7 g19 t34 t35 m1_0 m1_1 m1_2 kn)
def Z63 {ρ : Type} (N : Nat) (num3 : List Int) (den4 : List Int) (out5 : List Int) (piece7 : List Int) (common16 : Int) (t34 : Int) (t35 : Int) (m1_0 : Int) (m1_1 : Int) (m1_2 : List Int) (kn : List Int → List Int → List Int → Int → Int → Int → Int → List Int → Option ρ) : Option ρ := Z64 N num3 den4 out5 piece7 common16 t34 t35 m1_0 m1_1 m1_2 (fun num3 den4 out5 piece7 common16 g19 t34 t35 m1_0 m1_1 m1_2 => Z65 N num3 den4 out5 piece7 common16 g19 t34 t35 m1_0 m1_1 m1_2 kn)
def Z57 {ρ : Type} (N : Nat) (num3 : List Int) (den4 : List Int) (out5 : List Int) (piece7 : List Int) (common16 : Int) (t34 : Int) (t35 : Int) (m1_0 : Int) (m1_1 : Int) (m1_2 : List Int) (kn : List Int → List Int → List Int → Int → Int → Int → Int → List Int → Option ρ) : Option ρ := Z58 N num3 den4 out5 piece7 common16 t34 t35 m1_0 m1_1 m1_2 (fun num3 den4 out5 piece7 common16 t34 t35 m1_0 m1_1 m1_2 => Z63 N num3 den4 out5 piece7 common16 t34 t35 m1_0 m1_1 m1_2 kn)
def Z55 {ρ : Type} (N : Nat) (num3 : List Int) (den4 : List Int) (out5 : List Int) (piece7 : List Int) (t34 : Int) (t35 : Int) (m1_0 : Int) (m1_1 : Int) (m1_2 : List Int) (kn : List Int → List Int → List Int → Int → Int → Int → Int → List Int → Option ρ) : Option ρ := Z56 N num3 den4 out5 piece7 t34 t35 m1_0 m1_1 m1_2 (fun num3 den4 out5 piece7 common16 t34 t35 m1_0 m1_1 m1_2 => Z57 N num3 den4 out5 piece7 common16 t34 t35 m1_0 m1_1 m1_2 kn)
def Z25 {ρ : Type} (N : Nat) (num3 : List Int) (den4 : List Int) (out5 : List Int) (piece7 : List Int) (t34 : Int) (t35 : Int) (m1_0 : Int) (m1_1 : Int) (m1_2 : List Int) (kn : List Int → List Int → List Int → Int → Int → Int → Int → List Int → Option ρ) (kr : List Int → Option ρ) : Option ρ := Z26 N num3 den4 out5 piece7 t34 t35 m1_0 m1_1 m1_2 (fun num3 den4 out5 piece7 t34 t35 m1_0 m1_1 m1_2 => Z55 N num3 den4 out5 piece7 t34 t35 m1_0 m1_1 m1_2 kn) kr
def Z23 {ρ : Type} (N : Nat) (num3 : List Int) (den4 : List Int) (out5 : List Int) (s6 : Int) (t34 : Int) (t35 : Int) (m1_0 : Int) (m1_1 : Int) (m1_2 : List Int) (kn : List Int → List Int → List Int → Int → Int → Int → Int → List Int → Option ρ) (kr : List Int → Option ρ) : Option ρ := Z24 N num3 den4 out5 s6 t34 t35 m1_0 m1_1 m1_2 (fun num3 den4 out5 piece7 t34 t35 m1_0 m1_1 m1_2 => Z25 N num3 den4 out5 piece7 t34 t35 m1_0 m1_1 m1_2 kn kr)
def Z21 {ρ : Type} (N : Nat) (num3 : List Int) (den4 : List Int) (out5 : List Int) (s6 : Int) (t34 : Int) (t35 : Int) (m1_0 : Int) (m1_1 : Int) (m1_2 : List Int) (kn : List Int → List Int → List Int → Int → Int → Int → Int → List Int → Option ρ) (kr : List Int → Option ρ) : Option ρ := Z22 N num3 den4 out5 s6 t34 t35 m1_0 m1_1 m1_2 (fun num3 den4 out5 s6 t34 t35 m1_0 m1_1 m1_2 => Z23 N num3 den4 out5 s6 t34 t35 m1_0 m1_1 m1_2 kn kr)
def Z19 {ρ : Type} (N : Nat) (num3 : List Int) (den4 : List Int) (out5 : List Int) (s6 : Int) (t34 : Int) (t35 : Int) (m1_0 : Int) (m1_1 : Int) (m1_2 : List Int) (kn : List Int → List Int → List Int → Int → Int → Int → Int → List Int → Option ρ) (k1 : List Int → List Int → List Int → Int → Int → Int → Int → List Int → Option ρ) (kr : List Int → Option ρ) : Option ρ := Z20 N num3 den4 out5 s6 t34 t35 m1_0 m1_1 m1_2 (fun num3 den4 out5 s6 t34 t35 m1_0 m1_1 m1_2 => Z21 N num3 den4 out5 s6 t34 t35 m1_0 m1_1 m1_2 kn kr) k1
def Z17 {ρ : Type} (N : Nat) (num3 : List Int) (den4 : List Int) (out5 : List Int) (t34 : Int) (t35 : Int) (m1_0 : Int) (m1_1 : Int) (m1_2 : List Int) (kn : List Int → List Int → List Int → Int → Int → Int → Int → List Int → Option ρ) (k1 : List Int → List Int → List Int → Int → Int → Int → Int → List Int → Option ρ) (kr : List Int → Option ρ) : Option ρ := Z18 N num3 den4 out5 t34 t35 m1_0 m1_1 m1_2 (fun num3 den4 out5 s6 t34 t35 m1_0 m1_1 m1_2 => Z19 N num3 den4 out5 s6 t34 t35 m1_0 m1_1 m1_2 kn k1 kr)
def Z16 {ρ : Type} (N : Nat) (num3 : List Int) (den4 : List Int) (out5 : List Int) (t34 : Int) (t35 : Int) (m1_0 : Int) (m1_1 : Int) (m1_2 : List Int) (kn : List Int → List Int → List Int → Int → Int → Int → Int → List Int → Option ρ) (kr : List Int → Option ρ) : Option ρ := Z17 N num3 den4 out5 t34 t35 m1_0 m1_1 m1_2 kn kn kr
def Z76 {ρ : Type} (N : Nat) (num3 : List Int) (den4 : List Int) (out5 : List Int) (t34 : Int) (t35 : Int) (m1_0 : Int) (m1_1 : Int) (m1_2 : List Int) (kn : List Int → List Int → List Int → Int → Int → Int → Int → List Int → Option ρ) : Option ρ :=
 kn num3 den4 out5 t34 (w64 (t35 + 1)) m1_0 m1_1 m1_2
def Z15 {ρ : Type} (N : Nat) (num3 : List Int) (den4 : List Int) (out5 : List Int) (t34 : Int) (t35 : Int) (m1_0 : Int) (m1_1 : Int) (m1_2 : List Int) (kn : List Int → List Int → List Int → Int → Int → Int → Int → List Int → Option ρ) (kr : List Int → Option ρ) : Option ρ := Z16 N num3 den4 out5 t34 t35 m1_0 m1_1 m1_2 (fun num3 den4 out5 t34 t35 m1_0 m1_1 m1_2 => Z76 N num3 den4 out5 t34 t35 m1_0 m1_1 m1_2 kn) kr
def Z13 {ρ : Type} (N : Nat) (num3 : List Int) (den4 : List Int) (out5 : List Int) (t34 : Int) (t35 : Int) (t36 : Bool) (m1_0 : Int) (m1_1 : Int) (m1_2 : List Int) (kn : List Int → List Int → List Int → Int → Int → Int → Int → List Int → Option ρ) (k0 : List Int → Option ρ) (kr : List Int → Option ρ) : Option ρ := Z14 N num3 den4 out5 t34 t35 t36 m1_0 m1_1 m1_2 (fun num3 den4 out5 t34 t35 m1_0 m1_1 m1_2 => Z15 N num3 den4 out5 t34 t35 m1_0 m1_1 m1_2 kn kr) k0
def Z11 {ρ : Type} (N : Nat) (num3 : List Int) (den4 : List Int) (out5 : List Int) (t34 : Int) (t35 : Int) (m1_0 : Int) (m1_1 : Int) (m1_2 : List Int) (kn : List Int → List Int → List Int → Int → Int → Int → Int → List Int → Option ρ) (k0 : List Int → Option ρ) (kr : List Int → Option ρ) : Option ρ := Z12 N num3 den4 out5 t34 t35 m1_0 m1_1 m1_2 (fun num3 den4 out5 t34 t35 t36 m1_0 m1_1 m1_2 => Z13 N num3 den4 out5 t34 t35 t36 m1_0 m1_1 m1_2 kn k0 kr)
def Z10L {ρ : Type} (N : Nat) (k0 : List Int → Option ρ) (kr : List Int → Option ρ) : Nat → List Int → List Int → List Int → Int → Int → Int → Int → List Int → Option ρ
  | 0, _, _, _, _, _, _, _, _ => none
  | M + 1, num3, den4, out5, t34, t35, m1_0, m1_1, m1_2 => Z11 N num3 den4 out5 t34 t35 m1_0 m1_1 m1_2 (fun num3 den4 out5 t34 t35 m1_0 m1_1 m1_2 => Z10L N k0 kr M num3 den4 out5 t34 t35 m1_0 m1_1 m1_2) k0 kr
def Z10 {ρ : Type} (N : Nat) (num3 : List Int) (den4 : List Int) (out5 : List Int) (t34 : Int) (t35 : Int) (m1_0 : Int) (m1_1 : Int) (m1_2 : List Int) (k0 : List Int → Option ρ) (kr : List Int → Option ρ) : Option ρ := Z10L N k0 kr N num3 den4 out5 t34 t35 m1_0 m1_1 m1_2
def Z9 {ρ : Type} (N : Nat) (num3 : List Int) (den4 : List Int) (out5 : List Int) (t34 : Int) (t35 : Int) (m1_0 : Int) (m1_1 : Int) (m1_2 : List Int) (kn : List Int → Option ρ) (kr : List Int → Option ρ) : Option ρ := Z10 N num3 den4 out5 t34 t35 m1_0 m1_1 m1_2 kn kr
def Z7 {ρ : Type} (N : Nat) (num3 : List Int) (den4 : List Int) (out5 : List Int) (m1_0 : Int) (m1_1 : Int) (m1_2 : List Int) (kn : List Int → Option ρ) (kr : List Int → Option ρ) : Option ρ := Z8 N num3 den4 out5 m1_0 m1_1 m1_2 (fun num3 den4 out5 t34 t35 m1_0 m1_1 m1_2 => Z9 N num3 den4 out5 t34 t35 m1_0 m1_1 m1_2 kn kr)
def Z77 {ρ : Type} (N : Nat) (out5 : List Int) (kr : List Int → Option ρ) : Option ρ :=
 cond (Nat.blt 0 out5.length) (
  kr out5) none
def Z6 {ρ : Type} (N : Nat) (num3 : List Int) (den4 : List Int) (out5 : List Int) (m1_0 : Int) (m1_1 : Int) (m1_2 : List Int) (kr : List Int → Option ρ) : Option ρ := Z7 N num3 den4 out5 m1_0 m1_1 m1_2 (fun out5 => Z77 N out5 kr) kr
def Z4 {ρ : Type} (N : Nat) (num3 : List Int) (den4 : List Int) (m1_0 : Int) (m1_1 : Int) (m1_2 : List Int) (kr : List Int → Option ρ) : Option ρ := Z5 N num3 den4 m1_0 m1_1 m1_2 (fun num3 den4 out5 m1_0 m1_1 m1_2 => Z6 N num3 den4 out5 m1_0 m1_1 m1_2 kr)
def Z2 {ρ : Type} (N : Nat) (m1_0 : Int) (m1_1 : Int) (m1_2 : List Int) (kr : List Int → Option ρ) : Option ρ := Z3 N m1_0 m1_1 m1_2 (fun num3 den4 m1_0 m1_1 m1_2 => Z4 N num3 den4 m1_0 m1_1 m1_2 kr)
def Z0 {ρ : Type} (N : Nat) (m0 : Int × Int × List Int) (kr : List Int → Option ρ) : Option ρ := Z1 N m0 (fun m1_0 m1_1 m1_2 => Z2 N m1_0 m1_1 m1_2 kr)
def Spec : Prop := ∀  (m0 : Int × Int × List Int), Ty.bd (.pair (.int .i64) (.pair (.int .i64) (.sl 0 (.int .i64)))) m0 → P m0 = true → ∃ N0, ∀ N, N0 ≤ N → Z0 N m0 (fun t2 => some ((), (t2, ()))) = some ((), ((g m0), ()))

theorem mx_abs {a : Int} (h : -99 ≤ a ∧ a ≤ 99) : mx a (w64 (0 - a)) = absK a := by
  rw [w64_id (by omega) (by omega), mx_eq]
  unfold absK
  omega
theorem absK_neg (a : Int) : absK (-a) = absK a := by unfold absK; omega
theorem pow4 {k : Nat} (h : k ≤ 4) : (99 : Int) ^ k ≤ 96059601 := by
  have h1 : 99 ^ k ≤ 99 ^ 4 := Nat.pow_le_pow_right (by omega) h
  have h2 : (99 : Int) ^ k = ((99 ^ k : Nat) : Int) := by rw [Int.natCast_pow]; rfl
  rw [h2]
  omega
theorem ne_good {n : Nat} {A : Nat → Nat → Int} {x j : Nat} (hx : x < n) (hj : j < n) (h : ¬ (A x j = 0 ∧ A j x = 0)) (h' : A x j = 0 ∨ A j x = 0) : ¬ ∃ e, Good n A e := by
  rintro ⟨e, he⟩
  rcases h' with z | z
  · exact h ⟨z, good_zero he hx hj z⟩
  · exact h ⟨good_zero he hj hx z, z⟩
section
variable {ρ : Type} {N : Nat} {m : Int × Int × List Int} {s p x j : Nat} {num0 num den out : List Int} {L : List Nat}
theorem core (hm : shapedK m = true) (hn : m.1.toNat ≤ 5) (hcl : Closed m.1.toNat (ent m) num0) (hf : FInv m.1.toNat (ent m) s num0 L num den) (hp : p < L.length) (hx : L.getD p 0 = x) (hj : j < m.1.toNat) (h0 : ¬ (ent m x j = 0 ∧ ent m j x = 0))
    (kn : List Int → List Int → List Int → List Int → Int → Int → Int → Int → Int → Int → Int → Int → List Int → Option ρ) (kr : List Int → Option ρ) (t34 t35 t62 t63 : Int) :
    (Z52 N num den out (ints L) (p : Int) (x : Int) (j : Int) (ent m x j) (-(ent m j x)) t34 t35 t62 t63 m.1 m.2.1 m.2.2 kn kr = kr [] ∧ ¬ ∃ e, Good m.1.toNat (ent m) e) ∨
    (∃ L' num' den', FInv m.1.toNat (ent m) s num0 L' num' den' ∧ (∃ u, L' = L ++ u) ∧ (∀ y ∈ L, ∀ k, Edge (ent m) L num den y k → Edge (ent m) L' num' den' y k) ∧ Edge (ent m) L' num' den' x j ∧
      Z52 N num den out (ints L) (p : Int) (x : Int) (j : Int) (ent m x j) (-(ent m j x)) t34 t35 t62 t63 m.1 m.2.1 m.2.2 kn kr = kn num' den' out (ints L') (p : Int) (x : Int) t34 t35 t62 t63 m.1 m.2.1 m.2.2) := by
  have hxm : x ∈ L := by rw [← hx]; exact getD_mem 0 hp
  have hxn := hf.lt x hxm
  have hle := hf.le
  simp only [Z52]
  by_cases z1 : ent m x j = 0
  · rw [ct (dt z1)]
    exact Or.inl ⟨rfl, ne_good hxn hj h0 (Or.inl z1)⟩
  rw [cf (df z1)]
  by_cases z2 : ent m j x = 0
  · rw [ct (dt (by omega))]
    exact Or.inl ⟨rfl, ne_good hxn hj h0 (Or.inr z2)⟩
  rw [cf (df (by omega))]
  by_cases sg : (0 < ent m x j ↔ 0 < -(ent m j x))
  · have sgb : (!(((lk N (decide (0 < ent m x j))) == (lk N (decide (0 < -(ent m j x))))))) = false := by
      rw [lk_eq, lk_eq]
      by_cases h1 : 0 < ent m x j
      · rw [dt h1, dt (sg.1 h1)]; rfl
      · rw [df h1, df (fun h => h1 (sg.2 h))]; rfl
    rw [cf sgb]
    have hne : ¬ ((x : Int) = (j : Int)) := fun e => by
      have e' : x = j := by omega
      subst e'
      omega
    rw [cf (df hne)]
    obtain ⟨Q, q1, q2, q3⟩ := hf.frac
    obtain ⟨c1, c2, c3, c4, c5⟩ := q3 x hxm
    have st := stepN (A := ent m) (num := num) (den := den) x j c1 c3 z1 z2
    have sk := skew_of z1 z2 sg
    have hb := ent_bound hm
    have e1 := mx_abs (hb x j)
    have e2 : mx (-(ent m j x)) (w64 (0 - -(ent m j x))) = absK (ent m j x) := by
      rw [mx_abs (by have := hb j x; omega), absK_neg]
    have pw := pow4 (k := L.length - 1) (by omega)
    have hdQ := Int.le_of_dvd q1 c4
    have a1 := absK_le (hb x j)
    have a2 := absK_le (hb j x)
    have a1' := absK_pos z1
    have a2' := absK_pos z2
    have b1 : num.getD x 0 * absK (ent m x j) ≤ 96059601 * 99 := Int.mul_le_mul (by omega) a1 (by omega) (by omega)
    have b2 : den.getD x 0 * absK (ent m j x) ≤ 96059601 * 99 := Int.mul_le_mul (by omega) a2 (by omega) (by omega)
    have hA := st.a0p
    have hB := st.b0p
    simp only [e1, e2, Int.toNat_natCast, w64_id (show -9223372036854775808 ≤ num.getD x 0 * absK (ent m x j) by omega) (by omega), w64_id (show -9223372036854775808 ≤ den.getD x 0 * absK (ent m j x) by omega) (by omega), impl_gcd.g]
    generalize hA0 : num.getD x 0 * absK (ent m x j) = A0 at *
    generalize hB0 : den.getD x 0 * absK (ent m j x) = B0 at *
    generalize hG : (Int.gcd A0 B0 : Int) = G at *
    generalize ha : Int.tdiv A0 G = a at *
    generalize hb' : Int.tdiv B0 G = b at *
    have gp := st.gp
    have ap := st.ap
    have bp := st.bp
    have al : a ≤ A0 := by
      have h1 := Int.mul_le_mul_of_nonneg_left (show (1 : Int) ≤ G by omega) (Int.le_of_lt ap)
      have h2 := st.ea
      omega
    have bl : b ≤ B0 := by
      have h1 := Int.mul_le_mul_of_nonneg_left (show (1 : Int) ≤ G by omega) (Int.le_of_lt bp)
      have h2 := st.eb
      omega
    have i1 : inB (x : Int) num.length = true := inB_nat (by rw [hf.nl]; exact hxn)
    have i2 : inB (x : Int) den.length = true := inB_nat (by rw [hf.dl]; exact hxn)
    have i3 : inB (j : Int) num.length = true := inB_nat (by rw [hf.nl]; exact hj)
    have i4 : inB (j : Int) den.length = true := inB_nat (by rw [hf.dl]; exact hj)
    have hP : impl_gcd.P A0 B0 = true := by
      simp only [impl_gcd.P, Bool.and_eq_true, decide_eq_true_eq]
      omega
    rw [ct i1, ct i2, ct hP, ct (nt (by omega)), ct (nt (by omega)), ct i3]
    simp only [w64_id (show -9223372036854775808 ≤ a by omega) (by omega), w64_id (show -9223372036854775808 ≤ b by omega) (by omega)]
    by_cases hz : num.getD j 0 = 0
    · obtain ⟨hg, hnj⟩ := hf.grow hp hj hz (by rw [hx]; exact st) (fun y k => absK_le (hb y k))
      have hxj : ∀ y ∈ L, j ≠ y := fun y hy e => hnj (e ▸ hy)
      have hnl : j < num.length := by rw [hf.nl]; exact hj
      have hdl : j < den.length := by rw [hf.dl]; exact hj
      rw [ct (dt hz), ct i3, ct i4, ct (show Nat.blt ((ints L).length + ([(j : Int)]).length) 1099511627776 = true by simp [ints_len, Nat.blt_eq]; omega), ints_append]
      refine Or.inr ⟨L ++ [j], num.set j a, den.set j b, hg, ⟨_, rfl⟩, fun y hy k he => he.grow hxj hnl hdl hy, Or.inr ⟨by simp, ?_⟩, rfl⟩
      have := step_edge st sk
      rw [getD_put hnl, if_neg (hxj x hxm), getD_put hdl, if_pos rfl, getD_put hnl, if_pos rfl, getD_put hdl, if_neg (hxj x hxm)]
      exact this
    · have hjm : j ∈ L := Classical.byContradiction fun hc => by
        have h1 : num0.getD j 0 ≠ 0 := by rw [← hf.out j hj hc]; exact hz
        exact hcl j hj h1 x hxn (Or.inr z1) (hf.new x hxm)
      obtain ⟨d1, d2, d3, d4, d5⟩ := q3 j hjm
      have hgood : (∃ e, Good m.1.toNat (ent m) e) → num.getD j 0 = a ∧ den.getD j 0 = b := by
        rintro ⟨e, he⟩
        have g1 := step_good st hxn hj he (hf.good e he x hxm)
        have g2 := hf.good e he j hjm
        have p1 := (he j hj).1
        have p2 : 0 < e s := (he s (by rw [← hf.hd]; exact hf.lt _ (getD_mem 0 hf.pos))).1
        have g3 : (e s * e j) * (num.getD j 0 * b) = (e s * e j) * (a * den.getD j 0) := by grind
        have p3 := Int.mul_pos p2 p1
        exact frac_eq d1 d3 ap bp d5 st.co (Int.eq_of_mul_eq_mul_left (by omega) g3)
      rw [cf (df hz), ct i3]
      by_cases ea : num.getD j 0 = a
      · rw [cf (nf ea), ct i4]
        by_cases eb : den.getD j 0 = b
        · rw [cf (nf eb)]
          refine Or.inr ⟨L, num, den, hf, ⟨[], by simp⟩, fun _ _ _ h => h, Or.inr ⟨hjm, ?_⟩, rfl⟩
          rw [ea, eb]
          exact step_edge st sk
        · rw [ct (nt eb)]
          exact Or.inl ⟨rfl, fun h => eb (hgood h).2⟩
      · rw [ct (nt ea)]
        exact Or.inl ⟨rfl, fun h => ea (hgood h).1⟩
  · have sgb : (!(((lk N (decide (0 < ent m x j))) == (lk N (decide (0 < -(ent m j x))))))) = true := by
      rw [lk_eq, lk_eq]
      by_cases h1 : 0 < ent m x j
      · rw [dt h1, df (fun h2 => sg ⟨fun _ => h2, fun _ => h1⟩)]; rfl
      · rw [df h1, dt (Classical.byContradiction fun h2 => sg ⟨fun h => absurd h h1, fun h => absurd h h2⟩)]; rfl
    rw [ct sgb]
    refine Or.inl ⟨rfl, ?_⟩
    rintro ⟨e, he⟩
    have h1 := good_sign he hxn hj
    rw [signK, Bool.and_eq_true, beq_iff_eq, decide_eq_decide] at h1
    have := h1.1
    omega
theorem at_g (hd : 0 ≤ m.1) (a b : Nat) : impl_Matrix_at.g (m.1, (m.2.1, m.2.2)) (a : Int) (b : Int) = ent m a b := atK_nat hd a b
theorem at_p (hd : dimK m = true) {a b : Nat} (ha : a < m.1.toNat) (hb : b < m.1.toNat) : impl_Matrix_at.P (m.1, (m.2.1, m.2.2)) (a : Int) (b : Int) = true := by
  obtain ⟨n, r, hn, hr, hn1, hn5, hnr, hr8, hl⟩ := dim_nat hd
  exact at_ok hd (by omega) hb
theorem inner (hm : shapedK m = true) (hcl : Closed m.1.toNat (ent m) num0) (k4 : List Int → List Int → List Int → List Int → Int → Int → Int → Int → Int → List Int → Option ρ) (kr : List Int → Option ρ) (t34 t35 : Int) : ∀ (M j : Nat) (L : List Nat) (num den : List Int), FInv m.1.toNat (ent m) s num0 L num den → p < L.length → L.getD p 0 = x → j ≤ m.1.toNat → m.1.toNat - j < M →
    (∀ k', k' < p → ∀ k, k < m.1.toNat → Edge (ent m) L num den (L.getD k' 0) k) → (∀ k, k < j → Edge (ent m) L num den x k) →
    (Z39L N k4 kr M num den out (ints L) (p : Int) (x : Int) t34 t35 (m.1.toNat : Int) (j : Int) m.1 m.2.1 m.2.2 = kr [] ∧ ¬ ∃ e, Good m.1.toNat (ent m) e) ∨
    (∃ L' num' den', FInv m.1.toNat (ent m) s num0 L' num' den' ∧ p < L'.length ∧ (∀ k', k' < p + 1 → ∀ k, k < m.1.toNat → Edge (ent m) L' num' den' (L'.getD k' 0) k) ∧
      Z39L N k4 kr M num den out (ints L) (p : Int) (x : Int) t34 t35 (m.1.toNat : Int) (j : Int) m.1 m.2.1 m.2.2 = k4 num' den' out (ints L') (p : Int) t34 t35 m.1 m.2.1 m.2.2) := by
  have hdim := shaped_dim hm
  obtain ⟨n, r, hn, hr, hn1, hn5, hnr, hr8, hl⟩ := dim_nat hdim
  intro M
  induction M with
  | zero => intro j _ _ _ _ _ _ _ h; omega
  | succ M ih =>
    intro j L num den hf hp hx hj hM hE1 hE2
    have hxm : x ∈ L := by rw [← hx]; exact getD_mem 0 hp
    have hxn := hf.lt x hxm
    simp only [Z39L, Z40, Z41, Z42, Z43]
    by_cases hlt : j < m.1.toNat
    · rw [ct' (by rw [lk_eq]; exact dt (by omega))]
      simp only [Z44, Z45, Z46, Z47, Z48, Z49]
      rw [ct (at_p hdim hxn hlt), ct (at_p hdim hlt hxn), at_g (by omega), at_g (by omega)]
      have hb := ent_bound hm j x
      rw [show w64 (0 - ent m j x) = -(ent m j x) by rw [w64_id (by omega) (by omega)]; omega]
      simp only [Z50, Z51]
      -- what follows, once the edge is seen to
      have next : ∀ (L' : List Nat) (num' den' : List Int), FInv m.1.toNat (ent m) s num0 L' num' den' → (∃ u, L' = L ++ u) → (∀ y ∈ L, ∀ k, Edge (ent m) L num den y k → Edge (ent m) L' num' den' y k) → Edge (ent m) L' num' den' x j →
          (Z39L N k4 kr M num' den' out (ints L') (p : Int) (x : Int) t34 t35 (m.1.toNat : Int) ((j + 1 : Nat) : Int) m.1 m.2.1 m.2.2 = kr [] ∧ ¬ ∃ e, Good m.1.toNat (ent m) e) ∨
          (∃ L'' num'' den'', FInv m.1.toNat (ent m) s num0 L'' num'' den'' ∧ p < L''.length ∧ (∀ k', k' < p + 1 → ∀ k, k < m.1.toNat → Edge (ent m) L'' num'' den'' (L''.getD k' 0) k) ∧
            Z39L N k4 kr M num' den' out (ints L') (p : Int) (x : Int) t34 t35 (m.1.toNat : Int) ((j + 1 : Nat) : Int) m.1 m.2.1 m.2.2 = k4 num'' den'' out (ints L'') (p : Int) t34 t35 m.1 m.2.1 m.2.2) := by
        intro L' num' den' hf' hu hk he
        obtain ⟨u, hu⟩ := hu
        have hget : ∀ k', k' < L.length → L'.getD k' 0 = L.getD k' 0 := fun k' hk' => by rw [hu, getD_append_lt hk']
        refine ih (j + 1) L' num' den' hf' (by rw [hu]; simp; omega) (by rw [hget p hp]; exact hx) hlt (by omega) (fun k' hk' k hkn => ?_) (fun k hk' => ?_)
        · rw [hget k' (by omega)]
          exact hk _ (getD_mem 0 (by omega)) k (hE1 k' hk' k hkn)
        · by_cases e : k = j
          · subst e; exact he
          · exact hk x hxm k (hE2 k (by omega))
      by_cases h0 : ent m x j = 0 ∧ ent m j x = 0
      · rw [ct (dt h0.1), ct (dt (by omega))]
        simp only [Z53]
        rw [w64_succ (by rw [maxLen_val]; omega)]
        exact next L num den hf ⟨[], by simp⟩ (fun _ _ _ h => h) (Or.inl h0)
      · have hz : ∀ (X Y : Option ρ), (cond (lk N (decide (ent m x j = 0))) (cond (lk N (decide (-(ent m j x) = 0))) X Y) Y) = Y := by
          intro X Y
          by_cases z1 : ent m x j = 0
          · rw [ct (dt z1), cf (df (fun z2 => h0 ⟨z1, by omega⟩))]
          · rw [cf (df z1)]
        rw [hz]
        rcases core (N := N) (out := out) hm (by omega) hcl hf hp hx hlt h0 (fun num3 den4 out5 piece7 at8 i9 t34 t35 t62 t63 m1_0 m1_1 m1_2 => Z53 N num3 den4 out5 piece7 at8 i9 t34 t35 t62 t63 m1_0 m1_1 m1_2 (fun num3 den4 out5 piece7 at8 i9 t34 t35 t62 t63 m1_0 m1_1 m1_2 => Z39L N k4 kr M num3 den4 out5 piece7 at8 i9 t34 t35 t62 t63 m1_0 m1_1 m1_2)) kr t34 t35 (m.1.toNat : Int) (j : Int) with hc | ⟨L', num', den', h1, h2, h3, h4, h5⟩
        · exact Or.inl hc
        · rw [h5]
          simp only [Z53]
          rw [w64_succ (by rw [maxLen_val]; omega)]
          exact next L' num' den' h1 h2 h3 h4
    · rw [cf' (by rw [lk_eq]; exact df (by omega))]
      refine Or.inr ⟨L, num, den, hf, hp, fun k' hk' k hk => ?_, rfl⟩
      by_cases e : k' = p
      · subst e; rw [hx]; exact hE2 k (by omega)
      · exact hE1 k' (by omega) k hk
theorem middle (hN : 10 ≤ N) (hm : shapedK m = true) (hcl : Closed m.1.toNat (ent m) num0) (k2 : List Int → List Int → List Int → List Int → Int → Int → Int → Int → List Int → Option ρ) (kr : List Int → Option ρ) (t34 t35 : Int) : ∀ (M p : Nat) (L : List Nat) (num den : List Int), FInv m.1.toNat (ent m) s num0 L num den → p ≤ L.length → m.1.toNat - p < M →
    (∀ k', k' < p → ∀ k, k < m.1.toNat → Edge (ent m) L num den (L.getD k' 0) k) →
    (Z29L N k2 kr M num den out (ints L) (p : Int) t34 t35 m.1 m.2.1 m.2.2 = kr [] ∧ ¬ ∃ e, Good m.1.toNat (ent m) e) ∨
    (∃ L' num' den', FInv m.1.toNat (ent m) s num0 L' num' den' ∧ (∀ x ∈ L', ∀ k, k < m.1.toNat → Edge (ent m) L' num' den' x k) ∧
      Z29L N k2 kr M num den out (ints L) (p : Int) t34 t35 m.1 m.2.1 m.2.2 = k2 num' den' out (ints L') t34 t35 m.1 m.2.1 m.2.2) := by
  have hdim := shaped_dim hm
  obtain ⟨n, r, hn, hr, hn1, hn5, hnr, hr8, hl⟩ := dim_nat hdim
  intro M
  induction M with
  | zero => intro p _ _ _ _ _ h; omega
  | succ M ih =>
    intro p L num den hf hp hM hE
    have hle := hf.le
    simp only [Z29L, Z30, Z31]
    by_cases hlt : p < L.length
    · rw [ct (dt (by rw [ints_len]; omega))]
      simp only [Z32, Z33, Z34, Z35]
      rw [ct (inB_nat (by rw [ints_len]; exact hlt))]
      simp only [Z36, Z37, Z38, Z39, Int.toNat_natCast, ints_getD, hf.nl]
      have hin := inner (ρ := ρ) (N := N) (out := out) hm hcl (fun num3 den4 out5 piece7 at8 t34 t35 m1_0 m1_1 m1_2 => Z54 N num3 den4 out5 piece7 at8 t34 t35 m1_0 m1_1 m1_2 (fun num3 den4 out5 piece7 at8 t34 t35 m1_0 m1_1 m1_2 => Z29L N k2 kr M num3 den4 out5 piece7 at8 t34 t35 m1_0 m1_1 m1_2)) kr t34 t35 N 0 L num den hf hlt rfl (by omega) (by omega) hE (fun k hk => by omega)
      rw [show ((0 : Nat) : Int) = 0 from rfl] at hin
      rcases hin with hc | ⟨L', num', den', h1, h2, h3, h4⟩
      · exact Or.inl hc
      · rw [h4]
        simp only [Z54]
        rw [w64_succ (by rw [maxLen_val]; omega)]
        exact ih (p + 1) L' num' den' h1 h2 (by omega) h3
    · rw [cf (df (by rw [ints_len]; omega))]
      refine Or.inr ⟨L, num, den, hf, fun x hx k hk => ?_, rfl⟩
      obtain ⟨k', hk', e⟩ := mem_getD hx
      rw [← e]
      exact hE k' (by omega) k hk
theorem common (hf : FInv m.1.toNat (ent m) s num0 L num den) (h5 : m.1.toNat ≤ 5) {Q : Int} (q1 : 0 < Q) (q2 : Q ≤ 96059601) (q3 : ∀ x ∈ L, 0 < den.getD x 0 ∧ den.getD x 0 ∣ Q) (k6 : List Int → List Int → List Int → List Int → Int → Int → Int → Int → Int → List Int → Option ρ) (t34 t35 : Int) : ∀ (M k : Nat) (c : Int), k ≤ L.length → L.length - k < M → 0 < c → c ∣ Q → (∀ k', k' < k → den.getD (L.getD k' 0) 0 ∣ c) →
    ∃ c', 0 < c' ∧ c' ∣ Q ∧ (∀ x ∈ L, den.getD x 0 ∣ c') ∧
      Z61L N k6 M num den out (ints L) c t34 t35 ((ints L).length : Int) (k : Int) m.1 m.2.1 m.2.2 = k6 num den out (ints L) c' t34 t35 m.1 m.2.1 m.2.2 := by
  have hle := hf.le
  intro M
  induction M with
  | zero => intro k _ _ h; omega
  | succ M ih =>
    intro k c hk hM hc hcQ hd
    simp only [Z61L, Z62]
    by_cases hlt : k < L.length
    · have hxm : L.getD k 0 ∈ L := getD_mem 0 hlt
      obtain ⟨d1, d2⟩ := q3 _ hxm
      have i1 : inB (k : Int) (ints L).length = true := inB_nat (by rw [ints_len]; exact hlt)
      have i2 : inB ((L.getD k 0 : Nat) : Int) den.length = true := inB_nat (by rw [hf.dl]; exact hf.lt _ hxm)
      obtain ⟨g1, g2, g3, g4, g5, g6, g7⟩ := lcm_step hc d1 hcQ d2 q1
      have b1 := Int.le_of_dvd q1 hcQ
      have b2 := Int.le_of_dvd q1 d2
      have b3 := Int.le_of_dvd q1 g5
      rw [ct (dt (by rw [ints_len]; omega)), ct i1]
      simp only [Int.toNat_natCast, ints_getD]
      rw [ct i2, ct i2, ct (show impl_gcd.P c (den.getD (L.getD k 0) 0) = true by
        simp only [impl_gcd.P, Bool.and_eq_true, decide_eq_true_eq]
        omega)]
      have eg : impl_gcd.g c (den.getD (L.getD k 0) 0) = (Int.gcd c (den.getD (L.getD k 0) 0) : Int) := rfl
      rw [ct (nt (by rw [eg]; omega)), eg, w64_id (n := Int.tdiv c _) (by omega) (by omega), w64_id (by omega) (by omega), w64_succ (by rw [maxLen_val]; omega)]
      refine ih (k + 1) _ hlt (by omega) g4 g5 (fun k' hk' => ?_)
      by_cases e : k' = k
      · subst e; exact g7
      · exact Int.dvd_trans (hd k' (by omega)) g6
    · rw [cf (df (by rw [ints_len]; omega))]
      refine ⟨c, hc, hcQ, fun x hx => ?_, rfl⟩
      obtain ⟨k', hk', e⟩ := mem_getD hx
      rw [← e]
      exact hd k' (by omega)
structure O2 (n : Nat) (L : List Nat) (num den out0 : List Int) (c : Int) (k : Nat) (out : List Int) (g : Int) : Prop where
  len : out.length = n
  old : ∀ x, x < n → (∀ k', k' < k → x ≠ L.getD k' 0) → out.getD x 0 = out0.getD x 0
  val : ∀ k', k' < k → out.getD (L.getD k' 0) 0 * den.getD (L.getD k' 0) 0 = c * num.getD (L.getD k' 0) 0 ∧ 0 < out.getD (L.getD k' 0) 0 ∧ out.getD (L.getD k' 0) 0 ≤ 9227446944279201
  gcd : g = ((gcdL ((List.range k).map fun t => out.getD (L.getD t 0) 0) : Nat) : Int)
theorem O2.g_range {n : Nat} {out0 : List Int} {c g : Int} {k : Nat} (h : O2 n L num den out0 c k out g) : 0 ≤ g ∧ g ≤ 9227446944279201 ∧ (0 < k → 0 < g) := by
  have h0 : 0 ≤ g := by rw [h.gcd]; omega
  by_cases e : k = 0
  · subst e
    have := h.gcd
    simp [gcdL] at this
    omega
  · obtain ⟨_, a1, a2⟩ := h.val 0 (by omega)
    have hd : g ∣ out.getD (L.getD 0 0) 0 := by
      rw [h.gcd]
      exact gcdL_dvd (List.mem_map.2 ⟨0, List.mem_range.2 (by omega), rfl⟩)
    have := Int.le_of_dvd a1 hd
    refine ⟨h0, by omega, fun _ => ?_⟩
    rcases Int.lt_or_le 0 g with h' | h'
    · exact h'
    · have e : g = 0 := by omega
      rw [e] at hd
      have := Int.zero_dvd.1 hd
      omega
theorem outs (hf : FInv m.1.toNat (ent m) s num0 L num den) (h5 : m.1.toNat ≤ 5) {c : Int} (c1 : 0 < c) (c2 : c ≤ 96059601) (q3 : ∀ x ∈ L, 0 < num.getD x 0 ∧ num.getD x 0 ≤ 96059601 ∧ 0 < den.getD x 0 ∧ den.getD x 0 ∣ c) (out0 : List Int) (k8 : List Int → List Int → List Int → List Int → Int → Int → Int → Int → Int → List Int → Option ρ) (t34 t35 : Int) : ∀ (M k : Nat) (out : List Int) (g : Int), k ≤ L.length → L.length - k < M → O2 m.1.toNat L num den out0 c k out g →
    ∃ out' g', O2 m.1.toNat L num den out0 c L.length out' g' ∧
      Z69L N k8 M num den out (ints L) c g t34 t35 ((ints L).length : Int) (k : Int) m.1 m.2.1 m.2.2 = k8 num den out' (ints L) g' t34 t35 m.1 m.2.1 m.2.2 := by
  have hle := hf.le
  intro M
  induction M with
  | zero => intro k _ _ _ h; omega
  | succ M ih =>
    intro k out g hk hM ho
    simp only [Z69L, Z70]
    by_cases hlt : k < L.length
    · have hxm : L.getD k 0 ∈ L := getD_mem 0 hlt
      have hxn := hf.lt _ hxm
      obtain ⟨d1, d2, d3, d4⟩ := q3 _ hxm
      have i1 : inB (k : Int) (ints L).length = true := inB_nat (by rw [ints_len]; exact hlt)
      have i2 : inB ((L.getD k 0 : Nat) : Int) den.length = true := inB_nat (by rw [hf.dl]; exact hxn)
      have i3 : inB ((L.getD k 0 : Nat) : Int) num.length = true := inB_nat (by rw [hf.nl]; exact hxn)
      have i4 : inB ((L.getD k 0 : Nat) : Int) out.length = true := inB_nat (by rw [ho.len]; exact hxn)
      have hxo : L.getD k 0 < out.length := by rw [ho.len]; exact hxn
      have hg := ho.g_range
      have t1 : Int.tdiv c (den.getD (L.getD k 0) 0) * den.getD (L.getD k 0) 0 = c := Int.tdiv_mul_cancel d4
      have t2 : 0 < Int.tdiv c (den.getD (L.getD k 0) 0) ∧ Int.tdiv c (den.getD (L.getD k 0) 0) ≤ c := by
        generalize Int.tdiv c (den.getD (L.getD k 0) 0) = t at t1 ⊢
        have : 0 < t := by
          rcases Int.lt_or_le 0 t with h' | h'
          · exact h'
          · have := Int.mul_nonpos_of_nonpos_of_nonneg h' (Int.le_of_lt d3); omega
        have := Int.mul_le_mul_of_nonneg_left (show (1 : Int) ≤ den.getD (L.getD k 0) 0 by omega) (Int.le_of_lt this)
        exact ⟨by omega, by omega⟩
      have t3 : 0 < Int.tdiv c (den.getD (L.getD k 0) 0) * num.getD (L.getD k 0) 0 := Int.mul_pos t2.1 d1
      have t4 : Int.tdiv c (den.getD (L.getD k 0) 0) * num.getD (L.getD k 0) 0 ≤ 96059601 * 96059601 := Int.mul_le_mul (by omega) d2 (by omega) (by omega)
      rw [ct (dt (by rw [ints_len]; omega)), ct i1]
      simp only [Int.toNat_natCast, ints_getD]
      rw [ct i2, ct (nt (by omega)), ct i3, ct i4]
      simp only [w64_id (show -9223372036854775808 ≤ Int.tdiv c (den.getD (L.getD k 0) 0) by omega) (by omega)]
      simp only [w64_id (show -9223372036854775808 ≤ Int.tdiv c (den.getD (L.getD k 0) 0) * num.getD (L.getD k 0) 0 by omega) (by omega)]
      generalize hv : Int.tdiv c (den.getD (L.getD k 0) 0) * num.getD (L.getD k 0) 0 = v at t3 t4 ⊢
      have hself : (out.set (L.getD k 0) v).getD (L.getD k 0) 0 = v := by rw [getD_put hxo, if_pos rfl]
      have hget : ∀ t, t < k → (out.set (L.getD k 0) v).getD (L.getD t 0) 0 = out.getD (L.getD t 0) 0 := fun t ht' => by
        rw [getD_put hxo, if_neg (fun e => by have := nodup_getD hf.nd hlt (by omega) e; omega)]
      rw [ct (inB_nat (by rw [List.length_set]; exact hxo)), hself, ct (show impl_gcd.P g v = true by
        simp only [impl_gcd.P, Bool.and_eq_true, decide_eq_true_eq]
        omega), w64_succ (by rw [maxLen_val]; omega)]
      refine ih (k + 1) _ _ hlt (by omega) ⟨by rw [List.length_set]; exact ho.len, ?_, ?_, ?_⟩
      · intro x hx hall
        rw [getD_put hxo, if_neg (fun e => hall k (by omega) e.symm)]
        exact ho.old x hx (fun t ht' => hall t (by omega))
      · intro t ht'
        by_cases e : t = k
        · subst e
          rw [hself]
          refine ⟨?_, t3, by omega⟩
          rw [← hv]
          have e1 := t1
          grind
        · rw [hget t (by omega)]
          exact ho.val t (by omega)
      · rw [List.range_succ, List.map_append, List.map_cons, List.map_nil, hself]
        rw [show (List.range k).map (fun t => (out.set (L.getD k 0) v).getD (L.getD t 0) 0) = (List.range k).map (fun t => out.getD (L.getD t 0) 0) from List.map_congr_left (fun t ht' => hget t (List.mem_range.1 ht'))]
        rw [ho.gcd]
        exact gcd_snoc _ _ v (by omega) rfl
    · have e : k = L.length := by omega
      subst e
      exact ⟨out, g, ho, by rw [cf (df (by rw [ints_len]; omega))]⟩
theorem divs (hf : FInv m.1.toNat (ent m) s num0 L num den) (h5 : m.1.toNat ≤ 5) {out2 : List Int} {g : Int} (hg : 0 < g) (hv : ∀ x ∈ L, 0 < out2.getD x 0 ∧ out2.getD x 0 ≤ 9227446944279201) (k10 : List Int → List Int → List Int → Int → Int → Int → Int → List Int → Option ρ) (t34 t35 : Int) : ∀ (M k : Nat) (d : List Int), k ≤ L.length → L.length - k < M → T3 m (L, []) out2 g k d →
    ∃ d', T3 m (L, []) out2 g L.length d' ∧ Z74L N k10 M num den d (ints L) g t34 t35 ((ints L).length : Int) (k : Int) m.1 m.2.1 m.2.2 = k10 num den d' t34 t35 m.1 m.2.1 m.2.2 := by
  have hle := hf.le
  intro M
  induction M with
  | zero => intro k _ _ h; omega
  | succ M ih =>
    intro k d hk hM ht
    simp only [Z74L, Z75]
    by_cases hlt : k < L.length
    · have hxm : L.getD k 0 ∈ L := getD_mem 0 hlt
      have hxn := hf.lt _ hxm
      obtain ⟨v1, v2⟩ := hv _ hxm
      have hcur := ht.cur hf.nd hf.lt hlt
      have hdv : 0 ≤ Int.tdiv (out2.getD (L.getD k 0) 0) g ∧ Int.tdiv (out2.getD (L.getD k 0) 0) g ≤ 9227446944279201 := by
        rw [Int.tdiv_eq_ediv_of_nonneg (by omega)]
        refine ⟨Int.ediv_nonneg (by omega) (by omega), ?_⟩
        have := Int.ediv_le_self (a := out2.getD (L.getD k 0) 0) g (by omega)
        omega
      have i4 : inB ((L.getD k 0 : Nat) : Int) d.length = true := inB_nat (by rw [ht.len]; exact hxn)
      have hcur' : d.getD (L.getD k 0) 0 = out2.getD (L.getD k 0) 0 := hcur
      rw [ct (dt (by rw [ints_len]; omega)), ct (inB_nat (by rw [ints_len]; exact hlt))]
      simp only [Int.toNat_natCast, ints_getD]
      rw [ct i4, ct (nt (by omega)), ct i4, hcur', w64_id (by omega) (by omega), w64_succ (by rw [maxLen_val]; omega)]
      exact ih (k + 1) _ hlt (by omega) (ht.step hf.nd hf.lt hlt)
    · have e : k = L.length := by omega
      subst e
      exact ⟨d, ht, by rw [cf (df (by rw [ints_len]; omega))]⟩
theorem outer (hN : 10 ≤ N) (hm : shapedK m = true) (kr : List Int → Option ρ) : ∀ (M i : Nat) (num den out : List Int), OInv m.1.toNat (ent m) num out → den.length = m.1.toNat → i ≤ m.1.toNat → (∀ x, x < i → num.getD x 0 ≠ 0) → m.1.toNat - i < M →
    Z10L N (fun out5 => Z77 N out5 kr) kr M num den out (m.1.toNat : Int) (i : Int) m.1 m.2.1 m.2.2 = kr (facK m) := by
  have hdim := shaped_dim hm
  obtain ⟨n, r, hn, hr, hn1, hn5, hnr, hr8, hl⟩ := dim_nat hdim
  intro M
  induction M with
  | zero => intro i _ _ _ _ _ _ _ h; omega
  | succ M ih =>
    intro i num den out hO hdl hi hpos hM
    simp only [Z10L, Z11, Z12, Z13, Z14]
    by_cases hlt : i < m.1.toNat
    · rw [ct' (by rw [lk_eq]; exact dt (by omega))]
      simp only [Z15, Z16, Z17, Z18, Z19, Z20]
      rw [ct (inB_nat (by rw [hO.nl]; exact hlt)), Int.toNat_natCast]
      by_cases hz : num.getD i 0 = 0
      · rw [cf (nf hz)]
        simp only [Z21, Z22]
        rw [ct (inB_nat (by rw [hO.nl]; exact hlt)), ct (inB_nat (by rw [hdl]; exact hlt)), Int.toNat_natCast]
        simp only [Z23, Z24, Z25, Z26, Z27, Z28, Z29]
        have hnl : i < num.length := by rw [hO.nl]; exact hlt
        have hdl' : i < den.length := by rw [hdl]; exact hlt
        have f0 : FInv m.1.toNat (ent m) i num [i] (num.set i 1) (den.set i 1) := by
          refine ⟨by rw [List.length_set]; exact hO.nl, by rw [List.length_set]; exact hdl, by simp, fun x hx => by rw [List.mem_singleton] at hx; omega, rfl, by simp, ?_, ?_, ?_, ?_⟩
          · intro x hx hni
            rw [getD_put hnl, if_neg (fun e => hni (by simp [e]))]
          · intro x hx
            rw [List.mem_singleton] at hx; subst hx; exact hz
          · refine ⟨1, by omega, by simp, fun x hx => ?_⟩
            rw [List.mem_singleton] at hx
            subst hx
            rw [getD_put hnl, if_pos rfl, getD_put hdl', if_pos rfl]
            exact ⟨by omega, by simp, by omega, Int.dvd_refl _, by decide⟩
          · intro e he x hx
            rw [List.mem_singleton] at hx
            subst hx
            rw [getD_put hnl, if_pos rfl, getD_put hdl', if_pos rfl]
        have hmid := middle (ρ := ρ) (out := out) hN hm hO.closed (fun num3 den4 out5 piece7 t34 t35 m1_0 m1_1 m1_2 => Z55 N num3 den4 out5 piece7 t34 t35 m1_0 m1_1 m1_2 (fun num3 den4 out5 t34 t35 m1_0 m1_1 m1_2 => Z76 N num3 den4 out5 t34 t35 m1_0 m1_1 m1_2 (fun num3 den4 out5 t34 t35 m1_0 m1_1 m1_2 => Z10L N (fun out5 => Z77 N out5 kr) kr M num3 den4 out5 t34 t35 m1_0 m1_1 m1_2))) kr (m.1.toNat : Int) (i : Int) N 0 [i] (num.set i 1) (den.set i 1) f0 (by omega) (by omega) (fun k' hk' => by omega)
        rw [show ((0 : Nat) : Int) = 0 from rfl, show ints [i] = [(i : Int)] from rfl] at hmid
        rcases hmid with ⟨h1, h2⟩ | ⟨L, num', den', hf, hE, h1⟩
        · rw [h1, fac_none h2]
        · rw [h1]
          have hle := hf.le
          obtain ⟨Q, q1, q2, q3⟩ := hf.frac
          have pw := pow4 (k := L.length - 1) (by omega)
          simp only [Z55, Z56, Z57, Z58, Z59, Z60, Z61]
          obtain ⟨c, c1, c2, c3, c4⟩ := common (ρ := ρ) (N := N) (out := out) (num := num') (m := m) hf (by omega) q1 (by omega) (fun x hx => ⟨(q3 x hx).2.2.1, (q3 x hx).2.2.2.1⟩) (fun num3 den4 out5 piece7 common16 t34 t35 m1_0 m1_1 m1_2 => Z63 N num3 den4 out5 piece7 common16 t34 t35 m1_0 m1_1 m1_2 (fun num3 den4 out5 t34 t35 m1_0 m1_1 m1_2 => Z76 N num3 den4 out5 t34 t35 m1_0 m1_1 m1_2 (fun num3 den4 out5 t34 t35 m1_0 m1_1 m1_2 => Z10L N (fun out5 => Z77 N out5 kr) kr M num3 den4 out5 t34 t35 m1_0 m1_1 m1_2))) (m.1.toNat : Int) (i : Int) N 0 1 (by omega) (by omega) (by omega) (Int.one_dvd _) (fun k' hk' => by omega)
          rw [show ((0 : Nat) : Int) = 0 from rfl] at c4
          rw [c4]
          have cQ := Int.le_of_dvd q1 c2
          simp only [Z63, Z64, Z65, Z66, Z67, Z68, Z69]
          obtain ⟨out2, g2, o1, o2⟩ := outs (ρ := ρ) (N := N) (num := num') (m := m) hf (by omega) c1 (by omega) (fun x hx => ⟨(q3 x hx).1, by have := (q3 x hx).2.1; omega, (q3 x hx).2.2.1, c3 x hx⟩) out (fun num3 den4 out5 piece7 g19 t34 t35 m1_0 m1_1 m1_2 => Z71 N num3 den4 out5 piece7 g19 t34 t35 m1_0 m1_1 m1_2 (fun num3 den4 out5 t34 t35 m1_0 m1_1 m1_2 => Z76 N num3 den4 out5 t34 t35 m1_0 m1_1 m1_2 (fun num3 den4 out5 t34 t35 m1_0 m1_1 m1_2 => Z10L N (fun out5 => Z77 N out5 kr) kr M num3 den4 out5 t34 t35 m1_0 m1_1 m1_2))) (m.1.toNat : Int) (i : Int) N 0 out 0 (by omega) (by omega) ⟨hO.ol, fun _ _ _ => rfl, fun k hk => by omega, rfl⟩
          rw [show ((0 : Nat) : Int) = 0 from rfl] at o2
          rw [o2]
          have hg2 := o1.g_range.2.2 hf.pos
          have hval : ∀ x ∈ L, out2.getD x 0 * den'.getD x 0 = c * num'.getD x 0 ∧ 0 < out2.getD x 0 ∧ out2.getD x 0 ≤ 9227446944279201 := by
            intro x hx
            obtain ⟨k, hk, e⟩ := mem_getD hx
            rw [← e]
            exact o1.val k hk
          simp only [Z71, Z72, Z73, Z74]
          obtain ⟨out3, p1, p2⟩ := divs (ρ := ρ) (N := N) (num := num') (m := m) hf (by omega) hg2 (fun x hx => (hval x hx).2) (fun num3 den4 out5 t34 t35 m1_0 m1_1 m1_2 => Z76 N num3 den4 out5 t34 t35 m1_0 m1_1 m1_2 (fun num3 den4 out5 t34 t35 m1_0 m1_1 m1_2 => Z10L N (fun out5 => Z77 N out5 kr) kr M num3 den4 out5 t34 t35 m1_0 m1_1 m1_2)) (m.1.toNat : Int) (i : Int) N 0 out2 (by omega) (by omega) ⟨o1.len, fun _ _ _ => rfl, fun k hk => by omega⟩
          rw [show ((0 : Nat) : Int) = 0 from rfl] at p2
          rw [p2]
          have hgl : g2 = ((gcdL (L.map fun x => out2.getD x 0) : Nat) : Int) := by
            rw [← range_getD L (fun x => out2.getD x 0)]
            exact o1.gcd
          obtain ⟨r1, r2, r3⟩ := hO.piece (out3 := out3) hf hE c1 hg2 (fun x hx => (hval x hx).1) hgl (fun x hx => by
            obtain ⟨k, hk, e⟩ := mem_getD hx
            have := p1.val k hk
            rw [← e]
            rw [show out3.getD (L.getD k 0) 0 = _ from this]
            refine Int.tdiv_mul_cancel ?_
            rw [hgl]
            exact gcdL_dvd (List.mem_map.2 ⟨L.getD k 0, getD_mem 0 hk, rfl⟩)) (fun x hx hni => by
            have hne : ∀ k', k' < L.length → x ≠ L.getD k' 0 := fun k' hk' e => hni (by rw [e]; exact getD_mem 0 hk')
            rw [p1.out x hx hne, o1.old x hx hne]) p1.len
          simp only [Z76]
          rw [w64_succ (by rw [maxLen_val]; omega)]
          exact ih (i + 1) num' den' out3 r1 hf.dl hlt (fun x hx => by
            by_cases e : x = i
            · subst e; exact r2
            · exact r3 x (by omega) (hpos x (by omega))) (by omega)
      · rw [ct (nt hz)]
        simp only [Z76]
        rw [w64_succ (by rw [maxLen_val]; omega)]
        exact ih (i + 1) num den out hO hdl hlt (fun x hx => by
          by_cases e : x = i
          · subst e; exact hz
          · exact hpos x (by omega)) (by omega)
    · rw [cf' (by rw [lk_eq]; exact df (by omega))]
      simp only [Z77]
      rw [hO.fac (fun x hx => hpos x (by omega)), ct' (by rw [hO.ol, Nat.blt_eq]; omega)]
end
theorem ok : Spec := fun m hb hp => ⟨10, fun N hN => by
  have hm : shapedK m = true := hp
  have hdim := shaped_dim hm
  obtain ⟨n, r, hn, hr, hn1, hn5, hnr, hr8, hl⟩ := dim_nat hdim
  have hz : ∀ x, (List.replicate m.1.toNat (0 : Int)).getD x 0 = 0 := fun x => by
    rw [List.getD_eq_getElem?_getD, List.getElem?_replicate]
    split <;> rfl
  have hc : (leB 0 m.1 && decide (m.1 < 1099511627776)) = true := by rw [leB_t (by omega), dt (by omega)]; rfl
  simp only [Z0, Z1, Z2, Z3]
  rw [ct hc, ct hc]
  have key : Z4 N (List.replicate m.1.toNat 0) (List.replicate m.1.toNat 0) m.1 m.2.1 m.2.2 (fun t2 => some ((), (t2, ()))) = some ((), (g m, ())) := by
    simp only [Z4, Z5]
    rw [ct hc]
    simp only [Z6, Z7, Z8, Z9, Z10, List.length_replicate]
    have := outer (ρ := Unit × List Int × Unit) hN hm (fun t2 => some ((), (t2, ()))) N 0 (List.replicate m.1.toNat 0) (List.replicate m.1.toNat 0) (List.replicate m.1.toNat 0) ⟨by simp, by simp, fun y hy h => absurd (hz y) h, fun j hj h => absurd (hz j) h⟩ (by simp) (by omega) (fun x hx => by omega) (by omega)
    exact this
  rw [key, both_self]⟩

end impl_factors
end
end Go.Fw
set_option linter.unusedVariables false
set_option linter.unusedSimpArgs false
set_option maxRecDepth 100000
namespace Go.Fw
noncomputable section
namespace impl_MatrixOk
def g (m : Int × Int × List Int) : Bool := shapedK m && !decide (facK m = [])
end impl_MatrixOk
namespace impl_MatrixOk
def Z0 {ρ : Type} (N : Nat) (m0 : Int × Int × List Int) (kr : Bool → Option ρ) : Option ρ :=
 cond (lk N ((impl_shaped.g m0)))
 (
  cond (lk N (impl_factors.P m0)) (
   kr (lk N (!(decide ((impl_factors.g m0).length = 0))))) none)
 (
  kr false)
def Spec : Prop := ∀  (m0 : Int × Int × List Int), Ty.bd (.pair (.int .i64) (.pair (.int .i64) (.sl 0 (.int .i64)))) m0 → ∃ N0, ∀ N, N0 ≤ N → Z0 N m0 (fun t2 => some ((), (t2, ()))) = some ((), ((g m0), ()))

theorem ok : Spec := fun m hb => ⟨0, fun N hN => by
  simp only [Z0, lk_eq, g, impl_shaped.g, impl_factors.P, impl_factors.g]
  cases shapedK m
  · rfl
  · by_cases h : facK m = []
    · rw [dt h, dt (by rw [h]; rfl)]; rfl
    · rw [df h, df (fun e => h (List.length_eq_zero_iff.1 e))]; rfl⟩

end impl_MatrixOk
end
end Go.Fw
set_option linter.unusedVariables false
set_option linter.unusedSimpArgs false
set_option maxRecDepth 100000
namespace Go.Fw
noncomputable section
namespace slices_Clone_int_int
def P (a : List Int) : Bool := decide (a.length < 1099511627776)
abbrev g (a : List Int) : List Int := a
end slices_Clone_int_int
namespace slices_Clone_int_int
def Z0 {ρ : Type} (N : Nat) (s0 : List Int) (kr : List Int → Option ρ) : Option ρ :=
 cond (lk N (decide (0 < s0.length)))
 (
  cond (lk N (Nat.blt (([] : List Int).length + s0.length) 1099511627776)) (
   kr (([] : List Int) ++ s0)) none)
 (
  both (
   kr ([] : List Int))
  (
   cond (lk N (Nat.blt (([] : List Int).length + s0.length) 1099511627776)) (
    kr (([] : List Int) ++ s0)) none))
def Spec : Prop := ∀  (s0 : List Int), Ty.bd (.sl 0 (.int .i64)) s0 → P s0 = true → ∃ N0, ∀ N, N0 ≤ N → Z0 N s0 (fun t2 => some ((), (t2, ()))) = some ((), ((g s0), ()))

theorem ok : Spec := fun a hb hp => ⟨0, fun N hN => by
  have hl : a.length < 1099511627776 := by simpa [P] using hp
  have hc : Nat.blt (([] : List Int).length + a.length) 1099511627776 = true := by simpa using hl
  simp only [Z0, lk_eq, g, hc, cond_true, List.nil_append]
  by_cases h : 0 < a.length
  · simp [h]
  · have : a = [] := List.eq_nil_of_length_eq_zero (by omega)
    subst this
    simp [both_self]⟩

end slices_Clone_int_int
end
end Go.Fw
set_option linter.unusedVariables false
set_option linter.unusedSimpArgs false
set_option maxRecDepth 100000
namespace Go.Fw
noncomputable section
namespace impl_unit
def P (n i : Int) : Bool := decide (0 ≤ n) && (decide (n < 1099511627776) && (decide (0 ≤ i) && decide (i < n)))
def g (n i : Int) : List Int := rowU n.toNat i.toNat
end impl_unit
namespace impl_unit
def Z0 {ρ : Type} (N : Nat) (n0 : Int) (k1 : Int) (kr : List Int → Option ρ) : Option ρ :=
 cond (lk N (leB 0 n0 && decide (n0 < 1099511627776))) (
  cond (lk N (inB k1 (List.replicate n0.toNat (0 : Int)).length)) (
   kr ((List.replicate n0.toNat (0 : Int)).set k1.toNat 1)) none) none
def Spec : Prop := ∀  (n0 : Int) (k1 : Int), P n0 k1 = true → ∃ N0, ∀ N, N0 ≤ N → Z0 N n0 k1 (fun t4 => some ((), (t4, ()))) = some ((), ((g n0 k1), ()))

theorem ok : Spec := fun n i hp => ⟨0, fun N hN => by
  simp only [P, Bool.and_eq_true, decide_eq_true_eq] at hp
  obtain ⟨h1, h2, h3, h4⟩ := hp
  simp only [Z0]
  rw [ct (by rw [leB_t h1, dt h2]; rfl), ct (inB_int h3 (by rw [List.length_replicate]; omega)), set_row (by omega)]
  rfl⟩

end impl_unit
end
end Go.Fw
set_option linter.unusedVariables false
set_option linter.unusedSimpArgs false
set_option maxRecDepth 100000
namespace Go.Fw
noncomputable section
namespace impl_expOk_1
def g (e : Int) : Bool := !(inK e (-20) 20)
end impl_expOk_1
namespace impl_expOk_1
def Z0 {ρ : Type} (N : Nat) (e0 : Int) (kr : Bool → Option ρ) : Option ρ :=
 kr (!(lk N ((impl_within.g e0 (-20) 20))))
def Spec : Prop := ∀  (e0 : Int), ∃ N0, ∀ N, N0 ≤ N → Z0 N e0 (fun t2 => some ((), (t2, ()))) = some ((), ((g e0), ()))

theorem ok : Spec := fun e => ⟨0, fun N hN => by simp only [Z0, lk_eq, g, impl_within.g]⟩

end impl_expOk_1
end
end Go.Fw
set_option linter.unusedVariables false
set_option linter.unusedSimpArgs false
set_option maxRecDepth 100000
namespace Go.Fw
noncomputable section
namespace slices_IndexFunc_int_int_expOk
def go (p : Int → Bool) : List Int → Nat → Int
  | [], _ => -1
  | x :: xs, j => if p x = true then (j : Int) else go p xs (j + 1)
def g (s : List Int) (_ : Unit) : Int := go impl_expOk_1.g s 0
end slices_IndexFunc_int_int_expOk
namespace slices_IndexFunc_int_int_expOk
def Z1 {ρ : Type} (N : Nat) (s0 : List Int) (f1 : Unit) (kn : List Int → Option ρ) : Option ρ :=
 kn s0
def Z4 {ρ : Type} (N : Nat) (s0 : List Int) (kn : List Int → Int → Int → Option ρ) : Option ρ :=
 kn s0 (s0.length : Int) 0
def Z7 {ρ : Type} (N : Nat) (s0 : List Int) (t7 : Int) (t8 : Int) (kn : List Int → Int → Int → Option ρ) (k0 : Option ρ) (kr : Int → Option ρ) : Option ρ :=
 cond (lk N (decide (t8 < t7)))
 (
  cond (lk N (inB t8 s0.length)) (
   cond (lk N ((impl_expOk_1.g (s0.getD t8.toNat 0))))
   (
    kr t8)
   (
    kn s0 t7 (w64 (t8 + 1)))) none)
 (
  k0)
def Z6L {ρ : Type} (N : Nat) (k0 : Option ρ) (kr : Int → Option ρ) : Nat → List Int → Int → Int → Option ρ
  | 0, _, _, _ => none
  | M + 1, s0, t7, t8 => Z7 N s0 t7 t8 (fun s0 t7 t8 => Z6L N k0 kr M s0 t7 t8) k0 kr
def Z6 {ρ : Type} (N : Nat) (s0 : List Int) (t7 : Int) (t8 : Int) (k0 : Option ρ) (kr : Int → Option ρ) : Option ρ := Z6L N k0 kr N s0 t7 t8
def Z5 {ρ : Type} (N : Nat) (s0 : List Int) (t7 : Int) (t8 : Int) (kn : Option ρ) (kr : Int → Option ρ) : Option ρ := Z6 N s0 t7 t8 kn kr
def Z3 {ρ : Type} (N : Nat) (s0 : List Int) (kn : Option ρ) (kr : Int → Option ρ) : Option ρ := Z4 N s0 (fun s0 t7 t8 => Z5 N s0 t7 t8 kn kr)
def Z8 {ρ : Type} (N : Nat)  (kr : Int → Option ρ) : Option ρ :=
 kr (-1)
def Z2 {ρ : Type} (N : Nat) (s0 : List Int) (kr : Int → Option ρ) : Option ρ := Z3 N s0 (Z8 N kr) kr
def Z0 {ρ : Type} (N : Nat) (s0 : List Int) (f1 : Unit) (kr : Int → Option ρ) : Option ρ := Z1 N s0 f1 (fun s0 => Z2 N s0 kr)
def Spec : Prop := ∀  (s0 : List Int) (f1 : Unit), Ty.bd (.sl 0 (.int .i64)) s0 → ∃ N0, ∀ N, N0 ≤ N → Z0 N s0 f1 (fun t4 => some ((), (t4, ()))) = some ((), ((g s0 f1), ()))

theorem loop {ρ : Type} (N : Nat) (kr : Int → Option ρ) (a : List Int) (ha : a.length ≤ maxLen) : ∀ (M j : Nat), j ≤ a.length → a.length - j < M →
    Z6L N (kr (-1)) kr M a (a.length : Int) (j : Int) = kr (go impl_expOk_1.g (a.drop j) j) := by
  intro M
  induction M with
  | zero => intro j _ h; omega
  | succ M ih =>
    intro j hj hM
    simp only [Z6L, Z7]
    by_cases h : j < a.length
    · rw [ct (dt (by omega)), ct (inB_nat h), Int.toNat_natCast, w64_succ (by omega), ih (j + 1) h (by omega), drop_getD 0 h, go]
      cases e : impl_expOk_1.g (a.getD j 0)
      · rw [cf rfl, if_neg (by simp)]
      · rw [ct rfl, if_pos rfl]
    · rw [cf (df (by omega)), List.drop_of_length_le (by omega), go]
theorem ok : Spec := fun a _ ha => ⟨a.length + 1, fun N hN => by
  simp only [Z1, Z4, Z7, Z6, Z5, Z3, Z8, Z2, Z0]
  exact (loop N (fun t => some ((), (t, ()))) a ha.1 N 0 (by omega) (by omega)).trans rfl⟩
theorem go_pos (p : Int → Bool) : ∀ (l : List Int) (j : Nat), 0 ≤ go p l j ↔ ∃ x ∈ l, p x = true
  | [], j => by simp [go]
  | x :: xs, j => by
    rw [go]
    by_cases h : p x = true
    · rw [if_pos h]; simp [h]
    · rw [if_neg h, go_pos p xs]; simp [h]

end slices_IndexFunc_int_int_expOk
end
end Go.Fw
set_option linter.unusedVariables false
set_option linter.unusedSimpArgs false
set_option maxRecDepth 100000
namespace Go.Fw
noncomputable section
namespace slices_ContainsFunc_int_int_expOk
def g (s : List Int) (_ : Unit) : Bool := s.any impl_expOk_1.g
end slices_ContainsFunc_int_int_expOk
namespace slices_ContainsFunc_int_int_expOk
def Z0 {ρ : Type} (N : Nat) (s0 : List Int) (f1 : Unit) (kr : Bool → Option ρ) : Option ρ :=
 kr (lk N (decide (0 ≤ (slices_IndexFunc_int_int_expOk.g s0 ()))))
def Spec : Prop := ∀  (s0 : List Int) (f1 : Unit), Ty.bd (.sl 0 (.int .i64)) s0 → ∃ N0, ∀ N, N0 ≤ N → Z0 N s0 f1 (fun t4 => some ((), (t4, ()))) = some ((), ((g s0 f1), ()))

theorem ok : Spec := fun a _ ha => ⟨0, fun N hN => by
  simp only [Z0, lk_eq, g]
  have := (show 0 ≤ slices_IndexFunc_int_int_expOk.g a () ↔ ∃ x ∈ a, impl_expOk_1.g x = true from slices_IndexFunc_int_int_expOk.go_pos impl_expOk_1.g a 0)
  cases e : a.any impl_expOk_1.g
  · rw [df (fun h => by have := this.1 h; rw [← List.any_eq_true, e] at this; cases this)]
  · rw [dt (this.2 (List.any_eq_true.1 e))]⟩

end slices_ContainsFunc_int_int_expOk
end
end Go.Fw
set_option linter.unusedVariables false
set_option linter.unusedSimpArgs false
set_option maxRecDepth 100000
namespace Go.Fw
noncomputable section
namespace impl_expOk
def g (exp : List Int) (vars : Int) : Bool := expK vars exp
end impl_expOk
namespace impl_expOk
def Z0 {ρ : Type} (N : Nat) (exp0 : List Int) (vars1 : Int) (kr : Bool → Option ρ) : Option ρ :=
 cond (lk N (decide ((exp0.length : Int) = vars1)))
 (
  kr (!(lk N ((slices_ContainsFunc_int_int_expOk.g exp0 ())))))
 (
  kr false)
def Spec : Prop := ∀  (exp0 : List Int) (vars1 : Int), Ty.bd (.sl 0 (.int .i64)) exp0 → ∃ N0, ∀ N, N0 ≤ N → Z0 N exp0 vars1 (fun t4 => some ((), (t4, ()))) = some ((), ((g exp0 vars1), ()))

theorem ok : Spec := fun exp vars hb => ⟨0, fun N hN => by
  simp only [Z0, lk_eq, g, slices_ContainsFunc_int_int_expOk.g, expK]
  by_cases h : (exp.length : Int) = vars
  · simp only [dt h, cond_true, Bool.true_and, List.not_any_eq_all_not]
    simp [impl_expOk_1.g]
  · simp only [df h, cond_false, Bool.false_and]⟩

end impl_expOk
end
end Go.Fw
set_option linter.unusedVariables false
set_option linter.unusedSimpArgs false
set_option maxRecDepth 100000
namespace Go.Fw
noncomputable section
namespace impl_MonomialLaurent
def g (exp : List Int) : Int × List (List Int × Int) := if (inK exp.length 1 8 && exp.all fun x => inK x (-20) 20) = true then (exp.length, [(exp, 1)]) else (0, [])
end impl_MonomialLaurent
namespace impl_MonomialLaurent
def Z0 {ρ : Type} (N : Nat) (exp0 : List Int) (kr : (List (List Int × Int)) → Int → Option ρ) : Option ρ :=
 cond (!(lk N ((impl_within.g (exp0.length : Int) 1 8))))
 (
  kr ([] : List (List Int × Int)) 0)
 (
  cond (!(lk N ((impl_expOk.g exp0 (exp0.length : Int)))))
  (
   kr ([] : List (List Int × Int)) 0)
  (
   cond (lk N (slices_Clone_int_int.P exp0)) (
    kr ([((slices_Clone_int_int.g exp0), 1)] : List (List Int × Int)) (exp0.length : Int)) none))
def Spec : Prop := ∀  (exp0 : List Int), Ty.bd (.sl 0 (.int .i64)) exp0 → ∃ N0, ∀ N, N0 ≤ N → Z0 N exp0 (fun t2_1 t2_0 => some ((), ((t2_0, t2_1), ()))) = some ((), ((g exp0), ()))

theorem ok : Spec := fun exp hb => ⟨0, fun N hN => by
  simp only [Z0, lk_eq, g, impl_within.g, impl_expOk.g, expK, dt (rfl : (exp.length : Int) = exp.length), Bool.true_and]
  cases h1 : inK exp.length 1 8
  · simp
  · cases h2 : exp.all fun x => inK x (-20) 20
    · simp
    · have : slices_Clone_int_int.P exp = true := by
        simp only [inK, Bool.and_eq_true, decide_eq_true_eq] at h1
        simp only [slices_Clone_int_int.P, decide_eq_true_eq]
        omega
      simp [this, slices_Clone_int_int.g]⟩

end impl_MonomialLaurent
end
end Go.Fw
set_option linter.unusedVariables false
set_option linter.unusedSimpArgs false
set_option maxRecDepth 100000
namespace Go.Fw
noncomputable section
namespace impl_InitialSeed
def g (m : Int × Int × List Int) : ((Int × Int × List Int) × List (Int × List (List Int × Int))) × Bool :=
  if (shapedK m && !decide (facK m = [])) = true then (seedK m, true) else (((0, 0, []), []), false)
end impl_InitialSeed
namespace impl_InitialSeed
def Z1 {ρ : Type} (N : Nat) (m0 : Int × Int × List Int) (kn : Int → Int → List Int → Int → Int → Option ρ) : Option ρ :=
 kn m0.1 m0.2.1 m0.2.2 0 0
def Z3 {ρ : Type} (N : Nat) (m1_0 : Int) (m1_1 : Int) (m1_2 : List Int) (t2_0 : Int) (t2_1 : Int) (kn : Int → Int → List Int → Int → Int → Option ρ) (kr : List Int → (List (Int × List (List Int × Int))) → Bool → Int → Int → Option ρ) : Option ρ :=
 cond (!(lk N ((impl_MatrixOk.g (m1_0, (m1_1, m1_2))))))
 (
  kr ([] : List Int) ([] : List (Int × List (List Int × Int))) false 0 0)
 (
  kn m1_0 m1_1 m1_2 t2_0 t2_1)
def Z5 {ρ : Type} (N : Nat) (m1_0 : Int) (m1_1 : Int) (m1_2 : List Int) (t2_0 : Int) (t2_1 : Int) (kn : List Int → Int → Int → List Int → Int → Int → Int → Int → Option ρ) : Option ρ :=
 both (
  cond (lk N (slices_Clone_int_int.P m1_2)) (
   both (
    both (
     kn (slices_Clone_int_int.g m1_2) m1_0 m1_1 m1_2 t2_0 t2_1 m1_0 m1_1)
    (
     kn (slices_Clone_int_int.g m1_2) m1_0 m1_1 m1_2 t2_0 t2_1 m1_0 m1_1))
   (
    kn (slices_Clone_int_int.g m1_2) m1_0 m1_1 m1_2 t2_0 t2_1 m1_0 m1_1)) none)
 (
  cond (lk N (slices_Clone_int_int.P m1_2)) (
   kn (slices_Clone_int_int.g m1_2) m1_0 m1_1 m1_2 t2_0 t2_1 m1_0 m1_1) none)
def Z8 {ρ : Type} (N : Nat) (s4_2 : List Int) (m1_0 : Int) (m1_1 : Int) (m1_2 : List Int) (t2_0 : Int) (t2_1 : Int) (s4_0 : Int) (s4_1 : Int) (kn : List Int → Int → Int → Int → List Int → Int → Int → Int → Int → Option ρ) : Option ρ :=
 kn s4_2 0 m1_0 m1_1 m1_2 t2_0 t2_1 s4_0 s4_1
def Z11 {ρ : Type} (N : Nat) (s4_2 : List Int) (s4_3 : List (Int × List (List Int × Int))) (i5 : Int) (m1_0 : Int) (m1_1 : Int) (m1_2 : List Int) (t2_0 : Int) (t2_1 : Int) (s4_0 : Int) (s4_1 : Int) (kn : List Int → (List (Int × List (List Int × Int))) → Int → Int → Int → List Int → Int → Int → Int → Int → Option ρ) (k0 : List Int → (List (Int × List (List Int × Int))) → Int → Int → Int → Int → Option ρ) : Option ρ :=
 cond (lk N (decide (i5 < m1_1)))
 (
  cond (lk N (impl_unit.P m1_1 i5)) (
   cond (lk N (Nat.blt (s4_3.length + ([(impl_MonomialLaurent.g (impl_unit.g m1_1 i5))] : List (Int × List (List Int × Int))).length) 1099511627776)) (
    kn s4_2 (s4_3 ++ ([(impl_MonomialLaurent.g (impl_unit.g m1_1 i5))] : List (Int × List (List Int × Int)))) (w64 (i5 + 1)) m1_0 m1_1 m1_2 t2_0 t2_1 s4_0 s4_1) none) none)
 (
  k0 s4_2 s4_3 t2_0 t2_1 s4_0 s4_1)
def Z10L {ρ : Type} (N : Nat) (k0 : List Int → (List (Int × List (List Int × Int))) → Int → Int → Int → Int → Option ρ) : Nat → List Int → (List (Int × List (List Int × Int))) → Int → Int → Int → List Int → Int → Int → Int → Int → Option ρ
  | 0, _, _, _, _, _, _, _, _, _, _ => none
  | M + 1, s4_2, s4_3, i5, m1_0, m1_1, m1_2, t2_0, t2_1, s4_0, s4_1 => Z11 N s4_2 s4_3 i5 m1_0 m1_1 m1_2 t2_0 t2_1 s4_0 s4_1 (fun s4_2 s4_3 i5 m1_0 m1_1 m1_2 t2_0 t2_1 s4_0 s4_1 => Z10L N k0 M s4_2 s4_3 i5 m1_0 m1_1 m1_2 t2_0 t2_1 s4_0 s4_1) k0
def Z10 {ρ : Type} (N : Nat) (s4_2 : List Int) (i5 : Int) (m1_0 : Int) (m1_1 : Int) (m1_2 : List Int) (t2_0 : Int) (t2_1 : Int) (s4_0 : Int) (s4_1 : Int) (k0 : List Int → (List (Int × List (List Int × Int))) → Int → Int → Int → Int → Option ρ) : Option ρ := Z10L N k0 N s4_2 ([] : List (Int × List (List Int × Int))) i5 m1_0 m1_1 m1_2 t2_0 t2_1 s4_0 s4_1
def Z9 {ρ : Type} (N : Nat) (s4_2 : List Int) (i5 : Int) (m1_0 : Int) (m1_1 : Int) (m1_2 : List Int) (t2_0 : Int) (t2_1 : Int) (s4_0 : Int) (s4_1 : Int) (kn : List Int → (List (Int × List (List Int × Int))) → Int → Int → Int → Int → Option ρ) : Option ρ := Z10 N s4_2 i5 m1_0 m1_1 m1_2 t2_0 t2_1 s4_0 s4_1 kn
def Z7 {ρ : Type} (N : Nat) (s4_2 : List Int) (m1_0 : Int) (m1_1 : Int) (m1_2 : List Int) (t2_0 : Int) (t2_1 : Int) (s4_0 : Int) (s4_1 : Int) (kn : List Int → (List (Int × List (List Int × Int))) → Int → Int → Int → Int → Option ρ) : Option ρ := Z8 N s4_2 m1_0 m1_1 m1_2 t2_0 t2_1 s4_0 s4_1 (fun s4_2 i5 m1_0 m1_1 m1_2 t2_0 t2_1 s4_0 s4_1 => Z9 N s4_2 i5 m1_0 m1_1 m1_2 t2_0 t2_1 s4_0 s4_1 kn)
def Z12 {ρ : Type} (N : Nat) (s4_2 : List Int) (s4_3 : List (Int × List (List Int × Int))) (t2_0 : Int) (t2_1 : Int) (s4_0 : Int) (s4_1 : Int) (kr : List Int → (List (Int × List (List Int × Int))) → Bool → Int → Int → Option ρ) : Option ρ :=
 kr s4_2 s4_3 true s4_0 s4_1
def Z6 {ρ : Type} (N : Nat) (s4_2 : List Int) (m1_0 : Int) (m1_1 : Int) (m1_2 : List Int) (t2_0 : Int) (t2_1 : Int) (s4_0 : Int) (s4_1 : Int) (kr : List Int → (List (Int × List (List Int × Int))) → Bool → Int → Int → Option ρ) : Option ρ := Z7 N s4_2 m1_0 m1_1 m1_2 t2_0 t2_1 s4_0 s4_1 (fun s4_2 s4_3 t2_0 t2_1 s4_0 s4_1 => Z12 N s4_2 s4_3 t2_0 t2_1 s4_0 s4_1 kr)
def Z4 {ρ : Type} (N : Nat) (m1_0 : Int) (m1_1 : Int) (m1_2 : List Int) (t2_0 : Int) (t2_1 : Int) (kr : List Int → (List (Int × List (List Int × Int))) → Bool → Int → Int → Option ρ) : Option ρ := Z5 N m1_0 m1_1 m1_2 t2_0 t2_1 (fun s4_2 m1_0 m1_1 m1_2 t2_0 t2_1 s4_0 s4_1 => Z6 N s4_2 m1_0 m1_1 m1_2 t2_0 t2_1 s4_0 s4_1 kr)
def Z2 {ρ : Type} (N : Nat) (m1_0 : Int) (m1_1 : Int) (m1_2 : List Int) (t2_0 : Int) (t2_1 : Int) (kr : List Int → (List (Int × List (List Int × Int))) → Bool → Int → Int → Option ρ) : Option ρ := Z3 N m1_0 m1_1 m1_2 t2_0 t2_1 (fun m1_0 m1_1 m1_2 t2_0 t2_1 => Z4 N m1_0 m1_1 m1_2 t2_0 t2_1 kr) kr
def Z0 {ρ : Type} (N : Nat) (m0 : Int × Int × List Int) (kr : List Int → (List (Int × List (List Int × Int))) → Bool → Int → Int → Option ρ) : Option ρ := Z1 N m0 (fun m1_0 m1_1 m1_2 t2_0 t2_1 => Z2 N m1_0 m1_1 m1_2 t2_0 t2_1 kr)
def Spec : Prop := ∀  (m0 : Int × Int × List Int), Ty.bd (.pair (.int .i64) (.pair (.int .i64) (.sl 0 (.int .i64)))) m0 → ∃ N0, ∀ N, N0 ≤ N → Z0 N m0 (fun t2_2 t2_3 t3 t2_0 t2_1 => some ((), (((t2_0, (t2_1, t2_2)), t2_3), (t3, ())))) = some ((), ((g m0).1, ((g m0).2, ())))

theorem loop {ρ : Type} {N : Nat} {m : Int × Int × List Int} (hd : dimK m = true) (k0 : List Int → (List (Int × List (List Int × Int))) → Int → Int → Int → Int → Option ρ) (s : List Int) (t0 t1 s0 s1 : Int) : ∀ (M i : Nat), i ≤ m.2.1.toNat → m.2.1.toNat - i < M →
    Z10L N k0 M s ((varsK m.2.1.toNat).take i) (i : Int) m.1 m.2.1 m.2.2 t0 t1 s0 s1 = k0 s (varsK m.2.1.toNat) t0 t1 s0 s1 := by
  obtain ⟨n, r, hn, hr, hn1, hn5, hnr, hr8, hl⟩ := dim_nat hd
  have hcl : (varsK m.2.1.toNat).length = m.2.1.toNat := by simp [varsK]
  intro M
  induction M with
  | zero => intro i _ h; omega
  | succ M ih =>
    intro i hi hM
    simp only [Z10L, Z11]
    by_cases h : i < m.2.1.toNat
    · have ha : (varsK m.2.1.toNat).take i ++ [monoG (rowU m.2.1.toNat i)] = (varsK m.2.1.toNat).take (i + 1) := car_take (fun i => monoG (rowU m.2.1.toNat i)) h
      have hU : impl_unit.P m.2.1 (i : Int) = true := by
        simp only [impl_unit.P, Bool.and_eq_true, decide_eq_true_eq]
        omega
      have hG : impl_MonomialLaurent.g (impl_unit.g m.2.1 (i : Int)) = monoG (rowU m.2.1.toNat i) := rfl
      rw [ct (dt (by omega)), ct hU, hG, ct (by rw [Nat.blt_eq, List.length_take, hcl, List.length_singleton]; omega), ha, w64_succ (by rw [maxLen_val]; omega)]
      exact ih (i + 1) h (by omega)
    · rw [cf (df (by omega)), List.take_of_length_le (by rw [hcl]; omega)]
theorem ok : Spec := fun m hb => ⟨10, fun N hN => by
  have e0 : impl_MatrixOk.g (m.1, (m.2.1, m.2.2)) = (shapedK m && !decide (facK m = [])) := rfl
  simp only [Z0, Z1, Z2, Z3, e0, g, lk_eq]
  cases h1 : (shapedK m && !decide (facK m = []))
  · rfl
  have hs : shapedK m = true := by
    simp only [Bool.and_eq_true] at h1
    exact h1.1
  have hd := shaped_dim hs
  obtain ⟨n, r, hn, hr, hn1, hn5, hnr, hr8, hl⟩ := dim_nat hd
  have hlen := dim_len hd
  have hc : slices_Clone_int_int.P m.2.2 = true := dt (by omega)
  simp only [Bool.not_true, cond_false, Z4, Z5]
  rw [ct hc, ct hc, both_self, both_self, both_self]
  simp only [Z6, Z7, Z8, Z9, Z10]
  have := loop (ρ := Unit × ((Int × Int × List Int) × List (Int × List (List Int × Int))) × Bool × Unit) (N := N) hd (fun s4_2 s4_3 t2_0 t2_1 s4_0 s4_1 => Z12 N s4_2 s4_3 t2_0 t2_1 s4_0 s4_1 (fun t2_2 t2_3 t3 t2_0 t2_1 => some ((), (((t2_0, (t2_1, t2_2)), t2_3), (t3, ()))))) m.2.2 0 0 m.1 m.2.1 N 0 (by omega) (by omega)
  exact this⟩

end impl_InitialSeed
end
end Go.Fw
set_option linter.unusedVariables false
set_option linter.unusedSimpArgs false
set_option maxRecDepth 100000
namespace Go.Fw
noncomputable section
namespace laws_eqIntS
def g (a b : List Int) : Bool := decide (a = b)
end laws_eqIntS
namespace laws_eqIntS
def Z1 {ρ : Type} (N : Nat) (a0 : List Int) (b1 : List Int) (kn : List Int → List Int → Option ρ) : Option ρ :=
 kn a0 b1
def Z3 {ρ : Type} (N : Nat) (a0 : List Int) (b1 : List Int) (kn : List Int → List Int → Option ρ) (kr : Bool → Option ρ) : Option ρ :=
 cond (lk N (!(decide ((a0.length : Int) = (b1.length : Int)))))
 (
  kr false)
 (
  kn a0 b1)
def Z6 {ρ : Type} (N : Nat) (a0 : List Int) (b1 : List Int) (kn : List Int → List Int → Int → Option ρ) : Option ρ :=
 kn a0 b1 0
def Z9 {ρ : Type} (N : Nat) (a0 : List Int) (b1 : List Int) (i5 : Int) (kn : List Int → List Int → Int → Option ρ) (k0 : Option ρ) (kr : Bool → Option ρ) : Option ρ :=
 cond (lk N (decide (i5 < (a0.length : Int))))
 (
  cond (lk N (inB i5 a0.length)) (
   cond (lk N (inB i5 b1.length)) (
    cond (lk N (!(decide ((a0.getD i5.toNat 0) = (b1.getD i5.toNat 0)))))
    (
     kr false)
    (
     kn a0 b1 (w64 (i5 + 1)))) none) none)
 (
  k0)
def Z8L {ρ : Type} (N : Nat) (k0 : Option ρ) (kr : Bool → Option ρ) : Nat → List Int → List Int → Int → Option ρ
  | 0, _, _, _ => none
  | M + 1, a0, b1, i5 => Z9 N a0 b1 i5 (fun a0 b1 i5 => Z8L N k0 kr M a0 b1 i5) k0 kr
def Z8 {ρ : Type} (N : Nat) (a0 : List Int) (b1 : List Int) (i5 : Int) (k0 : Option ρ) (kr : Bool → Option ρ) : Option ρ := Z8L N k0 kr N a0 b1 i5
def Z7 {ρ : Type} (N : Nat) (a0 : List Int) (b1 : List Int) (i5 : Int) (kn : Option ρ) (kr : Bool → Option ρ) : Option ρ := Z8 N a0 b1 i5 kn kr
def Z5 {ρ : Type} (N : Nat) (a0 : List Int) (b1 : List Int) (kn : Option ρ) (kr : Bool → Option ρ) : Option ρ := Z6 N a0 b1 (fun a0 b1 i5 => Z7 N a0 b1 i5 kn kr)
def Z10 {ρ : Type} (N : Nat)  (kr : Bool → Option ρ) : Option ρ :=
 kr true
def Z4 {ρ : Type} (N : Nat) (a0 : List Int) (b1 : List Int) (kr : Bool → Option ρ) : Option ρ := Z5 N a0 b1 (Z10 N kr) kr
def Z2 {ρ : Type} (N : Nat) (a0 : List Int) (b1 : List Int) (kr : Bool → Option ρ) : Option ρ := Z3 N a0 b1 (fun a0 b1 => Z4 N a0 b1 kr) kr
def Z0 {ρ : Type} (N : Nat) (a0 : List Int) (b1 : List Int) (kr : Bool → Option ρ) : Option ρ := Z1 N a0 b1 (fun a0 b1 => Z2 N a0 b1 kr)
def Spec : Prop := ∀  (a0 : List Int) (b1 : List Int), Ty.bd (.sl 0 (.int .i64)) a0 → Ty.bd (.sl 0 (.int .i64)) b1 → ∃ N0, ∀ N, N0 ≤ N → Z0 N a0 b1 (fun t4 => some ((), (t4, ()))) = some ((), ((g a0 b1), ()))

theorem loop {ρ : Type} (N : Nat) (k0 : Option ρ) (kr : Bool → Option ρ) (a b : List Int) (hl : a.length = b.length) (ha : a.length ≤ maxLen) : ∀ (M j : Nat), j ≤ a.length → a.length - j < M →
    Z8L N k0 kr M a b (j : Int) = if a.drop j = b.drop j then k0 else kr false := by
  intro M
  induction M with
  | zero => intro j _ h; omega
  | succ M ih =>
    intro j hj hM
    simp only [Z8L, Z9]
    by_cases h : j < a.length
    · rw [ct (dt (by omega)), ct (inB_nat h), ct (inB_nat (by omega)), Int.toNat_natCast, w64_succ (by omega), ih (j + 1) h (by omega), drop_getD 0 h, drop_getD (l := b) (j := j) 0 (by omega)]
      by_cases e : a.getD j 0 = b.getD j 0
      · rw [cf (nf e), e]
        simp only [List.cons.injEq, true_and]
      · rw [ct (nt e), if_neg (by simp only [List.cons.injEq]; exact fun h => e h.1)]
    · rw [cf (df (by omega)), if_pos (by rw [List.drop_of_length_le (by omega), List.drop_of_length_le (by omega)])]
theorem ok : Spec := fun a b ha hb => ⟨a.length + 1, fun N hN => by
  simp only [Z1, Z3, Z6, Z9, Z8, Z7, Z5, Z10, Z4, Z2, Z0]
  by_cases hl : a.length = b.length
  · rw [cf (nf (by omega))]
    rw [show (0 : Int) = ((0 : Nat) : Int) from rfl, loop _ _ _ a b hl ha.1 N 0 (by omega) (by omega)]
    by_cases e : a = b <;> simp [e, g]
  · rw [ct (nt (by omega))]
    have : a ≠ b := fun e => hl (by rw [e])
    simp [g, this]⟩

end laws_eqIntS
end
end Go.Fw
set_option linter.unusedVariables false
set_option linter.unusedSimpArgs false
set_option maxRecDepth 100000
namespace Go.Fw
noncomputable section
namespace laws_eqMatrix
def g (a b : Int × Int × List Int) : Bool := decide (a = b)
end laws_eqMatrix
namespace laws_eqMatrix
def Z0 {ρ : Type} (N : Nat) (a0 : Int × Int × List Int) (b1 : Int × Int × List Int) (kr : Bool → Option ρ) : Option ρ :=
 cond (lk N (!(decide (a0.1 = b1.1))))
 (
  kr false)
 (
  cond (lk N (!(decide (a0.2.1 = b1.2.1))))
  (
   kr false)
  (
   cond (!(lk N ((laws_eqIntS.g a0.2.2 b1.2.2))))
   (
    kr false)
   (
    kr true)))
def Spec : Prop := ∀  (a0 : Int × Int × List Int) (b1 : Int × Int × List Int), Ty.bd (.pair (.int .i64) (.pair (.int .i64) (.sl 0 (.int .i64)))) a0 → Ty.bd (.pair (.int .i64) (.pair (.int .i64) (.sl 0 (.int .i64)))) b1 → ∃ N0, ∀ N, N0 ≤ N → Z0 N a0 b1 (fun t4 => some ((), (t4, ()))) = some ((), ((g a0 b1), ()))

theorem ok : Spec := fun a b ha hb => ⟨0, fun N hN => by
  obtain ⟨a1, a2, a3⟩ := a
  obtain ⟨b1, b2, b3⟩ := b
  simp only [Z0, lk_eq, g, laws_eqIntS.g, Prod.mk.injEq]
  by_cases h1 : a1 = b1 <;> by_cases h2 : a2 = b2 <;> by_cases h3 : a3 = b3 <;> simp [h1, h2, h3]⟩

end laws_eqMatrix
end
end Go.Fw
set_option linter.unusedVariables false
set_option linter.unusedSimpArgs false
set_option maxRecDepth 100000
namespace Go.Fw
noncomputable section
namespace laws_eqTerm
def g (a b : List Int × Int) : Bool := decide (a = b)
end laws_eqTerm
namespace laws_eqTerm
def Z0 {ρ : Type} (N : Nat) (a0 : List Int × Int) (b1 : List Int × Int) (kr : Bool → Option ρ) : Option ρ :=
 cond (!(lk N ((laws_eqIntS.g a0.1 b1.1))))
 (
  kr false)
 (
  cond (lk N (!(decide (a0.2 = b1.2))))
  (
   kr false)
  (
   kr true))
def Spec : Prop := ∀  (a0 : List Int × Int) (b1 : List Int × Int), Ty.bd (.pair (.sl 0 (.int .i64)) (.int .i64)) a0 → Ty.bd (.pair (.sl 0 (.int .i64)) (.int .i64)) b1 → ∃ N0, ∀ N, N0 ≤ N → Z0 N a0 b1 (fun t4 => some ((), (t4, ()))) = some ((), ((g a0 b1), ()))

theorem ok : Spec := fun a b ha hb => ⟨0, fun N hN => by
  obtain ⟨a1, a2⟩ := a
  obtain ⟨b1, b2⟩ := b
  simp only [Z0, lk_eq, g, laws_eqIntS.g, Prod.mk.injEq]
  by_cases h1 : a1 = b1 <;> by_cases h2 : a2 = b2 <;> simp [h1, h2]⟩

end laws_eqTerm
end
end Go.Fw
set_option linter.unusedVariables false
set_option linter.unusedSimpArgs false
set_option maxRecDepth 100000
namespace Go.Fw
noncomputable section
namespace laws_eqTermS
def g (a b : List (List Int × Int)) : Bool := decide (a = b)
end laws_eqTermS
namespace laws_eqTermS
def Z1 {ρ : Type} (N : Nat) (a0 : List (List Int × Int)) (b1 : List (List Int × Int)) (kn : (List (List Int × Int)) → (List (List Int × Int)) → Option ρ) : Option ρ :=
 kn a0 b1
def Z3 {ρ : Type} (N : Nat) (a0 : List (List Int × Int)) (b1 : List (List Int × Int)) (kn : (List (List Int × Int)) → (List (List Int × Int)) → Option ρ) (kr : Bool → Option ρ) : Option ρ :=
 cond (lk N (!(decide ((a0.length : Int) = (b1.length : Int)))))
 (
  kr false)
 (
  kn a0 b1)
def Z6 {ρ : Type} (N : Nat) (a0 : List (List Int × Int)) (b1 : List (List Int × Int)) (kn : (List (List Int × Int)) → (List (List Int × Int)) → Int → Option ρ) : Option ρ :=
 kn a0 b1 0
def Z9 {ρ : Type} (N : Nat) (a0 : List (List Int × Int)) (b1 : List (List Int × Int)) (i5 : Int) (kn : (List (List Int × Int)) → (List (List Int × Int)) → Int → Option ρ) (k0 : Option ρ) (kr : Bool → Option ρ) : Option ρ :=
 cond (lk N (decide (i5 < (a0.length : Int))))
 (
  cond (lk N (inB i5 a0.length)) (
   cond (lk N (inB i5 b1.length)) (
    cond (!(lk N ((laws_eqTerm.g (a0.getD i5.toNat ([], 0)) (b1.getD i5.toNat ([], 0))))))
    (
     kr false)
    (
     kn a0 b1 (w64 (i5 + 1)))) none) none)
 (
  k0)
def Z8L {ρ : Type} (N : Nat) (k0 : Option ρ) (kr : Bool → Option ρ) : Nat → (List (List Int × Int)) → (List (List Int × Int)) → Int → Option ρ
  | 0, _, _, _ => none
  | M + 1, a0, b1, i5 => Z9 N a0 b1 i5 (fun a0 b1 i5 => Z8L N k0 kr M a0 b1 i5) k0 kr
def Z8 {ρ : Type} (N : Nat) (a0 : List (List Int × Int)) (b1 : List (List Int × Int)) (i5 : Int) (k0 : Option ρ) (kr : Bool → Option ρ) : Option ρ := Z8L N k0 kr N a0 b1 i5
def Z7 {ρ : Type} (N : Nat) (a0 : List (List Int × Int)) (b1 : List (List Int × Int)) (i5 : Int) (kn : Option ρ) (kr : Bool → Option ρ) : Option ρ := Z8 N a0 b1 i5 kn kr
def Z5 {ρ : Type} (N : Nat) (a0 : List (List Int × Int)) (b1 : List (List Int × Int)) (kn : Option ρ) (kr : Bool → Option ρ) : Option ρ := Z6 N a0 b1 (fun a0 b1 i5 => Z7 N a0 b1 i5 kn kr)
def Z10 {ρ : Type} (N : Nat)  (kr : Bool → Option ρ) : Option ρ :=
 kr true
def Z4 {ρ : Type} (N : Nat) (a0 : List (List Int × Int)) (b1 : List (List Int × Int)) (kr : Bool → Option ρ) : Option ρ := Z5 N a0 b1 (Z10 N kr) kr
def Z2 {ρ : Type} (N : Nat) (a0 : List (List Int × Int)) (b1 : List (List Int × Int)) (kr : Bool → Option ρ) : Option ρ := Z3 N a0 b1 (fun a0 b1 => Z4 N a0 b1 kr) kr
def Z0 {ρ : Type} (N : Nat) (a0 : List (List Int × Int)) (b1 : List (List Int × Int)) (kr : Bool → Option ρ) : Option ρ := Z1 N a0 b1 (fun a0 b1 => Z2 N a0 b1 kr)
def Spec : Prop := ∀  (a0 : List (List Int × Int)) (b1 : List (List Int × Int)), Ty.bd (.sl 0 (.pair (.sl 0 (.int .i64)) (.int .i64))) a0 → Ty.bd (.sl 0 (.pair (.sl 0 (.int .i64)) (.int .i64))) b1 → ∃ N0, ∀ N, N0 ≤ N → Z0 N a0 b1 (fun t4 => some ((), (t4, ()))) = some ((), ((g a0 b1), ()))

theorem loop {ρ : Type} (N : Nat) (k0 : Option ρ) (kr : Bool → Option ρ) (a b : List (List Int × Int)) (hl : a.length = b.length) (ha : a.length ≤ maxLen) : ∀ (M j : Nat), j ≤ a.length → a.length - j < M →
    Z8L N k0 kr M a b (j : Int) = if a.drop j = b.drop j then k0 else kr false := by
  intro M
  induction M with
  | zero => intro j _ h; omega
  | succ M ih =>
    intro j hj hM
    simp only [Z8L, Z9]
    by_cases h : j < a.length
    · rw [ct (dt (by omega)), ct (inB_nat h), ct (inB_nat (by omega)), Int.toNat_natCast, w64_succ (by omega), ih (j + 1) h (by omega), drop_getD ([], 0) h, drop_getD (l := b) (j := j) ([], 0) (by omega)]
      by_cases e : a.getD j ([], 0) = b.getD j ([], 0)
      · rw [cf' (by rw [lk_eq, laws_eqTerm.g, dt e]; rfl), e]
        simp only [List.cons.injEq, true_and]
      · rw [ct' (by rw [lk_eq, laws_eqTerm.g, df e]; rfl), if_neg (by simp only [List.cons.injEq]; exact fun h => e h.1)]
    · rw [cf (df (by omega)), if_pos (by rw [List.drop_of_length_le (by omega), List.drop_of_length_le (by omega)])]
theorem ok : Spec := fun a b ha hb => ⟨a.length + 1, fun N hN => by
  simp only [Z1, Z3, Z6, Z9, Z8, Z7, Z5, Z10, Z4, Z2, Z0]
  by_cases hl : a.length = b.length
  · rw [cf (nf (by omega))]
    rw [show (0 : Int) = ((0 : Nat) : Int) from rfl, loop _ _ _ a b hl ha.1 N 0 (by omega) (by omega)]
    by_cases e : a = b <;> simp [e, g]
  · rw [ct (nt (by omega))]
    have : a ≠ b := fun e => hl (by rw [e])
    simp [g, this]⟩

end laws_eqTermS
end
end Go.Fw
set_option linter.unusedVariables false
set_option linter.unusedSimpArgs false
set_option maxRecDepth 100000
namespace Go.Fw
noncomputable section
namespace laws_eqLaurent
def g (a b : Int × List (List Int × Int)) : Bool := decide (a = b)
end laws_eqLaurent
namespace laws_eqLaurent
def Z0 {ρ : Type} (N : Nat) (a0 : Int × List (List Int × Int)) (b1 : Int × List (List Int × Int)) (kr : Bool → Option ρ) : Option ρ :=
 cond (lk N (!(decide (a0.1 = b1.1))))
 (
  kr false)
 (
  cond (!(lk N ((laws_eqTermS.g a0.2 b1.2))))
  (
   kr false)
  (
   kr true))
def Spec : Prop := ∀  (a0 : Int × List (List Int × Int)) (b1 : Int × List (List Int × Int)), Ty.bd (.pair (.int .i64) (.sl 0 (.pair (.sl 0 (.int .i64)) (.int .i64)))) a0 → Ty.bd (.pair (.int .i64) (.sl 0 (.pair (.sl 0 (.int .i64)) (.int .i64)))) b1 → ∃ N0, ∀ N, N0 ≤ N → Z0 N a0 b1 (fun t4 => some ((), (t4, ()))) = some ((), ((g a0 b1), ()))

theorem ok : Spec := fun a b ha hb => ⟨0, fun N hN => by
  obtain ⟨a1, a2⟩ := a
  obtain ⟨b1, b2⟩ := b
  simp only [Z0, lk_eq, g, laws_eqTermS.g, Prod.mk.injEq]
  by_cases h1 : a1 = b1 <;> by_cases h2 : a2 = b2 <;> simp [h1, h2]⟩

end laws_eqLaurent
end
end Go.Fw
set_option linter.unusedVariables false
set_option linter.unusedSimpArgs false
set_option maxRecDepth 100000
namespace Go.Fw
noncomputable section
namespace laws_eqLaurentS
def g (a b : List (Int × List (List Int × Int))) : Bool := decide (a = b)
end laws_eqLaurentS
namespace laws_eqLaurentS
def Z1 {ρ : Type} (N : Nat) (a0 : List (Int × List (List Int × Int))) (b1 : List (Int × List (List Int × Int))) (kn : (List (Int × List (List Int × Int))) → (List (Int × List (List Int × Int))) → Option ρ) : Option ρ :=
 kn a0 b1
def Z3 {ρ : Type} (N : Nat) (a0 : List (Int × List (List Int × Int))) (b1 : List (Int × List (List Int × Int))) (kn : (List (Int × List (List Int × Int))) → (List (Int × List (List Int × Int))) → Option ρ) (kr : Bool → Option ρ) : Option ρ :=
 cond (lk N (!(decide ((a0.length : Int) = (b1.length : Int)))))
 (
  kr false)
 (
  kn a0 b1)
def Z6 {ρ : Type} (N : Nat) (a0 : List (Int × List (List Int × Int))) (b1 : List (Int × List (List Int × Int))) (kn : (List (Int × List (List Int × Int))) → (List (Int × List (List Int × Int))) → Int → Option ρ) : Option ρ :=
 kn a0 b1 0
def Z9 {ρ : Type} (N : Nat) (a0 : List (Int × List (List Int × Int))) (b1 : List (Int × List (List Int × Int))) (i5 : Int) (kn : (List (Int × List (List Int × Int))) → (List (Int × List (List Int × Int))) → Int → Option ρ) (k0 : Option ρ) (kr : Bool → Option ρ) : Option ρ :=
 cond (lk N (decide (i5 < (a0.length : Int))))
 (
  cond (lk N (inB i5 a0.length)) (
   cond (lk N (inB i5 b1.length)) (
    cond (!(lk N ((laws_eqLaurent.g (a0.getD i5.toNat (0, [])) (b1.getD i5.toNat (0, []))))))
    (
     kr false)
    (
     kn a0 b1 (w64 (i5 + 1)))) none) none)
 (
  k0)
def Z8L {ρ : Type} (N : Nat) (k0 : Option ρ) (kr : Bool → Option ρ) : Nat → (List (Int × List (List Int × Int))) → (List (Int × List (List Int × Int))) → Int → Option ρ
  | 0, _, _, _ => none
  | M + 1, a0, b1, i5 => Z9 N a0 b1 i5 (fun a0 b1 i5 => Z8L N k0 kr M a0 b1 i5) k0 kr
def Z8 {ρ : Type} (N : Nat) (a0 : List (Int × List (List Int × Int))) (b1 : List (Int × List (List Int × Int))) (i5 : Int) (k0 : Option ρ) (kr : Bool → Option ρ) : Option ρ := Z8L N k0 kr N a0 b1 i5
def Z7 {ρ : Type} (N : Nat) (a0 : List (Int × List (List Int × Int))) (b1 : List (Int × List (List Int × Int))) (i5 : Int) (kn : Option ρ) (kr : Bool → Option ρ) : Option ρ := Z8 N a0 b1 i5 kn kr
def Z5 {ρ : Type} (N : Nat) (a0 : List (Int × List (List Int × Int))) (b1 : List (Int × List (List Int × Int))) (kn : Option ρ) (kr : Bool → Option ρ) : Option ρ := Z6 N a0 b1 (fun a0 b1 i5 => Z7 N a0 b1 i5 kn kr)
def Z10 {ρ : Type} (N : Nat)  (kr : Bool → Option ρ) : Option ρ :=
 kr true
def Z4 {ρ : Type} (N : Nat) (a0 : List (Int × List (List Int × Int))) (b1 : List (Int × List (List Int × Int))) (kr : Bool → Option ρ) : Option ρ := Z5 N a0 b1 (Z10 N kr) kr
def Z2 {ρ : Type} (N : Nat) (a0 : List (Int × List (List Int × Int))) (b1 : List (Int × List (List Int × Int))) (kr : Bool → Option ρ) : Option ρ := Z3 N a0 b1 (fun a0 b1 => Z4 N a0 b1 kr) kr
def Z0 {ρ : Type} (N : Nat) (a0 : List (Int × List (List Int × Int))) (b1 : List (Int × List (List Int × Int))) (kr : Bool → Option ρ) : Option ρ := Z1 N a0 b1 (fun a0 b1 => Z2 N a0 b1 kr)
def Spec : Prop := ∀  (a0 : List (Int × List (List Int × Int))) (b1 : List (Int × List (List Int × Int))), Ty.bd (.sl 0 (.pair (.int .i64) (.sl 0 (.pair (.sl 0 (.int .i64)) (.int .i64))))) a0 → Ty.bd (.sl 0 (.pair (.int .i64) (.sl 0 (.pair (.sl 0 (.int .i64)) (.int .i64))))) b1 → ∃ N0, ∀ N, N0 ≤ N → Z0 N a0 b1 (fun t4 => some ((), (t4, ()))) = some ((), ((g a0 b1), ()))

theorem loop {ρ : Type} (N : Nat) (k0 : Option ρ) (kr : Bool → Option ρ) (a b : List (Int × List (List Int × Int))) (hl : a.length = b.length) (ha : a.length ≤ maxLen) : ∀ (M j : Nat), j ≤ a.length → a.length - j < M →
    Z8L N k0 kr M a b (j : Int) = if a.drop j = b.drop j then k0 else kr false := by
  intro M
  induction M with
  | zero => intro j _ h; omega
  | succ M ih =>
    intro j hj hM
    simp only [Z8L, Z9]
    by_cases h : j < a.length
    · rw [ct (dt (by omega)), ct (inB_nat h), ct (inB_nat (by omega)), Int.toNat_natCast, w64_succ (by omega), ih (j + 1) h (by omega), drop_getD (0, []) h, drop_getD (l := b) (j := j) (0, []) (by omega)]
      by_cases e : a.getD j (0, []) = b.getD j (0, [])
      · rw [cf' (by rw [lk_eq, laws_eqLaurent.g, dt e]; rfl), e]
        simp only [List.cons.injEq, true_and]
      · rw [ct' (by rw [lk_eq, laws_eqLaurent.g, df e]; rfl), if_neg (by simp only [List.cons.injEq]; exact fun h => e h.1)]
    · rw [cf (df (by omega)), if_pos (by rw [List.drop_of_length_le (by omega), List.drop_of_length_le (by omega)])]
theorem ok : Spec := fun a b ha hb => ⟨a.length + 1, fun N hN => by
  simp only [Z1, Z3, Z6, Z9, Z8, Z7, Z5, Z10, Z4, Z2, Z0]
  by_cases hl : a.length = b.length
  · rw [cf (nf (by omega))]
    rw [show (0 : Int) = ((0 : Nat) : Int) from rfl, loop _ _ _ a b hl ha.1 N 0 (by omega) (by omega)]
    by_cases e : a = b <;> simp [e, g]
  · rw [ct (nt (by omega))]
    have : a ≠ b := fun e => hl (by rw [e])
    simp [g, this]⟩

end laws_eqLaurentS
end
end Go.Fw
set_option linter.unusedVariables false
set_option linter.unusedSimpArgs false
set_option maxRecDepth 100000
namespace Go.Fw
noncomputable section
namespace laws_eqSeed
def g (a b : (Int × Int × List Int) × List (Int × List (List Int × Int))) : Bool := decide (a = b)
end laws_eqSeed
namespace laws_eqSeed
def Z0 {ρ : Type} (N : Nat) (a0 : (Int × Int × List Int) × List (Int × List (List Int × Int))) (b1 : (Int × Int × List Int) × List (Int × List (List Int × Int))) (kr : Bool → Option ρ) : Option ρ :=
 cond (!(lk N ((laws_eqMatrix.g a0.1 b1.1))))
 (
  kr false)
 (
  cond (!(lk N ((laws_eqLaurentS.g a0.2 b1.2))))
  (
   kr false)
  (
   kr true))
def Spec : Prop := ∀  (a0 : (Int × Int × List Int) × List (Int × List (List Int × Int))) (b1 : (Int × Int × List Int) × List (Int × List (List Int × Int))), Ty.bd (.pair (.pair (.int .i64) (.pair (.int .i64) (.sl 0 (.int .i64)))) (.sl 0 (.pair (.int .i64) (.sl 0 (.pair (.sl 0 (.int .i64)) (.int .i64)))))) a0 → Ty.bd (.pair (.pair (.int .i64) (.pair (.int .i64) (.sl 0 (.int .i64)))) (.sl 0 (.pair (.int .i64) (.sl 0 (.pair (.sl 0 (.int .i64)) (.int .i64)))))) b1 → ∃ N0, ∀ N, N0 ≤ N → Z0 N a0 b1 (fun t4 => some ((), (t4, ()))) = some ((), ((g a0 b1), ()))

theorem ok : Spec := fun a b ha hb => ⟨0, fun N hN => by
  obtain ⟨a1, a2⟩ := a
  obtain ⟨b1, b2⟩ := b
  simp only [Z0, lk_eq, g, laws_eqMatrix.g, laws_eqLaurentS.g]
  by_cases h1 : a1 = b1
  · by_cases h2 : a2 = b2
    · subst h1 h2; simp
    · have : ¬ ((a1, a2) = (b1, b2)) := fun h => h2 (congrArg Prod.snd h)
      rw [df this, df h2]
      cases decide (a1 = b1) <;> rfl
  · have : ¬ ((a1, a2) = (b1, b2)) := fun h => h1 (congrArg Prod.fst h)
    rw [df this, df h1]
    rfl⟩

end laws_eqSeed
end
end Go.Fw
set_option linter.unusedVariables false
set_option linter.unusedSimpArgs false
set_option maxRecDepth 100000
namespace Go.Fw
noncomputable section
namespace laws_FnExactInitialSeed
def g (_ : Int × Int × List Int) : Bool := true
end laws_FnExactInitialSeed
namespace laws_FnExactInitialSeed
def Z1 {ρ : Type} (N : Nat) (aM0 : Int × Int × List Int) (kn : Int → Int → List Int → Option ρ) : Option ρ :=
 kn aM0.1 aM0.2.1 aM0.2.2
def Z3 {ρ : Type} (N : Nat) (aM1_0 : Int) (aM1_1 : Int) (aM1_2 : List Int) (kn : Int → Int → Int → List Int → Option ρ) : Option ρ :=
 kn 1048576 aM1_0 aM1_1 aM1_2
def Z5 {ρ : Type} (N : Nat) (left3 : Int) (aM1_0 : Int) (aM1_1 : Int) (aM1_2 : List Int) (kn : Int → Int → Int → List Int → Option ρ) : Option ρ :=
 kn (laws_szMatrix.g (aM1_0, (aM1_1, aM1_2)) left3) aM1_0 aM1_1 aM1_2
def Z7 {ρ : Type} (N : Nat) (left3 : Int) (aM1_0 : Int) (aM1_1 : Int) (aM1_2 : List Int) (kn : Int → Int → List Int → Option ρ) (kr : Bool → Option ρ) : Option ρ :=
 cond (lk N (decide (left3 < 0)))
 (
  kr true)
 (
  kn aM1_0 aM1_1 aM1_2)
def Z9 {ρ : Type} (N : Nat) (aM1_0 : Int) (aM1_1 : Int) (aM1_2 : List Int) (kn : List Int → (List (Int × List (List Int × Int))) → Bool → Int → Int → List Int → Int → Int → Option ρ) : Option ρ :=
 cond (lk N (laws_toMatrix.P (aM1_0, (aM1_1, aM1_2)))) (
  kn (spec_InitialSeed.g (laws_toMatrix.g (aM1_0, (aM1_1, aM1_2)))).1.1.2.2 (spec_InitialSeed.g (laws_toMatrix.g (aM1_0, (aM1_1, aM1_2)))).1.2 (lk N ((spec_InitialSeed.g (laws_toMatrix.g (aM1_0, (aM1_1, aM1_2)))).2)) aM1_0 aM1_1 aM1_2 (spec_InitialSeed.g (laws_toMatrix.g (aM1_0, (aM1_1, aM1_2)))).1.1.1 (spec_InitialSeed.g (laws_toMatrix.g (aM1_0, (aM1_1, aM1_2)))).1.1.2.1) none
def Z11 {ρ : Type} (N : Nat) (w04_2 : List Int) (w04_3 : List (Int × List (List Int × Int))) (w15 : Bool) (aM1_0 : Int) (aM1_1 : Int) (aM1_2 : List Int) (w04_0 : Int) (w04_1 : Int) (kn : List Int → (List (Int × List (List Int × Int))) → List Int → Bool → Int → Int → List Int → Int → Int → Int → Int → Option ρ) : Option ρ :=
 cond (lk N (laws_toMatrix.P (aM1_0, (aM1_1, aM1_2)))) (
  kn w04_2 w04_3 (laws_toMatrix.g (aM1_0, (aM1_1, aM1_2))).2.2 w15 aM1_0 aM1_1 aM1_2 w04_0 w04_1 (laws_toMatrix.g (aM1_0, (aM1_1, aM1_2))).1 (laws_toMatrix.g (aM1_0, (aM1_1, aM1_2))).2.1) none
def Z13 {ρ : Type} (N : Nat) (w04_2 : List Int) (w04_3 : List (Int × List (List Int × Int))) (x06_2 : List Int) (w15 : Bool) (aM1_0 : Int) (aM1_1 : Int) (aM1_2 : List Int) (w04_0 : Int) (w04_1 : Int) (x06_0 : Int) (x06_1 : Int) (kn : List Int → (List (Int × List (List Int × Int))) → List Int → List Int → (List (Int × List (List Int × Int))) → Bool → Bool → Int → Int → List Int → Int → Int → Int → Int → Int → Int → Option ρ) : Option ρ :=
 kn w04_2 w04_3 x06_2 (impl_InitialSeed.g (x06_0, (x06_1, x06_2))).1.1.2.2 (impl_InitialSeed.g (x06_0, (x06_1, x06_2))).1.2 w15 (lk N ((impl_InitialSeed.g (x06_0, (x06_1, x06_2))).2)) aM1_0 aM1_1 aM1_2 w04_0 w04_1 x06_0 x06_1 (impl_InitialSeed.g (x06_0, (x06_1, x06_2))).1.1.1 (impl_InitialSeed.g (x06_0, (x06_1, x06_2))).1.1.2.1
def Z15 {ρ : Type} (N : Nat) (w04_2 : List Int) (w04_3 : List (Int × List (List Int × Int))) (x06_2 : List Int) (g07_2 : List Int) (g07_3 : List (Int × List (List Int × Int))) (w15 : Bool) (g18 : Bool) (aM1_0 : Int) (aM1_1 : Int) (aM1_2 : List Int) (w04_0 : Int) (w04_1 : Int) (x06_0 : Int) (x06_1 : Int) (g07_0 : Int) (g07_1 : Int) (kn : List Int → (List (Int × List (List Int × Int))) → List Int → List Int → (List (Int × List (List Int × Int))) → Bool → Bool → Int → Int → List Int → Int → Int → Int → Int → Int → Int → Option ρ) (kr : Bool → Option ρ) : Option ρ :=
 cond (!(lk N ((laws_eqSeed.g ((g07_0, (g07_1, g07_2)), g07_3) ((w04_0, (w04_1, w04_2)), w04_3)))))
 (
  kr false)
 (
  cond (lk N (!((g18 == w15))))
  (
   kr false)
  (
   kn w04_2 w04_3 x06_2 g07_2 g07_3 w15 g18 aM1_0 aM1_1 aM1_2 w04_0 w04_1 x06_0 x06_1 g07_0 g07_1))
def Z17 {ρ : Type} (N : Nat) (w04_2 : List Int) (w04_3 : List (Int × List (List Int × Int))) (x06_2 : List Int) (g07_2 : List Int) (g07_3 : List (Int × List (List Int × Int))) (w15 : Bool) (g18 : Bool) (aM1_0 : Int) (aM1_1 : Int) (aM1_2 : List Int) (w04_0 : Int) (w04_1 : Int) (x06_0 : Int) (x06_1 : Int) (g07_0 : Int) (g07_1 : Int) (kn : List Int → (List (Int × List (List Int × Int))) → List Int → List Int → (List (Int × List (List Int × Int))) → Bool → Bool → Int → Int → List Int → Int → Int → Int → Int → Int → Int → Option ρ) (kr : Bool → Option ρ) : Option ρ :=
 cond (lk N (laws_toMatrix.P (aM1_0, (aM1_1, aM1_2)))) (
  cond (!(lk N ((laws_eqMatrix.g (x06_0, (x06_1, x06_2)) (laws_toMatrix.g (aM1_0, (aM1_1, aM1_2)))))))
  (
   kr false)
  (
   kn w04_2 w04_3 x06_2 g07_2 g07_3 w15 g18 aM1_0 aM1_1 aM1_2 w04_0 w04_1 x06_0 x06_1 g07_0 g07_1)) none
def Z19 {ρ : Type} (N : Nat) (w04_2 : List Int) (w04_3 : List (Int × List (List Int × Int))) (x06_2 : List Int) (g07_2 : List Int) (g07_3 : List (Int × List (List Int × Int))) (w15 : Bool) (g18 : Bool) (aM1_0 : Int) (aM1_1 : Int) (aM1_2 : List Int) (w04_0 : Int) (w04_1 : Int) (x06_0 : Int) (x06_1 : Int) (g07_0 : Int) (g07_1 : Int) (kn : List Int → (List (Int × List (List Int × Int))) → List Int → List Int → (List (Int × List (List Int × Int))) → Bool → Bool → Int → Int → Int → List Int → Int → Int → Int → Int → Int → Int → Option ρ) : Option ρ :=
 kn w04_2 w04_3 x06_2 g07_2 g07_3 w15 g18 1 aM1_0 aM1_1 aM1_2 w04_0 w04_1 x06_0 x06_1 g07_0 g07_1
def Z21 {ρ : Type} (N : Nat) (w04_2 : List Int) (w04_3 : List (Int × List (List Int × Int))) (x06_2 : List Int) (g07_2 : List Int) (g07_3 : List (Int × List (List Int × Int))) (w15 : Bool) (g18 : Bool) (k9 : Int) (aM1_0 : Int) (aM1_1 : Int) (aM1_2 : List Int) (w04_0 : Int) (w04_1 : Int) (x06_0 : Int) (x06_1 : Int) (g07_0 : Int) (g07_1 : Int) (kn : List Int → (List (Int × List (List Int × Int))) → List Int → (List (Int × List (List Int × Int))) → Bool → Bool → Int → Int → Int → List Int → Int → Int → Int → Int → Option ρ) : Option ρ :=
 kn w04_2 w04_3 g07_2 g07_3 w15 g18 (laws_markMatrix.g (x06_0, (x06_1, x06_2)) k9).2 aM1_0 aM1_1 aM1_2 w04_0 w04_1 g07_0 g07_1
def Z23 {ρ : Type} (N : Nat) (w04_2 : List Int) (w04_3 : List (Int × List (List Int × Int))) (g07_2 : List Int) (g07_3 : List (Int × List (List Int × Int))) (w15 : Bool) (g18 : Bool) (k9 : Int) (aM1_0 : Int) (aM1_1 : Int) (aM1_2 : List Int) (w04_0 : Int) (w04_1 : Int) (g07_0 : Int) (g07_1 : Int) (kn : List Int → (List (Int × List (List Int × Int))) → List Int → (List (Int × List (List Int × Int))) → Bool → Int → Int → List Int → Int → Int → Int → Int → Option ρ) (kr : Bool → Option ρ) : Option ρ :=
 cond (lk N (decide (k9 < 0)))
 (
  kr false)
 (
  cond (!(lk N ((laws_eqSeed.g ((g07_0, (g07_1, g07_2)), g07_3) ((w04_0, (w04_1, w04_2)), w04_3)))))
  (
   kr false)
  (
   cond (lk N (!((g18 == w15))))
   (
    kr false)
   (
    kn w04_2 w04_3 g07_2 g07_3 w15 aM1_0 aM1_1 aM1_2 w04_0 w04_1 g07_0 g07_1)))
def Z24 {ρ : Type} (N : Nat) (w04_2 : List Int) (w04_3 : List (Int × List (List Int × Int))) (g07_2 : List Int) (g07_3 : List (Int × List (List Int × Int))) (w15 : Bool) (aM1_0 : Int) (aM1_1 : Int) (aM1_2 : List Int) (w04_0 : Int) (w04_1 : Int) (g07_0 : Int) (g07_1 : Int) (kr : Bool → Option ρ) : Option ρ :=
 cond (lk N (decide ((laws_heldSeed.g ((g07_0, (g07_1, (laws_markSeed.g ((g07_0, (g07_1, g07_2)), g07_3) 1).1.1.2.2)), (laws_markSeed.g ((g07_0, (g07_1, g07_2)), g07_3) 1).1.2) 1) < 0)))
 (
  kr false)
 (
  cond (lk N (!(decide ((laws_heldSeed.g ((g07_0, (g07_1, (laws_markSeed.g ((g07_0, (g07_1, g07_2)), g07_3) 1).1.1.2.2)), (laws_markSeed.g ((g07_0, (g07_1, g07_2)), g07_3) 1).1.2) 1) = (laws_markSeed.g ((g07_0, (g07_1, g07_2)), g07_3) 1).2))))
  (
   kr false)
  (
   cond (lk N (laws_toMatrix.P (aM1_0, (aM1_1, aM1_2)))) (
    cond (!(lk N ((laws_eqSeed.g (impl_InitialSeed.g (laws_toMatrix.g (aM1_0, (aM1_1, aM1_2)))).1 ((w04_0, (w04_1, w04_2)), w04_3)))))
    (
     kr false)
    (
     cond (lk N (!(((lk N ((impl_InitialSeed.g (laws_toMatrix.g (aM1_0, (aM1_1, aM1_2)))).2)) == w15))))
     (
      kr false)
     (
      cond (lk N (decide ((laws_heldSeed.g ((g07_0, (g07_1, (laws_markSeed.g ((g07_0, (g07_1, g07_2)), g07_3) 1).1.1.2.2)), (laws_markSeed.g ((g07_0, (g07_1, g07_2)), g07_3) 1).1.2) 1) < 0)))
      (
       kr false)
      (
       cond (lk N (!(decide ((laws_heldSeed.g ((g07_0, (g07_1, (laws_markSeed.g ((g07_0, (g07_1, g07_2)), g07_3) 1).1.1.2.2)), (laws_markSeed.g ((g07_0, (g07_1, g07_2)), g07_3) 1).1.2) 1) = (laws_markSeed.g ((g07_0, (g07_1, g07_2)), g07_3) 1).2))))
       (
        kr false)
       (
        kr true))))) none))
def Z22 {ρ : Type} (N : Nat) (w04_2 : List Int) (w04_3 : List (Int × List (List Int × Int))) (g07_2 : List Int) (g07_3 : List (Int × List (List Int × Int))) (w15 : Bool) (g18 : Bool) (k9 : Int) (aM1_0 : Int) (aM1_1 : Int) (aM1_2 : List Int) (w04_0 : Int) (w04_1 : Int) (g07_0 : Int) (g07_1 : Int) (kr : Bool → Option ρ) : Option ρ := Z23 N w04_2 w04_3 g07_2 g07_3 w15 g18 k9 aM1_0 aM1_1 aM1_2 w04_0 w04_1 g07_0 g07_1 (fun w04_2 w04_3 g07_2 g07_3 w15 aM1_0 aM1_1 aM1_2 w04_0 w04_1 g07_0 g07_1 => Z24 N w04_2 w04_3 g07_2 g07_3 w15 aM1_0 aM1_1 aM1_2 w04_0 w04_1 g07_0 g07_1 kr) kr
def Z20 {ρ : Type} (N : Nat) (w04_2 : List Int) (w04_3 : List (Int × List (List Int × Int))) (x06_2 : List Int) (g07_2 : List Int) (g07_3 : List (Int × List (List Int × Int))) (w15 : Bool) (g18 : Bool) (k9 : Int) (aM1_0 : Int) (aM1_1 : Int) (aM1_2 : List Int) (w04_0 : Int) (w04_1 : Int) (x06_0 : Int) (x06_1 : Int) (g07_0 : Int) (g07_1 : Int) (kr : Bool → Option ρ) : Option ρ := Z21 N w04_2 w04_3 x06_2 g07_2 g07_3 w15 g18 k9 aM1_0 aM1_1 aM1_2 w04_0 w04_1 x06_0 x06_1 g07_0 g07_1 (fun w04_2 w04_3 g07_2 g07_3 w15 g18 k9 aM1_0 aM1_1 aM1_2 w04_0 w04_1 g07_0 g07_1 => Z22 N w04_2 w04_3 g07_2 g07_3 w15 g18 k9 aM1_0 aM1_1 aM1_2 w04_0 w04_1 g07_0 g07_1 kr)
def Z18 {ρ : Type} (N : Nat) (w04_2 : List Int) (w04_3 : List (Int × List (List Int × Int))) (x06_2 : List Int) (g07_2 : List Int) (g07_3 : List (Int × List (List Int × Int))) (w15 : Bool) (g18 : Bool) (aM1_0 : Int) (aM1_1 : Int) (aM1_2 : List Int) (w04_0 : Int) (w04_1 : Int) (x06_0 : Int) (x06_1 : Int) (g07_0 : Int) (g07_1 : Int) (kr : Bool → Option ρ) : Option ρ := Z19 N w04_2 w04_3 x06_2 g07_2 g07_3 w15 g18 aM1_0 aM1_1 aM1_2 w04_0 w04_1 x06_0 x06_1 g07_0 g07_1 (fun w04_2 w04_3 x06_2 g07_2 g07_3 w15 g18 k9 aM1_0 aM1_1 aM1_2 w04_0 w04_1 x06_0 x06_1 g07_0 g07_1 => Z20 N w04_2 w04_3 x06_2 g07_2 g07_3 w15 g18 k9 aM1_0 aM1_1 aM1_2 w04_0 w04_1 x06_0 x06_1 g07_0 g07_1 kr)
def Z16 {ρ : Type} (N : Nat) (w04_2 : List Int) (w04_3 : List (Int × List (List Int × Int))) (x06_2 : List Int) (g07_2 : List Int) (g07_3 : List (Int × List (List Int × Int))) (w15 : Bool) (g18 : Bool) (aM1_0 : Int) (aM1_1 : Int) (aM1_2 : List Int) (w04_0 : Int) (w04_1 : Int) (x06_0 : Int) (x06_1 : Int) (g07_0 : Int) (g07_1 : Int) (kr : Bool → Option ρ) : Option ρ := Z17 N w04_2 w04_3 x06_2 g07_2 g07_3 w15 g18 aM1_0 aM1_1 aM1_2 w04_0 w04_1 x06_0 x06_1 g07_0 g07_1 (fun w04_2 w04_3 x06_2 g07_2 g07_3 w15 g18 aM1_0 aM1_1 aM1_2 w04_0 w04_1 x06_0 x06_1 g07_0 g07_1 => Z18 N w04_2 w04_3 x06_2 g07_2 g07_3 w15 g18 aM1_0 aM1_1 aM1_2 w04_0 w04_1 x06_0 x06_1 g07_0 g07_1 kr) kr
def Z14 {ρ : Type} (N : Nat) (w04_2 : List Int) (w04_3 : List (Int × List (List Int × Int))) (x06_2 : List Int) (g07_2 : List Int) (g07_3 : List (Int × List (List Int × Int))) (w15 : Bool) (g18 : Bool) (aM1_0 : Int) (aM1_1 : Int) (aM1_2 : List Int) (w04_0 : Int) (w04_1 : Int) (x06_0 : Int) (x06_1 : Int) (g07_0 : Int) (g07_1 : Int) (kr : Bool → Option ρ) : Option ρ := Z15 N w04_2 w04_3 x06_2 g07_2 g07_3 w15 g18 aM1_0 aM1_1 aM1_2 w04_0 w04_1 x06_0 x06_1 g07_0 g07_1 (fun w04_2 w04_3 x06_2 g07_2 g07_3 w15 g18 aM1_0 aM1_1 aM1_2 w04_0 w04_1 x06_0 x06_1 g07_0 g07_1 => Z16 N w04_2 w04_3 x06_2 g07_2 g07_3 w15 g18 aM1_0 aM1_1 aM1_2 w04_0 w04_1 x06_0 x06_1 g07_0 g07_1 kr) kr
def Z12 {ρ : Type} (N : Nat) (w04_2 : List Int) (w04_3 : List (Int × List (List Int × Int))) (x06_2 : List Int) (w15 : Bool) (aM1_0 : Int) (aM1_1 : Int) (aM1_2 : List Int) (w04_0 : Int) (w04_1 : Int) (x06_0 : Int) (x06_1 : Int) (kr : Bool → Option ρ) : Option ρ := Z13 N w04_2 w04_3 x06_2 w15 aM1_0 aM1_1 aM1_2 w04_0 w04_1 x06_0 x06_1 (fun w04_2 w04_3 x06_2 g07_2 g07_3 w15 g18 aM1_0 aM1_1 aM1_2 w04_0 w04_1 x06_0 x06_1 g07_0 g07_1 => Z14 N w04_2 w04_3 x06_2 g07_2 g07_3 w15 g18 aM1_0 aM1_1 aM1_2 w04_0 w04_1 x06_0 x06_1 g07_0 g07_1 kr)
def Z10 {ρ : Type} (N : Nat) (w04_2 : List Int) (w04_3 : List (Int × List (List Int × Int))) (w15 : Bool) (aM1_0 : Int) (aM1_1 : Int) (aM1_2 : List Int) (w04_0 : Int) (w04_1 : Int) (kr : Bool → Option ρ) : Option ρ := Z11 N w04_2 w04_3 w15 aM1_0 aM1_1 aM1_2 w04_0 w04_1 (fun w04_2 w04_3 x06_2 w15 aM1_0 aM1_1 aM1_2 w04_0 w04_1 x06_0 x06_1 => Z12 N w04_2 w04_3 x06_2 w15 aM1_0 aM1_1 aM1_2 w04_0 w04_1 x06_0 x06_1 kr)
def Z8 {ρ : Type} (N : Nat) (aM1_0 : Int) (aM1_1 : Int) (aM1_2 : List Int) (kr : Bool → Option ρ) : Option ρ := Z9 N aM1_0 aM1_1 aM1_2 (fun w04_2 w04_3 w15 aM1_0 aM1_1 aM1_2 w04_0 w04_1 => Z10 N w04_2 w04_3 w15 aM1_0 aM1_1 aM1_2 w04_0 w04_1 kr)
def Z6 {ρ : Type} (N : Nat) (left3 : Int) (aM1_0 : Int) (aM1_1 : Int) (aM1_2 : List Int) (kr : Bool → Option ρ) : Option ρ := Z7 N left3 aM1_0 aM1_1 aM1_2 (fun aM1_0 aM1_1 aM1_2 => Z8 N aM1_0 aM1_1 aM1_2 kr) kr
def Z4 {ρ : Type} (N : Nat) (left3 : Int) (aM1_0 : Int) (aM1_1 : Int) (aM1_2 : List Int) (kr : Bool → Option ρ) : Option ρ := Z5 N left3 aM1_0 aM1_1 aM1_2 (fun left3 aM1_0 aM1_1 aM1_2 => Z6 N left3 aM1_0 aM1_1 aM1_2 kr)
def Z2 {ρ : Type} (N : Nat) (aM1_0 : Int) (aM1_1 : Int) (aM1_2 : List Int) (kr : Bool → Option ρ) : Option ρ := Z3 N aM1_0 aM1_1 aM1_2 (fun left3 aM1_0 aM1_1 aM1_2 => Z4 N left3 aM1_0 aM1_1 aM1_2 kr)
def Z0 {ρ : Type} (N : Nat) (aM0 : Int × Int × List Int) (kr : Bool → Option ρ) : Option ρ := Z1 N aM0 (fun aM1_0 aM1_1 aM1_2 => Z2 N aM1_0 aM1_1 aM1_2 kr)
def Spec : Prop := ∀  (aM0 : Int × Int × List Int), Ty.bd (.pair (.int .i64) (.pair (.int .i64) (.sl 0 (.int .i64)))) aM0 → ∃ N0, ∀ N, N0 ≤ N → Z0 N aM0 (fun t2 => some ((), (t2, ()))) = some ((), ((g aM0), ()))

theorem ok : Spec := fun m hb => ⟨0, fun N hN => by
  by_cases hl : laws_szMatrix.g m 1048576 < 0
  · simp only [Z1, Z3, Z5, Z7, Z9, Z11, Z13, Z15, Z17, Z19, Z21, Z23, Z24, Z22, Z20, Z18, Z16, Z14, Z12, Z10, Z8, Z6, Z4, Z2, Z0]
    rw [ct (dt hl)]
    rfl
  obtain ⟨hP, hlen⟩ := szMat_P m hb.2.2.1 hl
  have he : impl_InitialSeed.g m = spec_InitialSeed.g m := by
    unfold impl_InitialSeed.g spec_InitialSeed.g
    rw [ok_alike]
  have hs : (spec_InitialSeed.g m).1.1.2.2.length ≤ 1048576 ∧ szLS (spec_InitialSeed.g m).1.2 < 4611686018427387904 := by
    unfold spec_InitialSeed.g
    split
    · rename_i h
      simp only [Bool.and_eq_true] at h
      obtain ⟨n, r, hn, hr, hn1, hn5, hnr, hr8, hl⟩ := dim_nat (shaped_dim (sizes_shaped h.1))
      refine ⟨by show m.2.2.length ≤ _; omega, ?_⟩
      have := szLS_le (l := varsK m.2.1.toNat) (a := 8) (b := 9) (by simp [varsK]; omega) (fun x hx => by
        simp only [varsK, List.mem_map, List.mem_range] at hx
        obtain ⟨i, hi, rfl⟩ := hx
        unfold monoG
        split
        · show (rowU m.2.1.toNat i).length + 1 + 0 ≤ 9
          rw [rowU_len]; omega
        · show 0 ≤ 9
          omega)
      show szLS (varsK m.2.1.toNat) < _
      omega
    · decide
  obtain ⟨h1, h2⟩ := seed_mark _ hs.1 hs.2
  have hm : ¬ (laws_markMatrix.g m 1).2 < 0 := by
    have e : (laws_markMatrix.g m 1).2 = 1 + m.2.2.length := laws_markIntS.mk_end m.2.2 1 (by omega) (by omega)
    omega
  simp only [Z1, Z3, Z5, Z7, Z9, Z11, Z13, Z15, Z17, Z19, Z21, Z23, Z24, Z22, Z20, Z18, Z16, Z14, Z12, Z10, Z8, Z6, Z4, Z2, Z0, lk_eq, laws_toMatrix.g, hP, he, laws_eqMatrix.g, laws_eqSeed.g, h1, df hl, df hm, df h2, dt (rfl : m = _), dt (rfl : (spec_InitialSeed.g m).1 = _), dt (rfl : (laws_markSeed.g (spec_InitialSeed.g m).1 1).2 = _), beq_self_eq_true]
  rfl⟩

end laws_FnExactInitialSeed
end
end Go.Fw
