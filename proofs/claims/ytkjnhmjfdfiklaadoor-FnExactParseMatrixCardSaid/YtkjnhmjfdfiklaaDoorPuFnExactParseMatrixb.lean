/- The plain part: what the functions compute, in lists and numbers. Nothing is assumed. -/
import Derived.Test.YtkjnhmjfdfiklaaDoorFwc
import Derived.Test.YtkjnhmjfdfiklaaDoorPuFnExactParseMatrixa
set_option linter.unusedVariables false
set_option linter.unusedSimpArgs false
set_option maxRecDepth 100000
namespace Go.Fw
noncomputable section
variable {ρ : Type}
namespace slices_ContainsFunc_int_int_shaped
def g (s : List Int) (_ : Unit) : Bool := s.any impl_shaped_1.g
end slices_ContainsFunc_int_int_shaped
namespace slices_ContainsFunc_int_int_shaped
def Z0 {ρ : Type} (N : Nat) (v0 : LI) (v1 : Unit) (kr : Bool → Option ρ) : Option ρ :=
 kr (lk N (decide (0 ≤ (slices_IndexFunc_int_int_shaped.g v0 ()))))
def Spec : Prop := ∀  (v0 : LI) (v1 : Unit), Ty.bd (.sl 0 (.int .i64)) v0 → ∃ N0, ∀ N, N0 ≤ N → Z0 N v0 v1 (fun v4 => some ((), (v4, ()))) = some ((), ((g v0 v1), ()))
theorem ok : Spec := fun a _ ha => ⟨0, fun N hN => by
  simp only [Z0, lk_eq, g]
  have := (show 0 ≤ slices_IndexFunc_int_int_shaped.g a () ↔ ∃ x ∈ a, impl_shaped_1.g x = true from slices_IndexFunc_int_int_shaped.go_pos impl_shaped_1.g a 0)
  cases e : a.any impl_shaped_1.g
  · rw [df (fun h => by have := this.1 h; rw [← List.any_eq_true, e] at this; cases this)]
  · rw [dt (this.2 (List.any_eq_true.1 e))]⟩
end slices_ContainsFunc_int_int_shaped
end
end Go.Fw
namespace Go.Fw
noncomputable section
variable {ρ : Type}
namespace impl_shaped
def g (m : Int × Int × List Int) : Bool := shapedK m
end impl_shaped
namespace impl_shaped
def Z0 {ρ : Type} (N : Nat) (v0 : MT) (kr : Bool → Option ρ) : Option ρ :=
 cond (lk N ((impl_within.g v0.1 1 5)))
 (
  cond (lk N ((impl_within.g v0.2.1 v0.1 8)))
  (
   cond (lk N (decide ((v0.2.2.length : Int) = (w64 (v0.1 * v0.2.1)))))
   (
    kr (!(lk N ((slices_ContainsFunc_int_int_shaped.g v0.2.2 ())))))
   (
    kr false))
  (
   kr false))
 (
  kr false)
def Spec : Prop := ∀  (v0 : MT), Ty.bd (.pair (.int .i64) (.pair (.int .i64) (.sl 0 (.int .i64)))) v0 → ∃ N0, ∀ N, N0 ≤ N → Z0 N v0 (fun v2 => some ((), (v2, ()))) = some ((), ((g v0), ()))
theorem ok : Spec := fun m hb => ⟨0, fun N hN => by
  simp only [Z0, g, lk_eq, impl_within.g, shapedK, dimK, slices_ContainsFunc_int_int_shaped.g, List.not_any_eq_all_not, entK]
  cases h1 : inK m.1 1 5
  · rfl
  cases h2 : inK m.2.1 m.1 8
  · rfl
  have e1 := inK_iff.1 h1
  have e2 := inK_iff.1 h2
  have e3 : 0 ≤ m.1 * m.2.1 := Int.mul_nonneg (by omega) (by omega)
  have e4 : m.1 * m.2.1 ≤ 5 * 8 := Int.mul_le_mul (by omega) (by omega) (by omega) (by omega)
  rw [w64_id (by omega) (by omega)]
  cases h3 : decide ((m.2.2.length : Int) = m.1 * m.2.1)
  · rfl
  simp [impl_shaped_1.g]⟩
end impl_shaped
end
end Go.Fw
namespace Go.Fw
noncomputable section
variable {ρ : Type}
namespace impl_Matrix_at
def P (m : Int × Int × List Int) (i j : Int) : Bool := atP m i j
def g (m : Int × Int × List Int) (i j : Int) : Int := atK m i j
end impl_Matrix_at
namespace impl_Matrix_at
def Z0 {ρ : Type} (N : Nat) (v0 : MT) (v1 v2 : Int) (kr : Int → Option ρ) : Option ρ :=
 cond (lk N (inB (w64 ((w64 (v1 * v0.1)) + v2)) v0.2.2.length)) (
  kr (v0.2.2.getD (w64 ((w64 (v1 * v0.1)) + v2)).toNat 0)) none
def Spec : Prop := ∀  (v0 : MT) (v1 v2 : Int), Ty.bd (.pair (.int .i64) (.pair (.int .i64) (.sl 0 (.int .i64)))) v0 → P v0 v1 v2 = true → ∃ N0, ∀ N, N0 ≤ N → Z0 N v0 v1 v2 (fun v6 => some ((), (v6, ()))) = some ((), ((g v0 v1 v2), ()))
theorem ok : Spec := fun m i j hb hp => ⟨0, fun N hN => by
  obtain ⟨h1, h2, h3⟩ := at_index hb.2.2.1 hp
  simp only [Z0, g, atK, h1]
  rw [ct (inB_int h2 h3)]⟩
end impl_Matrix_at
end
end Go.Fw
namespace Go.Fw
noncomputable section
variable {ρ : Type}
namespace impl_gcd
def P (a b : Int) : Bool := decide (0 ≤ a) && (decide (a < 9223372036854775808) && (decide (0 ≤ b) && decide (b < 9223372036854775808)))
def g (a b : Int) : Int := (Int.gcd a b : Int)
end impl_gcd
namespace impl_gcd
def Z1 {ρ : Type} (N : Nat) (v0 v1 : Int) (kn : I2 (Option ρ)) : Option ρ :=
 kn v0 v1
def Z5 {ρ : Type} (N : Nat) (v0 v1 : Int) (kn : I2 (Option ρ)) (k0 : Int → Option ρ) : Option ρ :=
 cond (lk N (!(decide (v1 = 0))))
 (
  cond (lk N (!(decide (v1 = 0)))) (
   kn v1 (Int.tmod v0 v1)) none)
 (
  k0 v0)
def Z4L {ρ : Type} (N : Nat) (k0 : Int → Option ρ) : Nat → Int → Int → Option ρ
  | 0, _, _ => none
  | M + 1, v0, v1 => Z5 N v0 v1 (fun v0 v1 => Z4L N k0 M v0 v1) k0
def Z4 N v0 v1 k0 := (Z4L N k0 N v0 v1 : Option ρ)
def Z3 N v0 v1 kn := (Z4 N v0 v1 kn : Option ρ)
def Z6 {ρ : Type} (N : Nat) (v0 : Int) (kr : Int → Option ρ) : Option ρ :=
 kr (mx v0 (w64 (0 - v0)))
def Z2 N v0 v1 kr := (Z3 N v0 v1 (fun v0 => Z6 N v0 kr) : Option ρ)
def Z0 N v0 v1 kr := (Z1 N v0 v1 (fun v0 v1 => Z2 N v0 v1 kr) : Option ρ)
def Spec : Prop := ∀  (v0 v1 : Int), P v0 v1 = true → ∃ N0, ∀ N, N0 ≤ N → Z0 N v0 v1 (fun v4 => some ((), (v4, ()))) = some ((), ((g v0 v1), ()))
theorem loop {ρ : Type} (N : Nat) (k0 : Int → Option ρ) : ∀ (M : Nat) (a b : Nat), b < M → Z4L N k0 M (a : Int) (b : Int) = k0 (Nat.gcd b a : Nat) := by
  intro M
  induction M with
  | zero => intro a b h; omega
  | succ M ih =>
    intro a b hM
    simp only [Z4L, Z5]
    by_cases h : b = 0
    · subst h
      rw [cf (by simp), Nat.gcd_zero_left]
    · rw [ct (nt (by omega)), ct (nt (by omega)), show Int.tmod (a : Int) (b : Int) = ((a % b : Nat) : Int) from rfl, ih _ _ (by have := Nat.mod_lt a (Nat.pos_of_ne_zero h); omega), ← Nat.gcd_rec]
theorem ok : Spec := fun a b hp => ⟨b.toNat + 1, fun N hN => by
  simp only [P, Bool.and_eq_true, decide_eq_true_eq] at hp
  obtain ⟨h1, h2, h3, h4⟩ := hp
  obtain ⟨x, rfl⟩ := Int.eq_ofNat_of_zero_le h1
  obtain ⟨y, rfl⟩ := Int.eq_ofNat_of_zero_le h3
  simp only [Z1, Z5, Z4, Z3, Z6, Z2, Z0, g]
  rw [loop N _ N x y (by omega), Nat.gcd_comm]
  have hl : Nat.gcd x y ≤ max x y := by
    rcases Nat.eq_zero_or_pos x with h | h
    · subst h; rw [Nat.gcd_zero_left]; omega
    · have := Nat.gcd_le_left y h; omega
  show some ((), (mx ((Nat.gcd x y : Nat) : Int) (w64 (0 - ((Nat.gcd x y : Nat) : Int))), ())) = some ((), (((Nat.gcd x y : Nat) : Int), ()))
  rw [w64_id (by omega) (by omega), mx_eq]
  congr 3
  omega⟩
end impl_gcd
end
end Go.Fw
namespace Go.Fw
noncomputable section
variable {ρ : Type}
namespace impl_factors
def P (m : Int × Int × List Int) : Bool := shapedK m
abbrev g (m : Int × Int × List Int) : List Int := facK m
end impl_factors
namespace impl_factors
def Z1 {ρ : Type} (N : Nat) (v0 : MT) (kn : I2 (LI → Option ρ)) : Option ρ :=
 kn v0.1 v0.2.1 v0.2.2
def Z3 {ρ : Type} (N : Nat) (v1_0 v1_1 : Int) (v1_2 : LI) (kn : LI → LI → I2 (LI → Option ρ)) : Option ρ :=
 both (
  cond (lk N (leB 0 v1_0 && decide (v1_0 < 1099511627776))) (
   cond (lk N (leB 0 v1_0 && decide (v1_0 < 1099511627776))) (
    kn (List.replicate v1_0.toNat (0 : Int)) (List.replicate v1_0.toNat (0 : Int)) v1_0 v1_1 v1_2) none) none)
 (
  cond (lk N (leB 0 v1_0 && decide (v1_0 < 1099511627776))) (
   cond (lk N (leB 0 v1_0 && decide (v1_0 < 1099511627776))) (
    kn (List.replicate v1_0.toNat (0 : Int)) (List.replicate v1_0.toNat (0 : Int)) v1_0 v1_1 v1_2) none) none)
def Z5 {ρ : Type} (N : Nat) (v3 v4 : LI) (v1_0 v1_1 : Int) (v1_2 : LI) (kn : LI → LI → LI → I2 (LI → Option ρ)) : Option ρ :=
 cond (lk N (leB 0 v1_0 && decide (v1_0 < 1099511627776))) (
  kn v3 v4 (List.replicate v1_0.toNat (0 : Int)) v1_0 v1_1 v1_2) none
def Z8 {ρ : Type} (N : Nat) (v3 v4 v5 : LI) (v1_0 v1_1 : Int) (v1_2 : LI) (kn : LI → LI → LI → I4 (LI → Option ρ)) : Option ρ :=
 kn v3 v4 v5 (v3.length : Int) 0 v1_0 v1_1 v1_2
def Z12 {ρ : Type} (N : Nat) (v3 v4 v5 : LI) (v34 v35 v1_0 v1_1 : Int) (v1_2 : LI) (kn : LI → LI → LI → I2 (Bool → I2 (LI → Option ρ))) : Option ρ :=
 kn v3 v4 v5 v34 v35 (lk N (decide (v35 < v34))) v1_0 v1_1 v1_2
def Z14 {ρ : Type} (N : Nat) (v3 v4 v5 : LI) (v34 v35 : Int) (v36 : Bool) (v1_0 v1_1 : Int) (v1_2 : LI) (kn : LI → LI → LI → I4 (LI → Option ρ)) (k0 : LI → Option ρ) : Option ρ :=
 cond (v36)
 (
  kn v3 v4 v5 v34 v35 v1_0 v1_1 v1_2)
 (
  k0 v5)
def Z18 {ρ : Type} (N : Nat) (v3 v4 v5 : LI) (v34 v35 v1_0 v1_1 : Int) (v1_2 : LI) (kn : LI → LI → LI → I5 (LI → Option ρ)) : Option ρ :=
 kn v3 v4 v5 v35 v34 v35 v1_0 v1_1 v1_2
def Z20 {ρ : Type} (N : Nat) (v3 v4 v5 : LI) (v6 v34 v35 v1_0 v1_1 : Int) (v1_2 : LI) (kn : LI → LI → LI → I5 (LI → Option ρ)) (k1 : LI → LI → LI → I4 (LI → Option ρ)) : Option ρ :=
 cond (lk N (inB v6 v3.length)) (
  cond (lk N (!(decide ((v3.getD v6.toNat 0) = 0))))
  (
   k1 v3 v4 v5 v34 v35 v1_0 v1_1 v1_2)
  (
   kn v3 v4 v5 v6 v34 v35 v1_0 v1_1 v1_2)) none
def Z22 {ρ : Type} (N : Nat) (v3 v4 v5 : LI) (v6 v34 v35 v1_0 v1_1 : Int) (v1_2 : LI) (kn : LI → LI → LI → I5 (LI → Option ρ)) : Option ρ :=
 cond (lk N (inB v6 v3.length)) (
  cond (lk N (inB v6 v4.length)) (
   kn (v3.set v6.toNat 1) (v4.set v6.toNat 1) v5 v6 v34 v35 v1_0 v1_1 v1_2) none) none
def Z24 {ρ : Type} (N : Nat) (v3 v4 v5 : LI) (v6 v34 v35 v1_0 v1_1 : Int) (v1_2 : LI) (kn : LI → LI → LI → LI → I4 (LI → Option ρ)) : Option ρ :=
 kn v3 v4 v5 ([v6] : List Int) v34 v35 v1_0 v1_1 v1_2
def Z27 {ρ : Type} (N : Nat) (v3 v4 v5 v7 : LI) (v34 v35 v1_0 v1_1 : Int) (v1_2 : LI) (kn : LI → LI → LI → LI → I5 (LI → Option ρ)) : Option ρ :=
 kn v3 v4 v5 v7 0 v34 v35 v1_0 v1_1 v1_2
def Z31 {ρ : Type} (N : Nat) (v3 v4 v5 v7 : LI) (v8 v34 v35 v1_0 v1_1 : Int) (v1_2 : LI) (kn : LI → LI → LI → LI → I5 (LI → Option ρ)) (k2 : LI → LI → LI → LI → I4 (LI → Option ρ)) : Option ρ :=
 cond (lk N (decide (v8 < (v7.length : Int))))
 (
  kn v3 v4 v5 v7 v8 v34 v35 v1_0 v1_1 v1_2)
 (
  k2 v3 v4 v5 v7 v34 v35 v1_0 v1_1 v1_2)
def Z35 {ρ : Type} (N : Nat) (v3 v4 v5 v7 : LI) (v8 v34 v35 v1_0 v1_1 : Int) (v1_2 : LI) (kn : LI → LI → LI → LI → I6 (LI → Option ρ)) : Option ρ :=
 cond (lk N (inB v8 v7.length)) (
  kn v3 v4 v5 v7 v8 (v7.getD v8.toNat 0) v34 v35 v1_0 v1_1 v1_2) none
def Z37 {ρ : Type} (N : Nat) (v3 v4 v5 v7 : LI) (v8 v9 v34 v35 v1_0 v1_1 : Int) (v1_2 : LI) (kn : LI → LI → LI → LI → I8 (LI → Option ρ)) : Option ρ :=
 kn v3 v4 v5 v7 v8 v9 v34 v35 (v3.length : Int) 0 v1_0 v1_1 v1_2
def Z41 {ρ : Type} (N : Nat) (v3 v4 v5 v7 : LI) (v8 v9 v34 v35 v62 v63 v1_0 v1_1 : Int) (v1_2 : LI) (kn : LI → LI → LI → LI → I6 (Bool → I2 (LI → Option ρ))) : Option ρ :=
 kn v3 v4 v5 v7 v8 v9 v34 v35 v62 v63 (lk N (decide (v63 < v62))) v1_0 v1_1 v1_2
def Z43 {ρ : Type} (N : Nat) (v3 v4 v5 v7 : LI) (v8 v9 v34 v35 v62 v63 : Int) (v64 : Bool) (v1_0 v1_1 : Int) (v1_2 : LI) (kn : LI → LI → LI → LI → I8 (LI → Option ρ)) (k4 : LI → LI → LI → LI → I5 (LI → Option ρ)) : Option ρ :=
 cond (v64)
 (
  kn v3 v4 v5 v7 v8 v9 v34 v35 v62 v63 v1_0 v1_1 v1_2)
 (
  k4 v3 v4 v5 v7 v8 v34 v35 v1_0 v1_1 v1_2)
def Z47 {ρ : Type} (N : Nat) (v3 v4 v5 v7 : LI) (v8 v9 v34 v35 v62 v63 v1_0 v1_1 : Int) (v1_2 : LI) (kn : LI → LI → LI → LI → Int → I8 (LI → Option ρ)) : Option ρ :=
 kn v3 v4 v5 v7 v8 v9 v63 v34 v35 v62 v63 v1_0 v1_1 v1_2
def Z49 {ρ : Type} (N : Nat) (v3 v4 v5 v7 : LI) (v8 v9 v10 v34 v35 v62 v63 v1_0 v1_1 : Int) (v1_2 : LI) (kn : LI → LI → LI → LI → I3 (I8 (LI → Option ρ))) : Option ρ :=
 cond (lk N (impl_Matrix_at.P (v1_0, (v1_1, v1_2)) v9 v10)) (
  cond (lk N (impl_Matrix_at.P (v1_0, (v1_1, v1_2)) v10 v9)) (
   kn v3 v4 v5 v7 v8 v9 v10 (impl_Matrix_at.g (v1_0, (v1_1, v1_2)) v9 v10) (w64 (0 - (impl_Matrix_at.g (v1_0, (v1_1, v1_2)) v10 v9))) v34 v35 v62 v63 v1_0 v1_1 v1_2) none) none
def Z51 {ρ : Type} (N : Nat) (v3 v4 v5 v7 : LI) (v8 v9 v10 v11 v12 v34 v35 v62 v63 v1_0 v1_1 : Int) (v1_2 : LI) (kn : LI → LI → LI → LI → I3 (I8 (LI → Option ρ))) (k5 : LI → LI → LI → LI → I8 (LI → Option ρ)) : Option ρ :=
 cond (lk N (decide (v11 = 0)))
 (
  cond (lk N (decide (v12 = 0)))
  (
   k5 v3 v4 v5 v7 v8 v9 v34 v35 v62 v63 v1_0 v1_1 v1_2)
  (
   kn v3 v4 v5 v7 v8 v9 v10 v11 v12 v34 v35 v62 v63 v1_0 v1_1 v1_2))
 (
  kn v3 v4 v5 v7 v8 v9 v10 v11 v12 v34 v35 v62 v63 v1_0 v1_1 v1_2)
def Z52 {ρ : Type} (N : Nat) (v3 v4 v5 v7 : LI) (v8 v9 v10 v11 v12 v34 v35 v62 v63 v1_0 v1_1 : Int) (v1_2 : LI) (kn : LI → LI → LI → LI → I8 (LI → Option ρ)) (kr : LI → Option ρ) : Option ρ :=
 cond (lk N (decide (v11 = 0)))
 (
  kr ([] : List Int))
 (
  cond (lk N (decide (v12 = 0)))
  (
   kr ([] : List Int))
  (
   cond (lk N (!(((lk N (decide (0 < v11))) == (lk N (decide (0 < v12)))))))
   (
    kr ([] : List Int))
   (
    cond (lk N (decide (v9 = v10)))
    (
     kr ([] : List Int))
    (
     cond (lk N (inB v9 v3.length)) (
      cond (lk N (inB v9 v4.length)) (
       cond (lk N (impl_gcd.P (w64 ((v3.getD v9.toNat 0) * (mx v11 (w64 (0 - v11))))) (w64 ((v4.getD v9.toNat 0) * (mx v12 (w64 (0 - v12))))))) (
        cond (lk N (!(decide ((impl_gcd.g (w64 ((v3.getD v9.toNat 0) * (mx v11 (w64 (0 - v11))))) (w64 ((v4.getD v9.toNat 0) * (mx v12 (w64 (0 - v12)))))) = 0)))) (
         cond (lk N (!(decide ((impl_gcd.g (w64 ((v3.getD v9.toNat 0) * (mx v11 (w64 (0 - v11))))) (w64 ((v4.getD v9.toNat 0) * (mx v12 (w64 (0 - v12)))))) = 0)))) (
          cond (lk N (inB v10 v3.length)) (
           cond (lk N (decide ((v3.getD v10.toNat 0) = 0)))
           (
            cond (lk N (inB v10 v3.length)) (
             cond (lk N (inB v10 v4.length)) (
              cond (lk N (Nat.blt (v7.length + ([v10] : List Int).length) 1099511627776)) (
               kn (v3.set v10.toNat (w64 (Int.tdiv (w64 ((v3.getD v9.toNat 0) * (mx v11 (w64 (0 - v11))))) (impl_gcd.g (w64 ((v3.getD v9.toNat 0) * (mx v11 (w64 (0 - v11))))) (w64 ((v4.getD v9.toNat 0) * (mx v12 (w64 (0 - v12))))))))) (v4.set v10.toNat (w64 (Int.tdiv (w64 ((v4.getD v9.toNat 0) * (mx v12 (w64 (0 - v12))))) (impl_gcd.g (w64 ((v3.getD v9.toNat 0) * (mx v11 (w64 (0 - v11))))) (w64 ((v4.getD v9.toNat 0) * (mx v12 (w64 (0 - v12))))))))) v5 (v7 ++ ([v10] : List Int)) v8 v9 v34 v35 v62 v63 v1_0 v1_1 v1_2) none) none) none)
           (
            cond (lk N (inB v10 v3.length)) (
             cond (lk N (!(decide ((v3.getD v10.toNat 0) = (w64 (Int.tdiv (w64 ((v3.getD v9.toNat 0) * (mx v11 (w64 (0 - v11))))) (impl_gcd.g (w64 ((v3.getD v9.toNat 0) * (mx v11 (w64 (0 - v11))))) (w64 ((v4.getD v9.toNat 0) * (mx v12 (w64 (0 - v12))))))))))))
             (
              kr ([] : List Int))
             (
              cond (lk N (inB v10 v4.length)) (
               cond (lk N (!(decide ((v4.getD v10.toNat 0) = (w64 (Int.tdiv (w64 ((v4.getD v9.toNat 0) * (mx v12 (w64 (0 - v12))))) (impl_gcd.g (w64 ((v3.getD v9.toNat 0) * (mx v11 (w64 (0 - v11))))) (w64 ((v4.getD v9.toNat 0) * (mx v12 (w64 (0 - v12))))))))))))
               (
                kr ([] : List Int))
               (
                kn v3 v4 v5 v7 v8 v9 v34 v35 v62 v63 v1_0 v1_1 v1_2)) none)) none)) none) none) none) none) none) none))))
def Z50 N v3 v4 v5 v7 v8 v9 v10 v11 v12 v34 v35 v62 v63 v1_0 v1_1 v1_2 kn k5 kr := (Z51 N v3 v4 v5 v7 v8 v9 v10 v11 v12 v34 v35 v62 v63 v1_0 v1_1 v1_2 (fun v3 v4 v5 v7 v8 v9 v10 v11 v12 v34 v35 v62 v63 v1_0 v1_1 v1_2 => Z52 N v3 v4 v5 v7 v8 v9 v10 v11 v12 v34 v35 v62 v63 v1_0 v1_1 v1_2 kn kr) k5 : Option ρ)
def Z48 N v3 v4 v5 v7 v8 v9 v10 v34 v35 v62 v63 v1_0 v1_1 v1_2 kn k5 kr := (Z49 N v3 v4 v5 v7 v8 v9 v10 v34 v35 v62 v63 v1_0 v1_1 v1_2 (fun v3 v4 v5 v7 v8 v9 v10 v11 v12 v34 v35 v62 v63 v1_0 v1_1 v1_2 => Z50 N v3 v4 v5 v7 v8 v9 v10 v11 v12 v34 v35 v62 v63 v1_0 v1_1 v1_2 kn k5 kr) : Option ρ)
def Z46 N v3 v4 v5 v7 v8 v9 v34 v35 v62 v63 v1_0 v1_1 v1_2 kn k5 kr := (Z47 N v3 v4 v5 v7 v8 v9 v34 v35 v62 v63 v1_0 v1_1 v1_2 (fun v3 v4 v5 v7 v8 v9 v10 v34 v35 v62 v63 v1_0 v1_1 v1_2 => Z48 N v3 v4 v5 v7 v8 v9 v10 v34 v35 v62 v63 v1_0 v1_1 v1_2 kn k5 kr) : Option ρ)
def Z45 N v3 v4 v5 v7 v8 v9 v34 v35 v62 v63 v1_0 v1_1 v1_2 kn kr := (Z46 N v3 v4 v5 v7 v8 v9 v34 v35 v62 v63 v1_0 v1_1 v1_2 kn kn kr : Option ρ)
def Z53 {ρ : Type} (N : Nat) (v3 v4 v5 v7 : LI) (v8 v9 v34 v35 v62 v63 v1_0 v1_1 : Int) (v1_2 : LI) (kn : LI → LI → LI → LI → I8 (LI → Option ρ)) : Option ρ :=
 kn v3 v4 v5 v7 v8 v9 v34 v35 v62 (w64 (v63 + 1)) v1_0 v1_1 v1_2
def Z44 N v3 v4 v5 v7 v8 v9 v34 v35 v62 v63 v1_0 v1_1 v1_2 kn kr := (Z45 N v3 v4 v5 v7 v8 v9 v34 v35 v62 v63 v1_0 v1_1 v1_2 (fun v3 v4 v5 v7 v8 v9 v34 v35 v62 v63 v1_0 v1_1 v1_2 => Z53 N v3 v4 v5 v7 v8 v9 v34 v35 v62 v63 v1_0 v1_1 v1_2 kn) kr : Option ρ)
def Z42 N v3 v4 v5 v7 v8 v9 v34 v35 v62 v63 v64 v1_0 v1_1 v1_2 kn k4 kr := (Z43 N v3 v4 v5 v7 v8 v9 v34 v35 v62 v63 v64 v1_0 v1_1 v1_2 (fun v3 v4 v5 v7 v8 v9 v34 v35 v62 v63 v1_0 v1_1 v1_2 => Z44 N v3 v4 v5 v7 v8 v9 v34 v35 v62 v63 v1_0 v1_1 v1_2 kn kr) k4 : Option ρ)
def Z40 N v3 v4 v5 v7 v8 v9 v34 v35 v62 v63 v1_0 v1_1 v1_2 kn k4 kr := (Z41 N v3 v4 v5 v7 v8 v9 v34 v35 v62 v63 v1_0 v1_1 v1_2 (fun v3 v4 v5 v7 v8 v9 v34 v35 v62 v63 v64 v1_0 v1_1 v1_2 => Z42 N v3 v4 v5 v7 v8 v9 v34 v35 v62 v63 v64 v1_0 v1_1 v1_2 kn k4 kr) : Option ρ)
def Z39L {ρ : Type} (N : Nat) (k4 : LI → LI → LI → LI → I5 (LI → Option ρ)) (kr : LI → Option ρ) : Nat → LI → LI → LI → LI → Int → Int → Int → Int → Int → Int → Int → Int → LI → Option ρ
  | 0, _, _, _, _, _, _, _, _, _, _, _, _, _ => none
  | M + 1, v3, v4, v5, v7, v8, v9, v34, v35, v62, v63, v1_0, v1_1, v1_2 => Z40 N v3 v4 v5 v7 v8 v9 v34 v35 v62 v63 v1_0 v1_1 v1_2 (fun v3 v4 v5 v7 v8 v9 v34 v35 v62 v63 v1_0 v1_1 v1_2 => Z39L N k4 kr M v3 v4 v5 v7 v8 v9 v34 v35 v62 v63 v1_0 v1_1 v1_2) k4 kr
def Z39 N v3 v4 v5 v7 v8 v9 v34 v35 v62 v63 v1_0 v1_1 v1_2 k4 kr := (Z39L N k4 kr N v3 v4 v5 v7 v8 v9 v34 v35 v62 v63 v1_0 v1_1 v1_2 : Option ρ)
def Z38 N v3 v4 v5 v7 v8 v9 v34 v35 v62 v63 v1_0 v1_1 v1_2 kn kr := (Z39 N v3 v4 v5 v7 v8 v9 v34 v35 v62 v63 v1_0 v1_1 v1_2 kn kr : Option ρ)
def Z36 N v3 v4 v5 v7 v8 v9 v34 v35 v1_0 v1_1 v1_2 kn kr := (Z37 N v3 v4 v5 v7 v8 v9 v34 v35 v1_0 v1_1 v1_2 (fun v3 v4 v5 v7 v8 v9 v34 v35 v62 v63 v1_0 v1_1 v1_2 => Z38 N v3 v4 v5 v7 v8 v9 v34 v35 v62 v63 v1_0 v1_1 v1_2 kn kr) : Option ρ)
def Z34 N v3 v4 v5 v7 v8 v34 v35 v1_0 v1_1 v1_2 kn kr := (Z35 N v3 v4 v5 v7 v8 v34 v35 v1_0 v1_1 v1_2 (fun v3 v4 v5 v7 v8 v9 v34 v35 v1_0 v1_1 v1_2 => Z36 N v3 v4 v5 v7 v8 v9 v34 v35 v1_0 v1_1 v1_2 kn kr) : Option ρ)
def Z33 N v3 v4 v5 v7 v8 v34 v35 v1_0 v1_1 v1_2 kn kr := (Z34 N v3 v4 v5 v7 v8 v34 v35 v1_0 v1_1 v1_2 kn kr : Option ρ)
def Z54 {ρ : Type} (N : Nat) (v3 v4 v5 v7 : LI) (v8 v34 v35 v1_0 v1_1 : Int) (v1_2 : LI) (kn : LI → LI → LI → LI → I5 (LI → Option ρ)) : Option ρ :=
 kn v3 v4 v5 v7 (w64 (v8 + 1)) v34 v35 v1_0 v1_1 v1_2
def Z32 N v3 v4 v5 v7 v8 v34 v35 v1_0 v1_1 v1_2 kn kr := (Z33 N v3 v4 v5 v7 v8 v34 v35 v1_0 v1_1 v1_2 (fun v3 v4 v5 v7 v8 v34 v35 v1_0 v1_1 v1_2 => Z54 N v3 v4 v5 v7 v8 v34 v35 v1_0 v1_1 v1_2 kn) kr : Option ρ)
def Z30 N v3 v4 v5 v7 v8 v34 v35 v1_0 v1_1 v1_2 kn k2 kr := (Z31 N v3 v4 v5 v7 v8 v34 v35 v1_0 v1_1 v1_2 (fun v3 v4 v5 v7 v8 v34 v35 v1_0 v1_1 v1_2 => Z32 N v3 v4 v5 v7 v8 v34 v35 v1_0 v1_1 v1_2 kn kr) k2 : Option ρ)
def Z29L {ρ : Type} (N : Nat) (k2 : LI → LI → LI → LI → I4 (LI → Option ρ)) (kr : LI → Option ρ) : Nat → LI → LI → LI → LI → Int → Int → Int → Int → Int → LI → Option ρ
  | 0, _, _, _, _, _, _, _, _, _, _ => none
  | M + 1, v3, v4, v5, v7, v8, v34, v35, v1_0, v1_1, v1_2 => Z30 N v3 v4 v5 v7 v8 v34 v35 v1_0 v1_1 v1_2 (fun v3 v4 v5 v7 v8 v34 v35 v1_0 v1_1 v1_2 => Z29L N k2 kr M v3 v4 v5 v7 v8 v34 v35 v1_0 v1_1 v1_2) k2 kr
def Z29 N v3 v4 v5 v7 v8 v34 v35 v1_0 v1_1 v1_2 k2 kr := (Z29L N k2 kr N v3 v4 v5 v7 v8 v34 v35 v1_0 v1_1 v1_2 : Option ρ)
def Z28 N v3 v4 v5 v7 v8 v34 v35 v1_0 v1_1 v1_2 kn kr := (Z29 N v3 v4 v5 v7 v8 v34 v35 v1_0 v1_1 v1_2 kn kr : Option ρ)
def Z26 N v3 v4 v5 v7 v34 v35 v1_0 v1_1 v1_2 kn kr := (Z27 N v3 v4 v5 v7 v34 v35 v1_0 v1_1 v1_2 (fun v3 v4 v5 v7 v8 v34 v35 v1_0 v1_1 v1_2 => Z28 N v3 v4 v5 v7 v8 v34 v35 v1_0 v1_1 v1_2 kn kr) : Option ρ)
def Z56 {ρ : Type} (N : Nat) (v3 v4 v5 v7 : LI) (v34 v35 v1_0 v1_1 : Int) (v1_2 : LI) (kn : LI → LI → LI → LI → I5 (LI → Option ρ)) : Option ρ :=
 kn v3 v4 v5 v7 1 v34 v35 v1_0 v1_1 v1_2
def Z59 {ρ : Type} (N : Nat) (v3 v4 v5 v7 : LI) (v16 v34 v35 v1_0 v1_1 : Int) (v1_2 : LI) (kn : LI → LI → LI → LI → I7 (LI → Option ρ)) : Option ρ :=
 kn v3 v4 v5 v7 v16 v34 v35 (v7.length : Int) 0 v1_0 v1_1 v1_2
def Z62 {ρ : Type} (N : Nat) (v3 v4 v5 v7 : LI) (v16 v34 v35 v159 v160 v1_0 v1_1 : Int) (v1_2 : LI) (kn : LI → LI → LI → LI → I7 (LI → Option ρ)) (k6 : LI → LI → LI → LI → I5 (LI → Option ρ)) : Option ρ :=
 cond (lk N (decide (v160 < v159)))
 (
  cond (lk N (inB v160 v7.length)) (
   cond (lk N (inB (v7.getD v160.toNat 0) v4.length)) (
    cond (lk N (inB (v7.getD v160.toNat 0) v4.length)) (
     cond (lk N (impl_gcd.P v16 (v4.getD (v7.getD v160.toNat 0).toNat 0))) (
      cond (lk N (!(decide ((impl_gcd.g v16 (v4.getD (v7.getD v160.toNat 0).toNat 0)) = 0)))) (
       kn v3 v4 v5 v7 (w64 ((w64 (Int.tdiv v16 (impl_gcd.g v16 (v4.getD (v7.getD v160.toNat 0).toNat 0)))) * (v4.getD (v7.getD v160.toNat 0).toNat 0))) v34 v35 v159 (w64 (v160 + 1)) v1_0 v1_1 v1_2) none) none) none) none) none)
 (
  k6 v3 v4 v5 v7 v16 v34 v35 v1_0 v1_1 v1_2)
def Z61L {ρ : Type} (N : Nat) (k6 : LI → LI → LI → LI → I5 (LI → Option ρ)) : Nat → LI → LI → LI → LI → Int → Int → Int → Int → Int → Int → Int → LI → Option ρ
  | 0, _, _, _, _, _, _, _, _, _, _, _, _ => none
  | M + 1, v3, v4, v5, v7, v16, v34, v35, v159, v160, v1_0, v1_1, v1_2 => Z62 N v3 v4 v5 v7 v16 v34 v35 v159 v160 v1_0 v1_1 v1_2 (fun v3 v4 v5 v7 v16 v34 v35 v159 v160 v1_0 v1_1 v1_2 => Z61L N k6 M v3 v4 v5 v7 v16 v34 v35 v159 v160 v1_0 v1_1 v1_2) k6
def Z61 N v3 v4 v5 v7 v16 v34 v35 v159 v160 v1_0 v1_1 v1_2 k6 := (Z61L N k6 N v3 v4 v5 v7 v16 v34 v35 v159 v160 v1_0 v1_1 v1_2 : Option ρ)
def Z60 N v3 v4 v5 v7 v16 v34 v35 v159 v160 v1_0 v1_1 v1_2 kn := (Z61 N v3 v4 v5 v7 v16 v34 v35 v159 v160 v1_0 v1_1 v1_2 kn : Option ρ)
def Z58 N v3 v4 v5 v7 v16 v34 v35 v1_0 v1_1 v1_2 kn := (Z59 N v3 v4 v5 v7 v16 v34 v35 v1_0 v1_1 v1_2 (fun v3 v4 v5 v7 v16 v34 v35 v159 v160 v1_0 v1_1 v1_2 => Z60 N v3 v4 v5 v7 v16 v34 v35 v159 v160 v1_0 v1_1 v1_2 kn) : Option ρ)
def Z64 {ρ : Type} (N : Nat) (v3 v4 v5 v7 : LI) (v16 v34 v35 v1_0 v1_1 : Int) (v1_2 : LI) (kn : LI → LI → LI → LI → I6 (LI → Option ρ)) : Option ρ :=
 kn v3 v4 v5 v7 v16 0 v34 v35 v1_0 v1_1 v1_2
def Z67 {ρ : Type} (N : Nat) (v3 v4 v5 v7 : LI) (v16 v19 v34 v35 v1_0 v1_1 : Int) (v1_2 : LI) (kn : LI → LI → LI → LI → I8 (LI → Option ρ)) : Option ρ :=
 kn v3 v4 v5 v7 v16 v19 v34 v35 (v7.length : Int) 0 v1_0 v1_1 v1_2
def Z70 {ρ : Type} (N : Nat) (v3 v4 v5 v7 : LI) (v16 v19 v34 v35 v179 v180 v1_0 v1_1 : Int) (v1_2 : LI) (kn : LI → LI → LI → LI → I8 (LI → Option ρ)) (k8 : LI → LI → LI → LI → I5 (LI → Option ρ)) : Option ρ :=
 cond (lk N (decide (v180 < v179)))
 (
  cond (lk N (inB v180 v7.length)) (
   cond (lk N (inB (v7.getD v180.toNat 0) v4.length)) (
    cond (lk N (!(decide ((v4.getD (v7.getD v180.toNat 0).toNat 0) = 0)))) (
     cond (lk N (inB (v7.getD v180.toNat 0) v3.length)) (
      cond (lk N (inB (v7.getD v180.toNat 0) v5.length)) (
       cond (lk N (inB (v7.getD v180.toNat 0) (v5.set (v7.getD v180.toNat 0).toNat (w64 ((w64 (Int.tdiv v16 (v4.getD (v7.getD v180.toNat 0).toNat 0))) * (v3.getD (v7.getD v180.toNat 0).toNat 0)))).length)) (
        cond (lk N (impl_gcd.P v19 ((v5.set (v7.getD v180.toNat 0).toNat (w64 ((w64 (Int.tdiv v16 (v4.getD (v7.getD v180.toNat 0).toNat 0))) * (v3.getD (v7.getD v180.toNat 0).toNat 0)))).getD (v7.getD v180.toNat 0).toNat 0))) (
         kn v3 v4 (v5.set (v7.getD v180.toNat 0).toNat (w64 ((w64 (Int.tdiv v16 (v4.getD (v7.getD v180.toNat 0).toNat 0))) * (v3.getD (v7.getD v180.toNat 0).toNat 0)))) v7 v16 (impl_gcd.g v19 ((v5.set (v7.getD v180.toNat 0).toNat (w64 ((w64 (Int.tdiv v16 (v4.getD (v7.getD v180.toNat 0).toNat 0))) * (v3.getD (v7.getD v180.toNat 0).toNat 0)))).getD (v7.getD v180.toNat 0).toNat 0)) v34 v35 v179 (w64 (v180 + 1)) v1_0 v1_1 v1_2) none) none) none) none) none) none) none)
 (
  k8 v3 v4 v5 v7 v19 v34 v35 v1_0 v1_1 v1_2)
def Z69L {ρ : Type} (N : Nat) (k8 : LI → LI → LI → LI → I5 (LI → Option ρ)) : Nat → LI → LI → LI → LI → Int → Int → Int → Int → Int → Int → Int → Int → LI → Option ρ
  | 0, _, _, _, _, _, _, _, _, _, _, _, _, _ => none
  | M + 1, v3, v4, v5, v7, v16, v19, v34, v35, v179, v180, v1_0, v1_1, v1_2 => Z70 N v3 v4 v5 v7 v16 v19 v34 v35 v179 v180 v1_0 v1_1 v1_2 (fun v3 v4 v5 v7 v16 v19 v34 v35 v179 v180 v1_0 v1_1 v1_2 => Z69L N k8 M v3 v4 v5 v7 v16 v19 v34 v35 v179 v180 v1_0 v1_1 v1_2) k8
def Z69 N v3 v4 v5 v7 v16 v19 v34 v35 v179 v180 v1_0 v1_1 v1_2 k8 := (Z69L N k8 N v3 v4 v5 v7 v16 v19 v34 v35 v179 v180 v1_0 v1_1 v1_2 : Option ρ)
def Z68 N v3 v4 v5 v7 v16 v19 v34 v35 v179 v180 v1_0 v1_1 v1_2 kn := (Z69 N v3 v4 v5 v7 v16 v19 v34 v35 v179 v180 v1_0 v1_1 v1_2 kn : Option ρ)
def Z66 N v3 v4 v5 v7 v16 v19 v34 v35 v1_0 v1_1 v1_2 kn := (Z67 N v3 v4 v5 v7 v16 v19 v34 v35 v1_0 v1_1 v1_2 (fun v3 v4 v5 v7 v16 v19 v34 v35 v179 v180 v1_0 v1_1 v1_2 => Z68 N v3 v4 v5 v7 v16 v19 v34 v35 v179 v180 v1_0 v1_1 v1_2 kn) : Option ρ)
def Z72 {ρ : Type} (N : Nat) (v3 v4 v5 v7 : LI) (v19 v34 v35 v1_0 v1_1 : Int) (v1_2 : LI) (kn : LI → LI → LI → LI → I7 (LI → Option ρ)) : Option ρ :=
 kn v3 v4 v5 v7 v19 v34 v35 (v7.length : Int) 0 v1_0 v1_1 v1_2
def Z75 {ρ : Type} (N : Nat) (v3 v4 v5 v205 : LI) (v19 v34 v35 v206 v207 v1_0 v1_1 : Int) (v1_2 : LI) (kn : LI → LI → LI → LI → I7 (LI → Option ρ)) (k10 : LI → LI → LI → I4 (LI → Option ρ)) : Option ρ :=
 cond (lk N (decide (v207 < v206)))
 (
  cond (lk N (inB v207 v205.length)) (
   cond (lk N (inB (v205.getD v207.toNat 0) v5.length)) (
    cond (lk N (!(decide (v19 = 0)))) (
     cond (lk N (inB (v205.getD v207.toNat 0) v5.length)) (
      kn v3 v4 (v5.set (v205.getD v207.toNat 0).toNat (w64 (Int.tdiv (v5.getD (v205.getD v207.toNat 0).toNat 0) v19))) v205 v19 v34 v35 v206 (w64 (v207 + 1)) v1_0 v1_1 v1_2) none) none) none) none)
 (
  k10 v3 v4 v5 v34 v35 v1_0 v1_1 v1_2)
def Z74L {ρ : Type} (N : Nat) (k10 : LI → LI → LI → I4 (LI → Option ρ)) : Nat → LI → LI → LI → LI → Int → Int → Int → Int → Int → Int → Int → LI → Option ρ
  | 0, _, _, _, _, _, _, _, _, _, _, _, _ => none
  | M + 1, v3, v4, v5, v205, v19, v34, v35, v206, v207, v1_0, v1_1, v1_2 => Z75 N v3 v4 v5 v205 v19 v34 v35 v206 v207 v1_0 v1_1 v1_2 (fun v3 v4 v5 v205 v19 v34 v35 v206 v207 v1_0 v1_1 v1_2 => Z74L N k10 M v3 v4 v5 v205 v19 v34 v35 v206 v207 v1_0 v1_1 v1_2) k10
def Z74 N v3 v4 v5 v205 v19 v34 v35 v206 v207 v1_0 v1_1 v1_2 k10 := (Z74L N k10 N v3 v4 v5 v205 v19 v34 v35 v206 v207 v1_0 v1_1 v1_2 : Option ρ)
def Z73 N v3 v4 v5 v205 v19 v34 v35 v206 v207 v1_0 v1_1 v1_2 kn := (Z74 N v3 v4 v5 v205 v19 v34 v35 v206 v207 v1_0 v1_1 v1_2 kn : Option ρ)
def Z71 N v3 v4 v5 v7 v19 v34 v35 v1_0 v1_1 v1_2 kn := (Z72 N v3 v4 v5 v7 v19 v34 v35 v1_0 v1_1 v1_2 (fun v3 v4 v5 v205 v19 v34 v35 v206 v207 v1_0 v1_1 v1_2 => Z73 N v3 v4 v5 v205 v19 v34 v35 v206 v207 v1_0 v1_1 v1_2 kn) : Option ρ)
def Z65 N v3 v4 v5 v7 v16 v19 v34 v35 v1_0 v1_1 v1_2 kn := (Z66 N v3 v4 v5 v7 v16 v19 v34 v35 v1_0 v1_1 v1_2 (fun v3 v4 v5 v7 v19 v34 v35 v1_0 v1_1 v1_2 => Z71 N v3 v4 v5 v7 v19 v34 v35 v1_0 v1_1 v1_2 kn) : Option ρ)
def Z63 N v3 v4 v5 v7 v16 v34 v35 v1_0 v1_1 v1_2 kn := (Z64 N v3 v4 v5 v7 v16 v34 v35 v1_0 v1_1 v1_2 (fun v3 v4 v5 v7 v16 v19 v34 v35 v1_0 v1_1 v1_2 => Z65 N v3 v4 v5 v7 v16 v19 v34 v35 v1_0 v1_1 v1_2 kn) : Option ρ)
def Z57 N v3 v4 v5 v7 v16 v34 v35 v1_0 v1_1 v1_2 kn := (Z58 N v3 v4 v5 v7 v16 v34 v35 v1_0 v1_1 v1_2 (fun v3 v4 v5 v7 v16 v34 v35 v1_0 v1_1 v1_2 => Z63 N v3 v4 v5 v7 v16 v34 v35 v1_0 v1_1 v1_2 kn) : Option ρ)
def Z55 N v3 v4 v5 v7 v34 v35 v1_0 v1_1 v1_2 kn := (Z56 N v3 v4 v5 v7 v34 v35 v1_0 v1_1 v1_2 (fun v3 v4 v5 v7 v16 v34 v35 v1_0 v1_1 v1_2 => Z57 N v3 v4 v5 v7 v16 v34 v35 v1_0 v1_1 v1_2 kn) : Option ρ)
def Z25 N v3 v4 v5 v7 v34 v35 v1_0 v1_1 v1_2 kn kr := (Z26 N v3 v4 v5 v7 v34 v35 v1_0 v1_1 v1_2 (fun v3 v4 v5 v7 v34 v35 v1_0 v1_1 v1_2 => Z55 N v3 v4 v5 v7 v34 v35 v1_0 v1_1 v1_2 kn) kr : Option ρ)
def Z23 N v3 v4 v5 v6 v34 v35 v1_0 v1_1 v1_2 kn kr := (Z24 N v3 v4 v5 v6 v34 v35 v1_0 v1_1 v1_2 (fun v3 v4 v5 v7 v34 v35 v1_0 v1_1 v1_2 => Z25 N v3 v4 v5 v7 v34 v35 v1_0 v1_1 v1_2 kn kr) : Option ρ)
def Z21 N v3 v4 v5 v6 v34 v35 v1_0 v1_1 v1_2 kn kr := (Z22 N v3 v4 v5 v6 v34 v35 v1_0 v1_1 v1_2 (fun v3 v4 v5 v6 v34 v35 v1_0 v1_1 v1_2 => Z23 N v3 v4 v5 v6 v34 v35 v1_0 v1_1 v1_2 kn kr) : Option ρ)
def Z19 N v3 v4 v5 v6 v34 v35 v1_0 v1_1 v1_2 kn k1 kr := (Z20 N v3 v4 v5 v6 v34 v35 v1_0 v1_1 v1_2 (fun v3 v4 v5 v6 v34 v35 v1_0 v1_1 v1_2 => Z21 N v3 v4 v5 v6 v34 v35 v1_0 v1_1 v1_2 kn kr) k1 : Option ρ)
def Z17 N v3 v4 v5 v34 v35 v1_0 v1_1 v1_2 kn k1 kr := (Z18 N v3 v4 v5 v34 v35 v1_0 v1_1 v1_2 (fun v3 v4 v5 v6 v34 v35 v1_0 v1_1 v1_2 => Z19 N v3 v4 v5 v6 v34 v35 v1_0 v1_1 v1_2 kn k1 kr) : Option ρ)
def Z16 N v3 v4 v5 v34 v35 v1_0 v1_1 v1_2 kn kr := (Z17 N v3 v4 v5 v34 v35 v1_0 v1_1 v1_2 kn kn kr : Option ρ)
def Z76 {ρ : Type} (N : Nat) (v3 v4 v5 : LI) (v34 v35 v1_0 v1_1 : Int) (v1_2 : LI) (kn : LI → LI → LI → I4 (LI → Option ρ)) : Option ρ :=
 kn v3 v4 v5 v34 (w64 (v35 + 1)) v1_0 v1_1 v1_2
def Z15 N v3 v4 v5 v34 v35 v1_0 v1_1 v1_2 kn kr := (Z16 N v3 v4 v5 v34 v35 v1_0 v1_1 v1_2 (fun v3 v4 v5 v34 v35 v1_0 v1_1 v1_2 => Z76 N v3 v4 v5 v34 v35 v1_0 v1_1 v1_2 kn) kr : Option ρ)
def Z13 N v3 v4 v5 v34 v35 v36 v1_0 v1_1 v1_2 kn k0 kr := (Z14 N v3 v4 v5 v34 v35 v36 v1_0 v1_1 v1_2 (fun v3 v4 v5 v34 v35 v1_0 v1_1 v1_2 => Z15 N v3 v4 v5 v34 v35 v1_0 v1_1 v1_2 kn kr) k0 : Option ρ)
def Z11 N v3 v4 v5 v34 v35 v1_0 v1_1 v1_2 kn k0 kr := (Z12 N v3 v4 v5 v34 v35 v1_0 v1_1 v1_2 (fun v3 v4 v5 v34 v35 v36 v1_0 v1_1 v1_2 => Z13 N v3 v4 v5 v34 v35 v36 v1_0 v1_1 v1_2 kn k0 kr) : Option ρ)
def Z10L {ρ : Type} (N : Nat) (k0 kr : LI → Option ρ) : Nat → LI → LI → LI → Int → Int → Int → Int → LI → Option ρ
  | 0, _, _, _, _, _, _, _, _ => none
  | M + 1, v3, v4, v5, v34, v35, v1_0, v1_1, v1_2 => Z11 N v3 v4 v5 v34 v35 v1_0 v1_1 v1_2 (fun v3 v4 v5 v34 v35 v1_0 v1_1 v1_2 => Z10L N k0 kr M v3 v4 v5 v34 v35 v1_0 v1_1 v1_2) k0 kr
def Z10 N v3 v4 v5 v34 v35 v1_0 v1_1 v1_2 k0 kr := (Z10L N k0 kr N v3 v4 v5 v34 v35 v1_0 v1_1 v1_2 : Option ρ)
def Z9 N v3 v4 v5 v34 v35 v1_0 v1_1 v1_2 kn kr := (Z10 N v3 v4 v5 v34 v35 v1_0 v1_1 v1_2 kn kr : Option ρ)
def Z7 N v3 v4 v5 v1_0 v1_1 v1_2 kn kr := (Z8 N v3 v4 v5 v1_0 v1_1 v1_2 (fun v3 v4 v5 v34 v35 v1_0 v1_1 v1_2 => Z9 N v3 v4 v5 v34 v35 v1_0 v1_1 v1_2 kn kr) : Option ρ)
def Z77 {ρ : Type} (N : Nat) (v5 : LI) (kr : LI → Option ρ) : Option ρ :=
 cond (Nat.blt 0 v5.length) (
  kr v5) none
def Z6 N v3 v4 v5 v1_0 v1_1 v1_2 kr := (Z7 N v3 v4 v5 v1_0 v1_1 v1_2 (fun v5 => Z77 N v5 kr) kr : Option ρ)
def Z4 N v3 v4 v1_0 v1_1 v1_2 kr := (Z5 N v3 v4 v1_0 v1_1 v1_2 (fun v3 v4 v5 v1_0 v1_1 v1_2 => Z6 N v3 v4 v5 v1_0 v1_1 v1_2 kr) : Option ρ)
def Z2 N v1_0 v1_1 v1_2 kr := (Z3 N v1_0 v1_1 v1_2 (fun v3 v4 v1_0 v1_1 v1_2 => Z4 N v3 v4 v1_0 v1_1 v1_2 kr) : Option ρ)
def Z0 N v0 kr := (Z1 N v0 (fun v1_0 v1_1 v1_2 => Z2 N v1_0 v1_1 v1_2 kr) : Option ρ)
def Spec : Prop := ∀  (v0 : MT), Ty.bd (.pair (.int .i64) (.pair (.int .i64) (.sl 0 (.int .i64)))) v0 → P v0 = true → ∃ N0, ∀ N, N0 ≤ N → Z0 N v0 (fun v2 => some ((), (v2, ()))) = some ((), ((g v0), ()))
theorem mx_abs {a : Int} (h : -99 ≤ a ∧ a ≤ 99) : mx a (w64 (0 - a)) = absK a := by
  rw [w64_id (by omega) (by omega), mx_eq]
  unfold absK
  omega
theorem absK_neg (a : Int) : absK (-a) = absK a := by unfold absK; omega
theorem pow4 {k : Nat} (h : k ≤ 4) : (99 : Int) ^ k ≤ 96059601 := by
  have h1 : 99 ^ k ≤ 99 ^ 4 := Nat.pow_le_pow_right (by omega) h
  have h2 : (99 : Int) ^ k = ((99 ^ k : Nat) : Int) := by rw [Int.natCast_pow]; rfl
  rw [h2]
  omega
theorem ne_good {n : Nat} {A : Nat → Nat → Int} {x j : Nat} (hx : x < n) (hj : j < n) (h : ¬ (A x j = 0 ∧ A j x = 0)) (h' : A x j = 0 ∨ A j x = 0) : ¬ ∃ e, Good n A e := by
  rintro ⟨e, he⟩
  rcases h' with z | z
  · exact h ⟨z, good_zero he hx hj z⟩
  · exact h ⟨good_zero he hj hx z, z⟩
section
variable {ρ : Type} {N : Nat} {m : Int × Int × List Int} {s p x j : Nat} {num0 num den out : List Int} {L : List Nat}
theorem core (hm : shapedK m = true) (hn : m.1.toNat ≤ 5) (hcl : Closed m.1.toNat (ent m) num0) (hf : FInv m.1.toNat (ent m) s num0 L num den) (hp : p < L.length) (hx : L.getD p 0 = x) (hj : j < m.1.toNat) (h0 : ¬ (ent m x j = 0 ∧ ent m j x = 0))
    (kn : List Int → List Int → List Int → List Int → Int → Int → Int → Int → Int → Int → Int → Int → List Int → Option ρ) (kr : List Int → Option ρ) (t34 t35 t62 t63 : Int) :
    (Z52 N num den out (ints L) (p : Int) (x : Int) (j : Int) (ent m x j) (-(ent m j x)) t34 t35 t62 t63 m.1 m.2.1 m.2.2 kn kr = kr [] ∧ ¬ ∃ e, Good m.1.toNat (ent m) e) ∨
    (∃ L' num' den', FInv m.1.toNat (ent m) s num0 L' num' den' ∧ (∃ u, L' = L ++ u) ∧ (∀ y ∈ L, ∀ k, Edge (ent m) L num den y k → Edge (ent m) L' num' den' y k) ∧ Edge (ent m) L' num' den' x j ∧
      Z52 N num den out (ints L) (p : Int) (x : Int) (j : Int) (ent m x j) (-(ent m j x)) t34 t35 t62 t63 m.1 m.2.1 m.2.2 kn kr = kn num' den' out (ints L') (p : Int) (x : Int) t34 t35 t62 t63 m.1 m.2.1 m.2.2) := by
  have hxm : x ∈ L := by rw [← hx]; exact getD_mem 0 hp
  have hxn := hf.lt x hxm
  have hle := hf.le
  simp only [Z52]
  by_cases z1 : ent m x j = 0
  · rw [ct (dt z1)]
    exact Or.inl ⟨rfl, ne_good hxn hj h0 (Or.inl z1)⟩
  rw [cf (df z1)]
  by_cases z2 : ent m j x = 0
  · rw [ct (dt (by omega))]
    exact Or.inl ⟨rfl, ne_good hxn hj h0 (Or.inr z2)⟩
  rw [cf (df (by omega))]
  by_cases sg : (0 < ent m x j ↔ 0 < -(ent m j x))
  · have sgb : (!(((lk N (decide (0 < ent m x j))) == (lk N (decide (0 < -(ent m j x))))))) = false := by
      rw [lk_eq, lk_eq]
      by_cases h1 : 0 < ent m x j
      · rw [dt h1, dt (sg.1 h1)]; rfl
      · rw [df h1, df (fun h => h1 (sg.2 h))]; rfl
    rw [cf sgb]
    have hne : ¬ ((x : Int) = (j : Int)) := fun e => by
      have e' : x = j := by omega
      subst e'
      omega
    rw [cf (df hne)]
    obtain ⟨Q, q1, q2, q3⟩ := hf.frac
    obtain ⟨c1, c2, c3, c4, c5⟩ := q3 x hxm
    have st := stepN (A := ent m) (num := num) (den := den) x j c1 c3 z1 z2
    have sk := skew_of z1 z2 sg
    have hb := ent_bound hm
    have e1 := mx_abs (hb x j)
    have e2 : mx (-(ent m j x)) (w64 (0 - -(ent m j x))) = absK (ent m j x) := by
      rw [mx_abs (by have := hb j x; omega), absK_neg]
    have pw := pow4 (k := L.length - 1) (by omega)
    have hdQ := Int.le_of_dvd q1 c4
    have a1 := absK_le (hb x j)
    have a2 := absK_le (hb j x)
    have a1' := absK_pos z1
    have a2' := absK_pos z2
    have b1 : num.getD x 0 * absK (ent m x j) ≤ 96059601 * 99 := Int.mul_le_mul (by omega) a1 (by omega) (by omega)
    have b2 : den.getD x 0 * absK (ent m j x) ≤ 96059601 * 99 := Int.mul_le_mul (by omega) a2 (by omega) (by omega)
    have hA := st.a0p
    have hB := st.b0p
    simp only [e1, e2, Int.toNat_natCast, w64_id (show -9223372036854775808 ≤ num.getD x 0 * absK (ent m x j) by omega) (by omega), w64_id (show -9223372036854775808 ≤ den.getD x 0 * absK (ent m j x) by omega) (by omega), impl_gcd.g]
    generalize hA0 : num.getD x 0 * absK (ent m x j) = A0 at *
    generalize hB0 : den.getD x 0 * absK (ent m j x) = B0 at *
    generalize hG : (Int.gcd A0 B0 : Int) = G at *
    generalize ha : Int.tdiv A0 G = a at *
    generalize hb' : Int.tdiv B0 G = b at *
    have gp := st.gp
    have ap := st.ap
    have bp := st.bp
    have al : a ≤ A0 := by
      have h1 := Int.mul_le_mul_of_nonneg_left (show (1 : Int) ≤ G by omega) (Int.le_of_lt ap)
      have h2 := st.ea
      omega
    have bl : b ≤ B0 := by
      have h1 := Int.mul_le_mul_of_nonneg_left (show (1 : Int) ≤ G by omega) (Int.le_of_lt bp)
      have h2 := st.eb
      omega
    have i1 : inB (x : Int) num.length = true := inB_nat (by rw [hf.nl]; exact hxn)
    have i2 : inB (x : Int) den.length = true := inB_nat (by rw [hf.dl]; exact hxn)
    have i3 : inB (j : Int) num.length = true := inB_nat (by rw [hf.nl]; exact hj)
    have i4 : inB (j : Int) den.length = true := inB_nat (by rw [hf.dl]; exact hj)
    have hP : impl_gcd.P A0 B0 = true := by
      simp only [impl_gcd.P, Bool.and_eq_true, decide_eq_true_eq]
      omega
    rw [ct i1, ct i2, ct hP, ct (nt (by omega)), ct (nt (by omega)), ct i3]
    simp only [w64_id (show -9223372036854775808 ≤ a by omega) (by omega), w64_id (show -9223372036854775808 ≤ b by omega) (by omega)]
    by_cases hz : num.getD j 0 = 0
    · obtain ⟨hg, hnj⟩ := hf.grow hp hj hz (by rw [hx]; exact st) (fun y k => absK_le (hb y k))
      have hxj : ∀ y ∈ L, j ≠ y := fun y hy e => hnj (e ▸ hy)
      have hnl : j < num.length := by rw [hf.nl]; exact hj
      have hdl : j < den.length := by rw [hf.dl]; exact hj
      rw [ct (dt hz), ct i3, ct i4, ct (show Nat.blt ((ints L).length + ([(j : Int)]).length) 1099511627776 = true by simp [ints_len, Nat.blt_eq]; omega), ints_append]
      refine Or.inr ⟨L ++ [j], num.set j a, den.set j b, hg, ⟨_, rfl⟩, fun y hy k he => he.grow hxj hnl hdl hy, Or.inr ⟨by simp, ?_⟩, rfl⟩
      have := step_edge st sk
      rw [getD_put hnl, if_neg (hxj x hxm), getD_put hdl, if_pos rfl, getD_put hnl, if_pos rfl, getD_put hdl, if_neg (hxj x hxm)]
      exact this
    · have hjm : j ∈ L := Classical.byContradiction fun hc => by
        have h1 : num0.getD j 0 ≠ 0 := by rw [← hf.out j hj hc]; exact hz
        exact hcl j hj h1 x hxn (Or.inr z1) (hf.new x hxm)
      obtain ⟨d1, d2, d3, d4, d5⟩ := q3 j hjm
      have hgood : (∃ e, Good m.1.toNat (ent m) e) → num.getD j 0 = a ∧ den.getD j 0 = b := by
        rintro ⟨e, he⟩
        have g1 := step_good st hxn hj he (hf.good e he x hxm)
        have g2 := hf.good e he j hjm
        have p1 := (he j hj).1
        have p2 : 0 < e s := (he s (by rw [← hf.hd]; exact hf.lt _ (getD_mem 0 hf.pos))).1
        have g3 : (e s * e j) * (num.getD j 0 * b) = (e s * e j) * (a * den.getD j 0) := by grind
        have p3 := Int.mul_pos p2 p1
        exact frac_eq d1 d3 ap bp d5 st.co (Int.eq_of_mul_eq_mul_left (by omega) g3)
      rw [cf (df hz), ct i3]
      by_cases ea : num.getD j 0 = a
      · rw [cf (nf ea), ct i4]
        by_cases eb : den.getD j 0 = b
        · rw [cf (nf eb)]
          refine Or.inr ⟨L, num, den, hf, ⟨[], by simp⟩, fun _ _ _ h => h, Or.inr ⟨hjm, ?_⟩, rfl⟩
          rw [ea, eb]
          exact step_edge st sk
        · rw [ct (nt eb)]
          exact Or.inl ⟨rfl, fun h => eb (hgood h).2⟩
      · rw [ct (nt ea)]
        exact Or.inl ⟨rfl, fun h => ea (hgood h).1⟩
  · have sgb : (!(((lk N (decide (0 < ent m x j))) == (lk N (decide (0 < -(ent m j x))))))) = true := by
      rw [lk_eq, lk_eq]
      by_cases h1 : 0 < ent m x j
      · rw [dt h1, df (fun h2 => sg ⟨fun _ => h2, fun _ => h1⟩)]; rfl
      · rw [df h1, dt (Classical.byContradiction fun h2 => sg ⟨fun h => absurd h h1, fun h => absurd h h2⟩)]; rfl
    rw [ct sgb]
    refine Or.inl ⟨rfl, ?_⟩
    rintro ⟨e, he⟩
    have h1 := good_sign he hxn hj
    rw [signK, Bool.and_eq_true, beq_iff_eq, decide_eq_decide] at h1
    have := h1.1
    omega
theorem at_g (hd : 0 ≤ m.1) (a b : Nat) : impl_Matrix_at.g (m.1, (m.2.1, m.2.2)) (a : Int) (b : Int) = ent m a b := atK_nat hd a b
theorem at_p (hd : dimK m = true) {a b : Nat} (ha : a < m.1.toNat) (hb : b < m.1.toNat) : impl_Matrix_at.P (m.1, (m.2.1, m.2.2)) (a : Int) (b : Int) = true := by
  obtain ⟨n, r, hn, hr, hn1, hn5, hnr, hr8, hl⟩ := dim_nat hd
  exact at_ok hd (by omega) hb
theorem inner (hm : shapedK m = true) (hcl : Closed m.1.toNat (ent m) num0) (k4 : List Int → List Int → List Int → List Int → Int → Int → Int → Int → Int → List Int → Option ρ) (kr : List Int → Option ρ) (t34 t35 : Int) : ∀ (M j : Nat) (L : List Nat) (num den : List Int), FInv m.1.toNat (ent m) s num0 L num den → p < L.length → L.getD p 0 = x → j ≤ m.1.toNat → m.1.toNat - j < M →
    (∀ k', k' < p → ∀ k, k < m.1.toNat → Edge (ent m) L num den (L.getD k' 0) k) → (∀ k, k < j → Edge (ent m) L num den x k) →
    (Z39L N k4 kr M num den out (ints L) (p : Int) (x : Int) t34 t35 (m.1.toNat : Int) (j : Int) m.1 m.2.1 m.2.2 = kr [] ∧ ¬ ∃ e, Good m.1.toNat (ent m) e) ∨
    (∃ L' num' den', FInv m.1.toNat (ent m) s num0 L' num' den' ∧ p < L'.length ∧ (∀ k', k' < p + 1 → ∀ k, k < m.1.toNat → Edge (ent m) L' num' den' (L'.getD k' 0) k) ∧
      Z39L N k4 kr M num den out (ints L) (p : Int) (x : Int) t34 t35 (m.1.toNat : Int) (j : Int) m.1 m.2.1 m.2.2 = k4 num' den' out (ints L') (p : Int) t34 t35 m.1 m.2.1 m.2.2) := by
  have hdim := shaped_dim hm
  obtain ⟨n, r, hn, hr, hn1, hn5, hnr, hr8, hl⟩ := dim_nat hdim
  intro M
  induction M with
  | zero => intro j _ _ _ _ _ _ _ h; omega
  | succ M ih =>
    intro j L num den hf hp hx hj hM hE1 hE2
    have hxm : x ∈ L := by rw [← hx]; exact getD_mem 0 hp
    have hxn := hf.lt x hxm
    simp only [Z39L, Z40, Z41, Z42, Z43]
    by_cases hlt : j < m.1.toNat
    · rw [ct' (by rw [lk_eq]; exact dt (by omega))]
      simp only [Z44, Z45, Z46, Z47, Z48, Z49]
      rw [ct (at_p hdim hxn hlt), ct (at_p hdim hlt hxn), at_g (by omega), at_g (by omega)]
      have hb := ent_bound hm j x
      rw [show w64 (0 - ent m j x) = -(ent m j x) by rw [w64_id (by omega) (by omega)]; omega]
      simp only [Z50, Z51]
      have next : ∀ (L' : List Nat) (num' den' : List Int), FInv m.1.toNat (ent m) s num0 L' num' den' → (∃ u, L' = L ++ u) → (∀ y ∈ L, ∀ k, Edge (ent m) L num den y k → Edge (ent m) L' num' den' y k) → Edge (ent m) L' num' den' x j →
          (Z39L N k4 kr M num' den' out (ints L') (p : Int) (x : Int) t34 t35 (m.1.toNat : Int) ((j + 1 : Nat) : Int) m.1 m.2.1 m.2.2 = kr [] ∧ ¬ ∃ e, Good m.1.toNat (ent m) e) ∨
          (∃ L'' num'' den'', FInv m.1.toNat (ent m) s num0 L'' num'' den'' ∧ p < L''.length ∧ (∀ k', k' < p + 1 → ∀ k, k < m.1.toNat → Edge (ent m) L'' num'' den'' (L''.getD k' 0) k) ∧
            Z39L N k4 kr M num' den' out (ints L') (p : Int) (x : Int) t34 t35 (m.1.toNat : Int) ((j + 1 : Nat) : Int) m.1 m.2.1 m.2.2 = k4 num'' den'' out (ints L'') (p : Int) t34 t35 m.1 m.2.1 m.2.2) := by
        intro L' num' den' hf' hu hk he
        obtain ⟨u, hu⟩ := hu
        have hget : ∀ k', k' < L.length → L'.getD k' 0 = L.getD k' 0 := fun k' hk' => by rw [hu, getD_append_lt hk']
        refine ih (j + 1) L' num' den' hf' (by rw [hu]; simp; omega) (by rw [hget p hp]; exact hx) hlt (by omega) (fun k' hk' k hkn => ?_) (fun k hk' => ?_)
        · rw [hget k' (by omega)]
          exact hk _ (getD_mem 0 (by omega)) k (hE1 k' hk' k hkn)
        · by_cases e : k = j
          · subst e; exact he
          · exact hk x hxm k (hE2 k (by omega))
      by_cases h0 : ent m x j = 0 ∧ ent m j x = 0
      · rw [ct (dt h0.1), ct (dt (by omega))]
        simp only [Z53]
        rw [w64_succ (by rw [maxLen_val]; omega)]
        exact next L num den hf ⟨[], by simp⟩ (fun _ _ _ h => h) (Or.inl h0)
      · have hz : ∀ (X Y : Option ρ), (cond (lk N (decide (ent m x j = 0))) (cond (lk N (decide (-(ent m j x) = 0))) X Y) Y) = Y := by
          intro X Y
          by_cases z1 : ent m x j = 0
          · rw [ct (dt z1), cf (df (fun z2 => h0 ⟨z1, by omega⟩))]
          · rw [cf (df z1)]
        rw [hz]
        rcases core (N := N) (out := out) hm (by omega) hcl hf hp hx hlt h0 (fun num3 den4 out5 piece7 at8 i9 t34 t35 t62 t63 m1_0 m1_1 m1_2 => Z53 N num3 den4 out5 piece7 at8 i9 t34 t35 t62 t63 m1_0 m1_1 m1_2 (fun num3 den4 out5 piece7 at8 i9 t34 t35 t62 t63 m1_0 m1_1 m1_2 => Z39L N k4 kr M num3 den4 out5 piece7 at8 i9 t34 t35 t62 t63 m1_0 m1_1 m1_2)) kr t34 t35 (m.1.toNat : Int) (j : Int) with hc | ⟨L', num', den', h1, h2, h3, h4, h5⟩
        · exact Or.inl hc
        · rw [h5]
          simp only [Z53]
          rw [w64_succ (by rw [maxLen_val]; omega)]
          exact next L' num' den' h1 h2 h3 h4
    · rw [cf' (by rw [lk_eq]; exact df (by omega))]
      refine Or.inr ⟨L, num, den, hf, hp, fun k' hk' k hk => ?_, rfl⟩
      by_cases e : k' = p
      · subst e; rw [hx]; exact hE2 k (by omega)
      · exact hE1 k' (by omega) k hk
theorem middle (hN : 10 ≤ N) (hm : shapedK m = true) (hcl : Closed m.1.toNat (ent m) num0) (k2 : List Int → List Int → List Int → List Int → Int → Int → Int → Int → List Int → Option ρ) (kr : List Int → Option ρ) (t34 t35 : Int) : ∀ (M p : Nat) (L : List Nat) (num den : List Int), FInv m.1.toNat (ent m) s num0 L num den → p ≤ L.length → m.1.toNat - p < M →
    (∀ k', k' < p → ∀ k, k < m.1.toNat → Edge (ent m) L num den (L.getD k' 0) k) →
    (Z29L N k2 kr M num den out (ints L) (p : Int) t34 t35 m.1 m.2.1 m.2.2 = kr [] ∧ ¬ ∃ e, Good m.1.toNat (ent m) e) ∨
    (∃ L' num' den', FInv m.1.toNat (ent m) s num0 L' num' den' ∧ (∀ x ∈ L', ∀ k, k < m.1.toNat → Edge (ent m) L' num' den' x k) ∧
      Z29L N k2 kr M num den out (ints L) (p : Int) t34 t35 m.1 m.2.1 m.2.2 = k2 num' den' out (ints L') t34 t35 m.1 m.2.1 m.2.2) := by
  have hdim := shaped_dim hm
  obtain ⟨n, r, hn, hr, hn1, hn5, hnr, hr8, hl⟩ := dim_nat hdim
  intro M
  induction M with
  | zero => intro p _ _ _ _ _ h; omega
  | succ M ih =>
    intro p L num den hf hp hM hE
    have hle := hf.le
    simp only [Z29L, Z30, Z31]
    by_cases hlt : p < L.length
    · rw [ct (dt (by rw [ints_len]; omega))]
      simp only [Z32, Z33, Z34, Z35]
      rw [ct (inB_nat (by rw [ints_len]; exact hlt))]
      simp only [Z36, Z37, Z38, Z39, Int.toNat_natCast, ints_getD, hf.nl]
      have hin := inner (ρ := ρ) (N := N) (out := out) hm hcl (fun num3 den4 out5 piece7 at8 t34 t35 m1_0 m1_1 m1_2 => Z54 N num3 den4 out5 piece7 at8 t34 t35 m1_0 m1_1 m1_2 (fun num3 den4 out5 piece7 at8 t34 t35 m1_0 m1_1 m1_2 => Z29L N k2 kr M num3 den4 out5 piece7 at8 t34 t35 m1_0 m1_1 m1_2)) kr t34 t35 N 0 L num den hf hlt rfl (by omega) (by omega) hE (fun k hk => by omega)
      rw [show ((0 : Nat) : Int) = 0 from rfl] at hin
      rcases hin with hc | ⟨L', num', den', h1, h2, h3, h4⟩
      · exact Or.inl hc
      · rw [h4]
        simp only [Z54]
        rw [w64_succ (by rw [maxLen_val]; omega)]
        exact ih (p + 1) L' num' den' h1 h2 (by omega) h3
    · rw [cf (df (by rw [ints_len]; omega))]
      refine Or.inr ⟨L, num, den, hf, fun x hx k hk => ?_, rfl⟩
      obtain ⟨k', hk', e⟩ := mem_getD hx
      rw [← e]
      exact hE k' (by omega) k hk
theorem common (hf : FInv m.1.toNat (ent m) s num0 L num den) (h5 : m.1.toNat ≤ 5) {Q : Int} (q1 : 0 < Q) (q2 : Q ≤ 96059601) (q3 : ∀ x ∈ L, 0 < den.getD x 0 ∧ den.getD x 0 ∣ Q) (k6 : List Int → List Int → List Int → List Int → Int → Int → Int → Int → Int → List Int → Option ρ) (t34 t35 : Int) : ∀ (M k : Nat) (c : Int), k ≤ L.length → L.length - k < M → 0 < c → c ∣ Q → (∀ k', k' < k → den.getD (L.getD k' 0) 0 ∣ c) →
    ∃ c', 0 < c' ∧ c' ∣ Q ∧ (∀ x ∈ L, den.getD x 0 ∣ c') ∧
      Z61L N k6 M num den out (ints L) c t34 t35 ((ints L).length : Int) (k : Int) m.1 m.2.1 m.2.2 = k6 num den out (ints L) c' t34 t35 m.1 m.2.1 m.2.2 := by
  have hle := hf.le
  intro M
  induction M with
  | zero => intro k _ _ h; omega
  | succ M ih =>
    intro k c hk hM hc hcQ hd
    simp only [Z61L, Z62]
    by_cases hlt : k < L.length
    · have hxm : L.getD k 0 ∈ L := getD_mem 0 hlt
      obtain ⟨d1, d2⟩ := q3 _ hxm
      have i1 : inB (k : Int) (ints L).length = true := inB_nat (by rw [ints_len]; exact hlt)
      have i2 : inB ((L.getD k 0 : Nat) : Int) den.length = true := inB_nat (by rw [hf.dl]; exact hf.lt _ hxm)
      obtain ⟨g1, g2, g3, g4, g5, g6, g7⟩ := lcm_step hc d1 hcQ d2 q1
      have b1 := Int.le_of_dvd q1 hcQ
      have b2 := Int.le_of_dvd q1 d2
      have b3 := Int.le_of_dvd q1 g5
      rw [ct (dt (by rw [ints_len]; omega)), ct i1]
      simp only [Int.toNat_natCast, ints_getD]
      rw [ct i2, ct i2, ct (show impl_gcd.P c (den.getD (L.getD k 0) 0) = true by
        simp only [impl_gcd.P, Bool.and_eq_true, decide_eq_true_eq]
        omega)]
      have eg : impl_gcd.g c (den.getD (L.getD k 0) 0) = (Int.gcd c (den.getD (L.getD k 0) 0) : Int) := rfl
      rw [ct (nt (by rw [eg]; omega)), eg, w64_id (n := Int.tdiv c _) (by omega) (by omega), w64_id (by omega) (by omega), w64_succ (by rw [maxLen_val]; omega)]
      refine ih (k + 1) _ hlt (by omega) g4 g5 (fun k' hk' => ?_)
      by_cases e : k' = k
      · subst e; exact g7
      · exact Int.dvd_trans (hd k' (by omega)) g6
    · rw [cf (df (by rw [ints_len]; omega))]
      refine ⟨c, hc, hcQ, fun x hx => ?_, rfl⟩
      obtain ⟨k', hk', e⟩ := mem_getD hx
      rw [← e]
      exact hd k' (by omega)
structure O2 (n : Nat) (L : List Nat) (num den out0 : List Int) (c : Int) (k : Nat) (out : List Int) (g : Int) : Prop where
  len : out.length = n
  old : ∀ x, x < n → (∀ k', k' < k → x ≠ L.getD k' 0) → out.getD x 0 = out0.getD x 0
  val : ∀ k', k' < k → out.getD (L.getD k' 0) 0 * den.getD (L.getD k' 0) 0 = c * num.getD (L.getD k' 0) 0 ∧ 0 < out.getD (L.getD k' 0) 0 ∧ out.getD (L.getD k' 0) 0 ≤ 9227446944279201
  gcd : g = ((gcdL ((List.range k).map fun t => out.getD (L.getD t 0) 0) : Nat) : Int)
theorem O2.g_range {n : Nat} {out0 : List Int} {c g : Int} {k : Nat} (h : O2 n L num den out0 c k out g) : 0 ≤ g ∧ g ≤ 9227446944279201 ∧ (0 < k → 0 < g) := by
  have h0 : 0 ≤ g := by rw [h.gcd]; omega
  by_cases e : k = 0
  · subst e
    have := h.gcd
    simp [gcdL] at this
    omega
  · obtain ⟨_, a1, a2⟩ := h.val 0 (by omega)
    have hd : g ∣ out.getD (L.getD 0 0) 0 := by
      rw [h.gcd]
      exact gcdL_dvd (List.mem_map.2 ⟨0, List.mem_range.2 (by omega), rfl⟩)
    have := Int.le_of_dvd a1 hd
    refine ⟨h0, by omega, fun _ => ?_⟩
    rcases Int.lt_or_le 0 g with h' | h'
    · exact h'
    · have e : g = 0 := by omega
      rw [e] at hd
      have := Int.zero_dvd.1 hd
      omega
theorem outs (hf : FInv m.1.toNat (ent m) s num0 L num den) (h5 : m.1.toNat ≤ 5) {c : Int} (c1 : 0 < c) (c2 : c ≤ 96059601) (q3 : ∀ x ∈ L, 0 < num.getD x 0 ∧ num.getD x 0 ≤ 96059601 ∧ 0 < den.getD x 0 ∧ den.getD x 0 ∣ c) (out0 : List Int) (k8 : List Int → List Int → List Int → List Int → Int → Int → Int → Int → Int → List Int → Option ρ) (t34 t35 : Int) : ∀ (M k : Nat) (out : List Int) (g : Int), k ≤ L.length → L.length - k < M → O2 m.1.toNat L num den out0 c k out g →
    ∃ out' g', O2 m.1.toNat L num den out0 c L.length out' g' ∧
      Z69L N k8 M num den out (ints L) c g t34 t35 ((ints L).length : Int) (k : Int) m.1 m.2.1 m.2.2 = k8 num den out' (ints L) g' t34 t35 m.1 m.2.1 m.2.2 := by
  have hle := hf.le
  intro M
  induction M with
  | zero => intro k _ _ _ h; omega
  | succ M ih =>
    intro k out g hk hM ho
    simp only [Z69L, Z70]
    by_cases hlt : k < L.length
    · have hxm : L.getD k 0 ∈ L := getD_mem 0 hlt
      have hxn := hf.lt _ hxm
      obtain ⟨d1, d2, d3, d4⟩ := q3 _ hxm
      have i1 : inB (k : Int) (ints L).length = true := inB_nat (by rw [ints_len]; exact hlt)
      have i2 : inB ((L.getD k 0 : Nat) : Int) den.length = true := inB_nat (by rw [hf.dl]; exact hxn)
      have i3 : inB ((L.getD k 0 : Nat) : Int) num.length = true := inB_nat (by rw [hf.nl]; exact hxn)
      have i4 : inB ((L.getD k 0 : Nat) : Int) out.length = true := inB_nat (by rw [ho.len]; exact hxn)
      have hxo : L.getD k 0 < out.length := by rw [ho.len]; exact hxn
      have hg := ho.g_range
      have t1 : Int.tdiv c (den.getD (L.getD k 0) 0) * den.getD (L.getD k 0) 0 = c := Int.tdiv_mul_cancel d4
      have t2 : 0 < Int.tdiv c (den.getD (L.getD k 0) 0) ∧ Int.tdiv c (den.getD (L.getD k 0) 0) ≤ c := by
        generalize Int.tdiv c (den.getD (L.getD k 0) 0) = t at t1 ⊢
        have : 0 < t := by
          rcases Int.lt_or_le 0 t with h' | h'
          · exact h'
          · have := Int.mul_nonpos_of_nonpos_of_nonneg h' (Int.le_of_lt d3); omega
        have := Int.mul_le_mul_of_nonneg_left (show (1 : Int) ≤ den.getD (L.getD k 0) 0 by omega) (Int.le_of_lt this)
        exact ⟨by omega, by omega⟩
      have t3 : 0 < Int.tdiv c (den.getD (L.getD k 0) 0) * num.getD (L.getD k 0) 0 := Int.mul_pos t2.1 d1
      have t4 : Int.tdiv c (den.getD (L.getD k 0) 0) * num.getD (L.getD k 0) 0 ≤ 96059601 * 96059601 := Int.mul_le_mul (by omega) d2 (by omega) (by omega)
      rw [ct (dt (by rw [ints_len]; omega)), ct i1]
      simp only [Int.toNat_natCast, ints_getD]
      rw [ct i2, ct (nt (by omega)), ct i3, ct i4]
      simp only [w64_id (show -9223372036854775808 ≤ Int.tdiv c (den.getD (L.getD k 0) 0) by omega) (by omega)]
      simp only [w64_id (show -9223372036854775808 ≤ Int.tdiv c (den.getD (L.getD k 0) 0) * num.getD (L.getD k 0) 0 by omega) (by omega)]
      generalize hv : Int.tdiv c (den.getD (L.getD k 0) 0) * num.getD (L.getD k 0) 0 = v at t3 t4 ⊢
      have hself : (out.set (L.getD k 0) v).getD (L.getD k 0) 0 = v := by rw [getD_put hxo, if_pos rfl]
      have hget : ∀ t, t < k → (out.set (L.getD k 0) v).getD (L.getD t 0) 0 = out.getD (L.getD t 0) 0 := fun t ht' => by
        rw [getD_put hxo, if_neg (fun e => by have := nodup_getD hf.nd hlt (by omega) e; omega)]
      rw [ct (inB_nat (by rw [List.length_set]; exact hxo)), hself, ct (show impl_gcd.P g v = true by
        simp only [impl_gcd.P, Bool.and_eq_true, decide_eq_true_eq]
        omega), w64_succ (by rw [maxLen_val]; omega)]
      refine ih (k + 1) _ _ hlt (by omega) ⟨by rw [List.length_set]; exact ho.len, ?_, ?_, ?_⟩
      · intro x hx hall
        rw [getD_put hxo, if_neg (fun e => hall k (by omega) e.symm)]
        exact ho.old x hx (fun t ht' => hall t (by omega))
      · intro t ht'
        by_cases e : t = k
        · subst e
          rw [hself]
          refine ⟨?_, t3, by omega⟩
          rw [← hv]
          have e1 := t1
          grind
        · rw [hget t (by omega)]
          exact ho.val t (by omega)
      · rw [List.range_succ, List.map_append, List.map_cons, List.map_nil, hself]
        rw [show (List.range k).map (fun t => (out.set (L.getD k 0) v).getD (L.getD t 0) 0) = (List.range k).map (fun t => out.getD (L.getD t 0) 0) from List.map_congr_left (fun t ht' => hget t (List.mem_range.1 ht'))]
        rw [ho.gcd]
        exact gcd_snoc _ _ v (by omega) rfl
    · have e : k = L.length := by omega
      subst e
      exact ⟨out, g, ho, by rw [cf (df (by rw [ints_len]; omega))]⟩
theorem divs (hf : FInv m.1.toNat (ent m) s num0 L num den) (h5 : m.1.toNat ≤ 5) {out2 : List Int} {g : Int} (hg : 0 < g) (hv : ∀ x ∈ L, 0 < out2.getD x 0 ∧ out2.getD x 0 ≤ 9227446944279201) (k10 : List Int → List Int → List Int → Int → Int → Int → Int → List Int → Option ρ) (t34 t35 : Int) : ∀ (M k : Nat) (d : List Int), k ≤ L.length → L.length - k < M → T3 m (L, []) out2 g k d →
    ∃ d', T3 m (L, []) out2 g L.length d' ∧ Z74L N k10 M num den d (ints L) g t34 t35 ((ints L).length : Int) (k : Int) m.1 m.2.1 m.2.2 = k10 num den d' t34 t35 m.1 m.2.1 m.2.2 := by
  have hle := hf.le
  intro M
  induction M with
  | zero => intro k _ _ h; omega
  | succ M ih =>
    intro k d hk hM ht
    simp only [Z74L, Z75]
    by_cases hlt : k < L.length
    · have hxm : L.getD k 0 ∈ L := getD_mem 0 hlt
      have hxn := hf.lt _ hxm
      obtain ⟨v1, v2⟩ := hv _ hxm
      have hcur := ht.cur hf.nd hf.lt hlt
      have hdv : 0 ≤ Int.tdiv (out2.getD (L.getD k 0) 0) g ∧ Int.tdiv (out2.getD (L.getD k 0) 0) g ≤ 9227446944279201 := by
        rw [Int.tdiv_eq_ediv_of_nonneg (by omega)]
        refine ⟨Int.ediv_nonneg (by omega) (by omega), ?_⟩
        have := Int.ediv_le_self (a := out2.getD (L.getD k 0) 0) g (by omega)
        omega
      have i4 : inB ((L.getD k 0 : Nat) : Int) d.length = true := inB_nat (by rw [ht.len]; exact hxn)
      have hcur' : d.getD (L.getD k 0) 0 = out2.getD (L.getD k 0) 0 := hcur
      rw [ct (dt (by rw [ints_len]; omega)), ct (inB_nat (by rw [ints_len]; exact hlt))]
      simp only [Int.toNat_natCast, ints_getD]
      rw [ct i4, ct (nt (by omega)), ct i4, hcur', w64_id (by omega) (by omega), w64_succ (by rw [maxLen_val]; omega)]
      exact ih (k + 1) _ hlt (by omega) (ht.step hf.nd hf.lt hlt)
    · have e : k = L.length := by omega
      subst e
      exact ⟨d, ht, by rw [cf (df (by rw [ints_len]; omega))]⟩
theorem outer (hN : 10 ≤ N) (hm : shapedK m = true) (kr : List Int → Option ρ) : ∀ (M i : Nat) (num den out : List Int), OInv m.1.toNat (ent m) num out → den.length = m.1.toNat → i ≤ m.1.toNat → (∀ x, x < i → num.getD x 0 ≠ 0) → m.1.toNat - i < M →
    Z10L N (fun out5 => Z77 N out5 kr) kr M num den out (m.1.toNat : Int) (i : Int) m.1 m.2.1 m.2.2 = kr (facK m) := by
  have hdim := shaped_dim hm
  obtain ⟨n, r, hn, hr, hn1, hn5, hnr, hr8, hl⟩ := dim_nat hdim
  intro M
  induction M with
  | zero => intro i _ _ _ _ _ _ _ h; omega
  | succ M ih =>
    intro i num den out hO hdl hi hpos hM
    simp only [Z10L, Z11, Z12, Z13, Z14]
    by_cases hlt : i < m.1.toNat
    · rw [ct' (by rw [lk_eq]; exact dt (by omega))]
      simp only [Z15, Z16, Z17, Z18, Z19, Z20]
      rw [ct (inB_nat (by rw [hO.nl]; exact hlt)), Int.toNat_natCast]
      by_cases hz : num.getD i 0 = 0
      · rw [cf (nf hz)]
        simp only [Z21, Z22]
        rw [ct (inB_nat (by rw [hO.nl]; exact hlt)), ct (inB_nat (by rw [hdl]; exact hlt)), Int.toNat_natCast]
        simp only [Z23, Z24, Z25, Z26, Z27, Z28, Z29]
        have hnl : i < num.length := by rw [hO.nl]; exact hlt
        have hdl' : i < den.length := by rw [hdl]; exact hlt
        have f0 : FInv m.1.toNat (ent m) i num [i] (num.set i 1) (den.set i 1) := by
          refine ⟨by rw [List.length_set]; exact hO.nl, by rw [List.length_set]; exact hdl, by simp, fun x hx => by rw [List.mem_singleton] at hx; omega, rfl, by simp, ?_, ?_, ?_, ?_⟩
          · intro x hx hni
            rw [getD_put hnl, if_neg (fun e => hni (by simp [e]))]
          · intro x hx
            rw [List.mem_singleton] at hx; subst hx; exact hz
          · refine ⟨1, by omega, by simp, fun x hx => ?_⟩
            rw [List.mem_singleton] at hx
            subst hx
            rw [getD_put hnl, if_pos rfl, getD_put hdl', if_pos rfl]
            exact ⟨by omega, by simp, by omega, Int.dvd_refl _, by decide⟩
          · intro e he x hx
            rw [List.mem_singleton] at hx
            subst hx
            rw [getD_put hnl, if_pos rfl, getD_put hdl', if_pos rfl]
        have hmid := middle (ρ := ρ) (out := out) hN hm hO.closed (fun num3 den4 out5 piece7 t34 t35 m1_0 m1_1 m1_2 => Z55 N num3 den4 out5 piece7 t34 t35 m1_0 m1_1 m1_2 (fun num3 den4 out5 t34 t35 m1_0 m1_1 m1_2 => Z76 N num3 den4 out5 t34 t35 m1_0 m1_1 m1_2 (fun num3 den4 out5 t34 t35 m1_0 m1_1 m1_2 => Z10L N (fun out5 => Z77 N out5 kr) kr M num3 den4 out5 t34 t35 m1_0 m1_1 m1_2))) kr (m.1.toNat : Int) (i : Int) N 0 [i] (num.set i 1) (den.set i 1) f0 (by omega) (by omega) (fun k' hk' => by omega)
        rw [show ((0 : Nat) : Int) = 0 from rfl, show ints [i] = [(i : Int)] from rfl] at hmid
        rcases hmid with ⟨h1, h2⟩ | ⟨L, num', den', hf, hE, h1⟩
        · rw [h1, fac_none h2]
        · rw [h1]
          have hle := hf.le
          obtain ⟨Q, q1, q2, q3⟩ := hf.frac
          have pw := pow4 (k := L.length - 1) (by omega)
          simp only [Z55, Z56, Z57, Z58, Z59, Z60, Z61]
          obtain ⟨c, c1, c2, c3, c4⟩ := common (ρ := ρ) (N := N) (out := out) (num := num') (m := m) hf (by omega) q1 (by omega) (fun x hx => ⟨(q3 x hx).2.2.1, (q3 x hx).2.2.2.1⟩) (fun num3 den4 out5 piece7 common16 t34 t35 m1_0 m1_1 m1_2 => Z63 N num3 den4 out5 piece7 common16 t34 t35 m1_0 m1_1 m1_2 (fun num3 den4 out5 t34 t35 m1_0 m1_1 m1_2 => Z76 N num3 den4 out5 t34 t35 m1_0 m1_1 m1_2 (fun num3 den4 out5 t34 t35 m1_0 m1_1 m1_2 => Z10L N (fun out5 => Z77 N out5 kr) kr M num3 den4 out5 t34 t35 m1_0 m1_1 m1_2))) (m.1.toNat : Int) (i : Int) N 0 1 (by omega) (by omega) (by omega) (Int.one_dvd _) (fun k' hk' => by omega)
          rw [show ((0 : Nat) : Int) = 0 from rfl] at c4
          rw [c4]
          have cQ := Int.le_of_dvd q1 c2
          simp only [Z63, Z64, Z65, Z66, Z67, Z68, Z69]
          obtain ⟨out2, g2, o1, o2⟩ := outs (ρ := ρ) (N := N) (num := num') (m := m) hf (by omega) c1 (by omega) (fun x hx => ⟨(q3 x hx).1, by have := (q3 x hx).2.1; omega, (q3 x hx).2.2.1, c3 x hx⟩) out (fun num3 den4 out5 piece7 g19 t34 t35 m1_0 m1_1 m1_2 => Z71 N num3 den4 out5 piece7 g19 t34 t35 m1_0 m1_1 m1_2 (fun num3 den4 out5 t34 t35 m1_0 m1_1 m1_2 => Z76 N num3 den4 out5 t34 t35 m1_0 m1_1 m1_2 (fun num3 den4 out5 t34 t35 m1_0 m1_1 m1_2 => Z10L N (fun out5 => Z77 N out5 kr) kr M num3 den4 out5 t34 t35 m1_0 m1_1 m1_2))) (m.1.toNat : Int) (i : Int) N 0 out 0 (by omega) (by omega) ⟨hO.ol, fun _ _ _ => rfl, fun k hk => by omega, rfl⟩
          rw [show ((0 : Nat) : Int) = 0 from rfl] at o2
          rw [o2]
          have hg2 := o1.g_range.2.2 hf.pos
          have hval : ∀ x ∈ L, out2.getD x 0 * den'.getD x 0 = c * num'.getD x 0 ∧ 0 < out2.getD x 0 ∧ out2.getD x 0 ≤ 9227446944279201 := by
            intro x hx
            obtain ⟨k, hk, e⟩ := mem_getD hx
            rw [← e]
            exact o1.val k hk
          simp only [Z71, Z72, Z73, Z74]
          obtain ⟨out3, p1, p2⟩ := divs (ρ := ρ) (N := N) (num := num') (m := m) hf (by omega) hg2 (fun x hx => (hval x hx).2) (fun num3 den4 out5 t34 t35 m1_0 m1_1 m1_2 => Z76 N num3 den4 out5 t34 t35 m1_0 m1_1 m1_2 (fun num3 den4 out5 t34 t35 m1_0 m1_1 m1_2 => Z10L N (fun out5 => Z77 N out5 kr) kr M num3 den4 out5 t34 t35 m1_0 m1_1 m1_2)) (m.1.toNat : Int) (i : Int) N 0 out2 (by omega) (by omega) ⟨o1.len, fun _ _ _ => rfl, fun k hk => by omega⟩
          rw [show ((0 : Nat) : Int) = 0 from rfl] at p2
          rw [p2]
          have hgl : g2 = ((gcdL (L.map fun x => out2.getD x 0) : Nat) : Int) := by
            rw [← range_getD L (fun x => out2.getD x 0)]
            exact o1.gcd
          obtain ⟨r1, r2, r3⟩ := hO.piece (out3 := out3) hf hE c1 hg2 (fun x hx => (hval x hx).1) hgl (fun x hx => by
            obtain ⟨k, hk, e⟩ := mem_getD hx
            have := p1.val k hk
            rw [← e]
            rw [show out3.getD (L.getD k 0) 0 = _ from this]
            refine Int.tdiv_mul_cancel ?_
            rw [hgl]
            exact gcdL_dvd (List.mem_map.2 ⟨L.getD k 0, getD_mem 0 hk, rfl⟩)) (fun x hx hni => by
            have hne : ∀ k', k' < L.length → x ≠ L.getD k' 0 := fun k' hk' e => hni (by rw [e]; exact getD_mem 0 hk')
            rw [p1.out x hx hne, o1.old x hx hne]) p1.len
          simp only [Z76]
          rw [w64_succ (by rw [maxLen_val]; omega)]
          exact ih (i + 1) num' den' out3 r1 hf.dl hlt (fun x hx => by
            by_cases e : x = i
            · subst e; exact r2
            · exact r3 x (by omega) (hpos x (by omega))) (by omega)
      · rw [ct (nt hz)]
        simp only [Z76]
        rw [w64_succ (by rw [maxLen_val]; omega)]
        exact ih (i + 1) num den out hO hdl hlt (fun x hx => by
          by_cases e : x = i
          · subst e; exact hz
          · exact hpos x (by omega)) (by omega)
    · rw [cf' (by rw [lk_eq]; exact df (by omega))]
      simp only [Z77]
      rw [hO.fac (fun x hx => hpos x (by omega)), ct' (by rw [hO.ol, Nat.blt_eq]; omega)]
end
theorem ok : Spec := fun m hb hp => ⟨10, fun N hN => by
  have hm : shapedK m = true := hp
  have hdim := shaped_dim hm
  obtain ⟨n, r, hn, hr, hn1, hn5, hnr, hr8, hl⟩ := dim_nat hdim
  have hz : ∀ x, (List.replicate m.1.toNat (0 : Int)).getD x 0 = 0 := fun x => by
    rw [List.getD_eq_getElem?_getD, List.getElem?_replicate]
    split <;> rfl
  have hc : (leB 0 m.1 && decide (m.1 < 1099511627776)) = true := by rw [leB_t (by omega), dt (by omega)]; rfl
  simp only [Z0, Z1, Z2, Z3]
  rw [ct hc, ct hc]
  have key : Z4 N (List.replicate m.1.toNat 0) (List.replicate m.1.toNat 0) m.1 m.2.1 m.2.2 (fun t2 => some ((), (t2, ()))) = some ((), (g m, ())) := by
    simp only [Z4, Z5]
    rw [ct hc]
    simp only [Z6, Z7, Z8, Z9, Z10, List.length_replicate]
    have := outer (ρ := Unit × List Int × Unit) hN hm (fun t2 => some ((), (t2, ()))) N 0 (List.replicate m.1.toNat 0) (List.replicate m.1.toNat 0) (List.replicate m.1.toNat 0) ⟨by simp, by simp, fun y hy h => absurd (hz y) h, fun j hj h => absurd (hz j) h⟩ (by simp) (by omega) (fun x hx => by omega) (by omega)
    exact this
  rw [key, both_self]⟩
end impl_factors
end
end Go.Fw
namespace Go.Fw
noncomputable section
variable {ρ : Type}
namespace impl_MatrixOk
def g (m : Int × Int × List Int) : Bool := shapedK m && !decide (facK m = [])
end impl_MatrixOk
namespace impl_MatrixOk
def Z0 {ρ : Type} (N : Nat) (v0 : MT) (kr : Bool → Option ρ) : Option ρ :=
 cond (lk N ((impl_shaped.g v0)))
 (
  cond (lk N (impl_factors.P v0)) (
   kr (lk N (!(decide ((impl_factors.g v0).length = 0))))) none)
 (
  kr false)
def Spec : Prop := ∀  (v0 : MT), Ty.bd (.pair (.int .i64) (.pair (.int .i64) (.sl 0 (.int .i64)))) v0 → ∃ N0, ∀ N, N0 ≤ N → Z0 N v0 (fun v2 => some ((), (v2, ()))) = some ((), ((g v0), ()))
theorem ok : Spec := fun m hb => ⟨0, fun N hN => by
  simp only [Z0, lk_eq, g, impl_shaped.g, impl_factors.P, impl_factors.g]
  cases shapedK m
  · rfl
  · by_cases h : facK m = []
    · rw [dt h, dt (by rw [h]; rfl)]; rfl
    · rw [df h, df (fun e => h (List.length_eq_zero_iff.1 e))]; rfl⟩
end impl_MatrixOk
end
end Go.Fw
namespace Go.Fw
noncomputable section
variable {ρ : Type}
namespace impl_rowsText
def P (rows : List (List Int)) : Bool := decide (rows.length ≤ 1000) && rows.all fun l => rowP l && decide (l.length ≤ 1000)
noncomputable def g (rows : List (List Int)) : ByteArray := txt (Lib.join (rows.map itoasL) [59, 32])
end impl_rowsText
namespace impl_rowsText
def Z1 {ρ : Type} (N : Nat) (v0 : LL) (kn : LL → Option ρ) : Option ρ :=
 kn v0
def Z3 {ρ : Type} (N : Nat) (v0 : LL) (kn : LL → Option ρ) : Option ρ :=
 kn v0
def Z6 {ρ : Type} (N : Nat) (v0 : LL) (kn : LL → I2 (Option ρ)) : Option ρ :=
 kn v0 (v0.length : Int) 0
def Z9 {ρ : Type} (N : Nat) (v3 : List ByteArray) (v6 : LL) (v7 v8 : Int) (kn : List ByteArray → LL → I2 (Option ρ)) (k0 : List ByteArray → Option ρ) : Option ρ :=
 cond (lk N (decide (v8 < v7)))
 (
  cond (lk N (inB v8 v6.length)) (
   cond (lk N (impl_FormatInts.P (v6.getD v8.toNat []))) (
    cond (lk N (Nat.blt (v3.length + ([(impl_FormatInts.g (v6.getD v8.toNat []))] : List ByteArray).length) 1099511627776)) (
     kn (v3 ++ ([(impl_FormatInts.g (v6.getD v8.toNat []))] : List ByteArray)) v6 v7 (w64 (v8 + 1))) none) none) none)
 (
  k0 v3)
def Z8L {ρ : Type} (N : Nat) (k0 : List ByteArray → Option ρ) : Nat → List ByteArray → LL → Int → Int → Option ρ
  | 0, _, _, _, _ => none
  | M + 1, v3, v6, v7, v8 => Z9 N v3 v6 v7 v8 (fun v3 v6 v7 v8 => Z8L N k0 M v3 v6 v7 v8) k0
def Z8 N v6 v7 v8 k0 := (Z8L N k0 N ([] : List ByteArray) v6 v7 v8 : Option ρ)
def Z7 N v6 v7 v8 kn := (Z8 N v6 v7 v8 kn : Option ρ)
def Z5 N v0 kn := (Z6 N v0 (fun v6 v7 v8 => Z7 N v6 v7 v8 kn) : Option ρ)
def Z10 {ρ : Type} (N : Nat) (v3 : List ByteArray) (kr : ByteArray → Option ρ) : Option ρ :=
 cond (lk N (strings_Join.P v3 (⟨#[59, 32]⟩ : ByteArray))) (
  kr (strings_Join.g v3 (⟨#[59, 32]⟩ : ByteArray))) none
def Z4 N v0 kr := (Z5 N v0 (fun v3 => Z10 N v3 kr) : Option ρ)
def Z2 N v0 kr := (Z3 N v0 (fun v0 => Z4 N v0 kr) : Option ρ)
def Z0 N v0 kr := (Z1 N v0 (fun v0 => Z2 N v0 kr) : Option ρ)
def Spec : Prop := ∀  (v0 : LL), Ty.bd (.sl 0 (.sl 0 (.int .i64))) v0 → P v0 = true → ∃ N0, ∀ N, N0 ≤ N → Z0 N v0 (fun v2 => some ((), (v2, ()))) = some ((), ((g v0), ()))
theorem loop {ρ : Type} {N : Nat} (k0 : List ByteArray → Option ρ) {l : List (List Int)} (hp : P l = true) : ∀ (M j : Nat), j ≤ l.length → l.length - j < M → Z8L N k0 M ((l.take j).map itoasB) l (l.length : Int) (j : Int) = k0 (l.map itoasB) := by
  simp only [P, Bool.and_eq_true, decide_eq_true_eq] at hp
  intro M
  induction M with
  | zero => intro j _ h; omega
  | succ M ih =>
    intro j hj hM
    simp only [Z8L, Z9]
    by_cases h : j < l.length
    · have hm := List.all_eq_true.1 hp.2 _ (getD_mem (l := l) [] h)
      rw [Bool.and_eq_true] at hm
      have h1 : impl_FormatInts.P (l.getD j []) = true := hm.1
      have h2 : impl_FormatInts.g (l.getD j []) = itoasB (l.getD j []) := rfl
      have h3 : ∀ x : ByteArray, Nat.blt (((l.take j).map itoasB).length + ([x] : List ByteArray).length) 1099511627776 = true := fun x => Nat.ble_eq_true_of_le (by simp; omega)
      rw [ct (dt (by omega)), ct (inB_nat h), Int.toNat_natCast, ct h1, h2, ct (h3 _), w64_succ (by rw [maxLen_val]; omega)]
      have e : (l.take j).map itoasB ++ [itoasB (l.getD j [])] = (l.take (j + 1)).map itoasB := by rw [← take_getD [] h, List.map_append]; rfl
      rw [e]
      exact ih (j + 1) h (by omega)
    · rw [cf (df (by omega)), List.take_of_length_le (by omega)]
theorem ok : Spec := fun l hb hp => ⟨l.length + 1, fun N hN => by
  have hp' := hp
  simp only [P, Bool.and_eq_true, decide_eq_true_eq] at hp'
  simp only [Z1, Z3, Z6, Z9, Z8, Z7, Z5, Z10, Z4, Z2, Z0]
  refine (loop _ hp N 0 (Nat.zero_le _) (by omega)).trans ?_
  have e : ((l.map itoasB).map (·.data.toList)) = l.map itoasL := by
    have h := map_txt (l.map itoasL)
    have h2 : (l.map itoasL).map txt = l.map itoasB := by
      rw [List.map_map]
      rfl
    rw [h2] at h
    exact h
  have hlen := join_len (B := 22000) (sep := [59, 32]) (xs := l.map itoasL) fun x hx => by
    obtain ⟨r, hr, rfl⟩ := List.mem_map.1 hx
    have := List.all_eq_true.1 hp'.2 r hr
    simp only [rowP, Bool.and_eq_true, decide_eq_true_eq] at this
    have := itoas_len this.1.2
    omega
  rw [List.length_map] at hlen
  have h22 : (22000 + ([59, 32] : List UInt8).length) * l.length ≤ 22002 * 1000 := Nat.mul_le_mul (by simp) hp'.1
  have e2 : (⟨#[59, 32]⟩ : ByteArray).data.toList = [59, 32] := rfl
  have hP : strings_Join.P (l.map itoasB) ⟨#[59, 32]⟩ = true := by
    simp only [strings_Join.P, e, e2, Bool.and_eq_true, List.length_map]
    exact ⟨Nat.ble_eq_true_of_le (by omega), Nat.ble_eq_true_of_le (by omega)⟩
  have hg : strings_Join.g (l.map itoasB) ⟨#[59, 32]⟩ = g l := by
    simp only [strings_Join.g, e, e2]
    rfl
  rw [ct hP, hg]⟩
end impl_rowsText
end
end Go.Fw
namespace Go.Fw
noncomputable section
variable {ρ : Type}
namespace impl_FormatMatrix
noncomputable def g (m : Int × Int × List Int) : ByteArray := if (shapedK m && !decide (facK m = [])) = true then fmtM m else ByteArray.empty
end impl_FormatMatrix
namespace impl_FormatMatrix
def Z1 {ρ : Type} (N : Nat) (v0 : MT) (kn : I2 (LI → Option ρ)) : Option ρ :=
 kn v0.1 v0.2.1 v0.2.2
def Z3 {ρ : Type} (N : Nat) (v1_0 v1_1 : Int) (v1_2 : LI) (kn : I2 (LI → Option ρ)) (kr : ByteArray → Option ρ) : Option ρ :=
 cond (!(lk N ((impl_MatrixOk.g (v1_0, (v1_1, v1_2))))))
 (
  kr ByteArray.empty)
 (
  kn v1_0 v1_1 v1_2)
def Z5 {ρ : Type} (N : Nat) (v1_0 v1_1 : Int) (v1_2 : LI) (kn : I2 (LI → Option ρ)) : Option ρ :=
 kn v1_0 v1_1 v1_2
def Z8 {ρ : Type} (N : Nat) (v1_0 v1_1 : Int) (v1_2 : LI) (kn : I3 (LI → Option ρ)) : Option ρ :=
 kn 0 v1_0 v1_1 v1_2
def Z11 {ρ : Type} (N : Nat) (v3 : LL) (v4 v1_0 v1_1 : Int) (v1_2 : LI) (kn : LL → I3 (LI → Option ρ)) (k0 : LL → Option ρ) : Option ρ :=
 cond (lk N (decide (v4 < v1_1)))
 (
  cond (lk N (leB 0 (w64 (v4 * v1_0)) && (leB (w64 (v4 * v1_0)) (w64 ((w64 (v4 + 1)) * v1_0)) && leB (w64 ((w64 (v4 + 1)) * v1_0)) v1_2.length))) (
   cond (lk N (Nat.blt (v3.length + ([((v1_2.drop (w64 (v4 * v1_0)).toNat).take ((w64 ((w64 (v4 + 1)) * v1_0)) - (w64 (v4 * v1_0))).toNat)] : List (LI)).length) 1099511627776)) (
    kn (v3 ++ ([((v1_2.drop (w64 (v4 * v1_0)).toNat).take ((w64 ((w64 (v4 + 1)) * v1_0)) - (w64 (v4 * v1_0))).toNat)] : List (LI))) (w64 (v4 + 1)) v1_0 v1_1 v1_2) none) none)
 (
  k0 v3)
def Z10L {ρ : Type} (N : Nat) (k0 : LL → Option ρ) : Nat → LL → Int → Int → Int → LI → Option ρ
  | 0, _, _, _, _, _ => none
  | M + 1, v3, v4, v1_0, v1_1, v1_2 => Z11 N v3 v4 v1_0 v1_1 v1_2 (fun v3 v4 v1_0 v1_1 v1_2 => Z10L N k0 M v3 v4 v1_0 v1_1 v1_2) k0
def Z10 N v4 v1_0 v1_1 v1_2 k0 := (Z10L N k0 N ([] : List (LI)) v4 v1_0 v1_1 v1_2 : Option ρ)
def Z9 N v4 v1_0 v1_1 v1_2 kn := (Z10 N v4 v1_0 v1_1 v1_2 kn : Option ρ)
def Z7 N v1_0 v1_1 v1_2 kn := (Z8 N v1_0 v1_1 v1_2 (fun v4 v1_0 v1_1 v1_2 => Z9 N v4 v1_0 v1_1 v1_2 kn) : Option ρ)
def Z12 {ρ : Type} (N : Nat) (v3 : LL) (kr : ByteArray → Option ρ) : Option ρ :=
 cond (lk N (impl_rowsText.P v3)) (
  kr (impl_rowsText.g v3)) none
def Z6 N v1_0 v1_1 v1_2 kr := (Z7 N v1_0 v1_1 v1_2 (fun v3 => Z12 N v3 kr) : Option ρ)
def Z4 N v1_0 v1_1 v1_2 kr := (Z5 N v1_0 v1_1 v1_2 (fun v1_0 v1_1 v1_2 => Z6 N v1_0 v1_1 v1_2 kr) : Option ρ)
def Z2 N v1_0 v1_1 v1_2 kr := (Z3 N v1_0 v1_1 v1_2 (fun v1_0 v1_1 v1_2 => Z4 N v1_0 v1_1 v1_2 kr) kr : Option ρ)
def Z0 N v0 kr := (Z1 N v0 (fun v1_0 v1_1 v1_2 => Z2 N v1_0 v1_1 v1_2 kr) : Option ρ)
def Spec : Prop := ∀  (v0 : MT), Ty.bd (.pair (.int .i64) (.pair (.int .i64) (.sl 0 (.int .i64)))) v0 → ∃ N0, ∀ N, N0 ≤ N → Z0 N v0 (fun v2 => some ((), (v2, ()))) = some ((), ((g v0), ()))
def rows (m : Int × Int × List Int) (j : Nat) : List (List Int) := (List.range j).map (rowD m)
theorem loop {ρ : Type} {N : Nat} {m : Int × Int × List Int} (hs : shapedK m = true) (k0 : List (List Int) → Option ρ) : ∀ (M j : Nat), j ≤ m.2.1.toNat → m.2.1.toNat - j < M →
    Z10L N k0 M (rows m j) (j : Int) m.1 m.2.1 m.2.2 = k0 (rows m m.2.1.toNat) := by
  have hs' := hs
  simp only [shapedK, Bool.and_eq_true] at hs'
  obtain ⟨n, r, hn, hr, hn1, hn5, hnr, hr8, hl⟩ := dim_nat hs'.1
  intro M
  induction M with
  | zero => intro j _ h; omega
  | succ M ih =>
    intro j hj hM
    simp only [Z10L, Z11]
    by_cases h : j < m.2.1.toNat
    · have hjn : j * n ≤ 8 * 5 := Nat.mul_le_mul (by omega) hn5
      have e1 : w64 ((j : Int) * m.1) = ((j * n : Nat) : Int) := by rw [hn, ← Int.natCast_mul]; exact w64_id (by omega) (by omega)
      have e0 : w64 ((j : Int) + 1) = ((j + 1 : Nat) : Int) := w64_succ (by rw [maxLen_val]; omega)
      have e2 : w64 (((j + 1 : Nat) : Int) * m.1) = ((j * n + n : Nat) : Int) := by
        have : ((j + 1 : Nat) : Int) * (n : Int) = ((j * n + n : Nat) : Int) := by rw [← Int.natCast_mul, Nat.add_mul, Nat.one_mul]
        rw [hn, this]
        exact w64_id (by omega) (by omega)
      have hlt : j * n + n ≤ m.2.2.length := by
        have := Nat.mul_le_mul_right n (show j + 1 ≤ r by omega)
        rw [Nat.add_mul, Nat.one_mul] at this
        rw [hl]
        exact this
      have hc : (leB 0 ((j * n : Nat) : Int) && (leB ((j * n : Nat) : Int) ((j * n + n : Nat) : Int) && leB ((j * n + n : Nat) : Int) m.2.2.length)) = true := by rw [leB_t (by omega), leB_t (by omega), leB_t (by omega)]; rfl
      have hrow : (m.2.2.drop (j * n)).take (((j * n + n : Nat) : Int) - ((j * n : Nat) : Int)).toNat = rowD m j := by
        unfold rowD
        rw [show m.1.toNat = n by omega, show (((j * n + n : Nat) : Int) - ((j * n : Nat) : Int)).toNat = n by omega]
      have hb : Nat.blt ((rows m j).length + ([rowD m j] : List (List Int)).length) 1099511627776 = true := Nat.ble_eq_true_of_le (by simp [rows]; omega)
      have e4 : rows m j ++ [rowD m j] = rows m (j + 1) := by
        unfold rows
        rw [List.range_succ, List.map_append]
        rfl
      rw [ct (dt (by omega)), e1, e0, e2, ct hc, Int.toNat_natCast, hrow, ct hb, e4]
      exact ih (j + 1) h (by omega)
    · rw [cf (df (by omega)), show j = m.2.1.toNat by omega]
theorem ok : Spec := fun m hb => ⟨100, fun N hN => by
  have e0 : impl_MatrixOk.g (m.1, (m.2.1, m.2.2)) = (shapedK m && !decide (facK m = [])) := rfl
  simp only [Z0, Z1, Z2, Z3, e0, lk_eq, g]
  cases h1 : (shapedK m && !decide (facK m = []))
  · rfl
  have hs : shapedK m = true := by
    simp only [Bool.and_eq_true] at h1
    exact h1.1
  obtain ⟨n, r, hn, hr, hn1, hn5, hnr, hr8, hl⟩ := dim_nat (shaped_dim hs)
  simp only [Bool.not_true, cond_false, Z4, Z5, Z6, Z7, Z8, Z9, Z10]
  refine (loop hs (fun rows3 => Z12 N rows3 (fun t2 => some ((), (t2, ())))) N 0 (Nat.zero_le _) (by omega)).trans ?_
  have hP : impl_rowsText.P (rows m m.2.1.toNat) = true := by
    simp only [impl_rowsText.P, Bool.and_eq_true, decide_eq_true_eq, List.all_eq_true]
    refine ⟨by simp [rows]; omega, fun l hl' => ?_⟩
    obtain ⟨i, _, rfl⟩ := List.mem_map.1 hl'
    refine ⟨rowD_ok hs i, ?_⟩
    unfold rowD
    rw [List.length_take]
    omega
  have hg : impl_rowsText.g (rows m m.2.1.toNat) = fmtM m := by
    unfold impl_rowsText.g fmtM rows rowsT
    rw [List.map_map]
    rfl
  simp only [Z12]
  rw [ct hP, hg]
  rfl⟩
end impl_FormatMatrix
end
end Go.Fw
namespace Go.Fw
noncomputable section
variable {ρ : Type}
namespace impl_ParseMatrix
def P (s : ByteArray) : Bool := decide (s.size ≤ 1048576)
noncomputable def g (s : ByteArray) : (Int × Int × List Int) × Bool := readI s
end impl_ParseMatrix
namespace impl_ParseMatrix
def Z1 {ρ : Type} (N : Nat) (v0 : ByteArray) (kn : ByteArray → I2 (Option ρ)) : Option ρ :=
 kn v0 0 0
def Z3 {ρ : Type} (N : Nat) (v0 : ByteArray) (v2_0 v2_1 : Int) (kn : ByteArray → I4 (Option ρ)) : Option ρ :=
 kn v0 v2_0 v2_1 0 0
def Z6 {ρ : Type} (N : Nat) (v0 : ByteArray) (v2_0 v2_1 v4_0 v4_1 : Int) (kn : List ByteArray → ByteArray → I6 (Option ρ)) : Option ρ :=
 cond (lk N (strings_Split.P v0 (⟨#[59, 32]⟩ : ByteArray))) (
  kn (strings_Split.g v0 (⟨#[59, 32]⟩ : ByteArray)) v0 ((strings_Split.g v0 (⟨#[59, 32]⟩ : ByteArray)).length : Int) 0 v2_0 v2_1 v4_0 v4_1) none
def Z9 {ρ : Type} (N : Nat) (v11 : List ByteArray) (v4_2 : LI) (v0 : ByteArray) (v12 v13 v2_0 v2_1 v4_0 v4_1 : Int) (kn : List ByteArray → LI → ByteArray → I6 (Option ρ)) (k0 : LI → ByteArray → I4 (Option ρ)) (kr : LI → Bool → I2 (Option ρ)) : Option ρ :=
 cond (lk N (decide (v13 < v12)))
 (
  cond (lk N (inB v13 v11.length)) (
   cond (lk N (impl_ParseInts.P (v11.getD v13.toNat ByteArray.empty))) (
    cond (!(lk N ((impl_ParseInts.g (v11.getD v13.toNat ByteArray.empty)).2)))
    (
     kr ([] : List Int) false 0 0)
    (
     cond (lk N (decide (0 < v4_1)))
     (
      cond (lk N (!(decide (((impl_ParseInts.g (v11.getD v13.toNat ByteArray.empty)).1.length : Int) = v4_0))))
      (
       kr ([] : List Int) false 0 0)
      (
       cond (lk N (Nat.blt (v4_2.length + (impl_ParseInts.g (v11.getD v13.toNat ByteArray.empty)).1.length) 1099511627776)) (
        kn v11 (v4_2 ++ (impl_ParseInts.g (v11.getD v13.toNat ByteArray.empty)).1) v0 v12 (w64 (v13 + 1)) v2_0 v2_1 ((impl_ParseInts.g (v11.getD v13.toNat ByteArray.empty)).1.length : Int) (w64 (v4_1 + 1))) none))
     (
      cond (lk N (Nat.blt (v4_2.length + (impl_ParseInts.g (v11.getD v13.toNat ByteArray.empty)).1.length) 1099511627776)) (
       kn v11 (v4_2 ++ (impl_ParseInts.g (v11.getD v13.toNat ByteArray.empty)).1) v0 v12 (w64 (v13 + 1)) v2_0 v2_1 ((impl_ParseInts.g (v11.getD v13.toNat ByteArray.empty)).1.length : Int) (w64 (v4_1 + 1))) none))) none) none)
 (
  k0 v4_2 v0 v2_0 v2_1 v4_0 v4_1)
def Z8L {ρ : Type} (N : Nat) (k0 : LI → ByteArray → I4 (Option ρ)) (kr : LI → Bool → I2 (Option ρ)) : Nat → List ByteArray → LI → ByteArray → Int → Int → Int → Int → Int → Int → Option ρ
  | 0, _, _, _, _, _, _, _, _, _ => none
  | M + 1, v11, v4_2, v0, v12, v13, v2_0, v2_1, v4_0, v4_1 => Z9 N v11 v4_2 v0 v12 v13 v2_0 v2_1 v4_0 v4_1 (fun v11 v4_2 v0 v12 v13 v2_0 v2_1 v4_0 v4_1 => Z8L N k0 kr M v11 v4_2 v0 v12 v13 v2_0 v2_1 v4_0 v4_1) k0 kr
def Z8 N v11 v0 v12 v13 v2_0 v2_1 v4_0 v4_1 k0 kr := (Z8L N k0 kr N v11 ([] : List Int) v0 v12 v13 v2_0 v2_1 v4_0 v4_1 : Option ρ)
def Z7 N v11 v0 v12 v13 v2_0 v2_1 v4_0 v4_1 kn kr := (Z8 N v11 v0 v12 v13 v2_0 v2_1 v4_0 v4_1 kn kr : Option ρ)
def Z5 N v0 v2_0 v2_1 v4_0 v4_1 kn kr := (Z6 N v0 v2_0 v2_1 v4_0 v4_1 (fun v11 v0 v12 v13 v2_0 v2_1 v4_0 v4_1 => Z7 N v11 v0 v12 v13 v2_0 v2_1 v4_0 v4_1 kn kr) : Option ρ)
def Z10 {ρ : Type} (N : Nat) (v4_2 : LI) (v0 : ByteArray) (v2_0 v2_1 v4_0 v4_1 : Int) (kr : LI → Bool → I2 (Option ρ)) : Option ρ :=
 cond (!(lk N ((impl_MatrixOk.g (v4_0, (v4_1, v4_2))))))
 (
  kr ([] : List Int) false 0 0)
 (
  cond (lk N (!(strEq (impl_FormatMatrix.g (v4_0, (v4_1, v4_2))) v0)))
  (
   kr ([] : List Int) false 0 0)
  (
   kr v4_2 true v4_0 v4_1))
def Z4 N v0 v2_0 v2_1 v4_0 v4_1 kr := (Z5 N v0 v2_0 v2_1 v4_0 v4_1 (fun v4_2 v0 v2_0 v2_1 v4_0 v4_1 => Z10 N v4_2 v0 v2_0 v2_1 v4_0 v4_1 kr) kr : Option ρ)
def Z2 N v0 v2_0 v2_1 kr := (Z3 N v0 v2_0 v2_1 (fun v0 v2_0 v2_1 v4_0 v4_1 => Z4 N v0 v2_0 v2_1 v4_0 v4_1 kr) : Option ρ)
def Z0 N v0 kr := (Z1 N v0 (fun v0 v2_0 v2_1 => Z2 N v0 v2_0 v2_1 kr) : Option ρ)
def Spec : Prop := ∀  (v0 : ByteArray), P v0 = true → ∃ N0, ∀ N, N0 ≤ N → Z0 N v0 (fun v2_2 v3 v2_0 v2_1 => some ((), ((v2_0, (v2_1, v2_2)), (v3, ())))) = some ((), ((g v0).1, ((g v0).2, ())))
theorem loop {ρ : Type} {N : Nat} (k0 : List Int → ByteArray → Int → Int → Int → Int → Option ρ) (kr : List Int → Bool → Int → Int → Option ρ) (s : ByteArray) (t0 t1 : Int) {ps : List ByteArray} (hps : ps.length ≤ 600000) (hsz : ∀ w ∈ ps, w.size ≤ 1048576) : ∀ (M i : Nat) (out : List Int) (c : Int), i ≤ ps.length → out.length ≤ i * 1048577 → ps.length - i < M →
    Z8L N k0 kr M ps out s (ps.length : Int) (i : Int) t0 t1 c (i : Int) = match goI (ps.drop i) out c i with | some q => k0 q.1 s t0 t1 q.2.1 (q.2.2 : Int) | none => kr [] false 0 0 := by
  intro M
  induction M with
  | zero => intro i out c _ _ h; omega
  | succ M ih =>
    intro i out c hi ho hM
    simp only [Z8L, Z9]
    by_cases h : i < ps.length
    · have hmem := hsz _ (getD_mem (l := ps) ByteArray.empty h)
      have hg : impl_ParseInts.g (ps.getD i ByteArray.empty) = parseI (ps.getD i ByteArray.empty) := rfl
      have hlen := parseS_len hmem
      rw [← parse_same] at hlen
      have h9 : i * 1048577 ≤ 600000 * 1048577 := Nat.mul_le_mul_right _ (by omega)
      rw [ct (dt (by omega)), ct (inB_nat h), Int.toNat_natCast, drop_getD (l := ps) ByteArray.empty h, ct (show impl_ParseInts.P (ps.getD i ByteArray.empty) = true from dt hmem), hg, lk_eq, goI]
      generalize ps.getD i ByteArray.empty = p at hmem hlen
      have hw : w64 ((i : Int) + 1) = ((i + 1 : Nat) : Int) := w64_succ (by rw [maxLen_val]; omega)
      cases hok : (parseI p).2
      · rfl
      · rw [if_pos rfl, cf' (show (!true) = false from rfl)]
        by_cases h0 : 0 < i
        · rw [ct (dt (by omega)), if_pos (dt h0)]
          by_cases hc : ((parseI p).1.length : Int) = c
          · rw [cf (by simp [hc]), if_pos hc, ct (show Nat.blt (out.length + (parseI p).1.length) 1099511627776 = true from Nat.ble_eq_true_of_le (by omega)), hw]
            exact ih (i + 1) _ _ h (by rw [List.length_append, Nat.add_mul, Nat.one_mul]; omega) (by omega)
          · rw [ct (by simp [hc]), if_neg hc]
        · rw [cf (df (by omega)), if_neg (by rw [decide_eq_true_eq]; omega), ct (show Nat.blt (out.length + (parseI p).1.length) 1099511627776 = true from Nat.ble_eq_true_of_le (by omega)), hw]
          exact ih (i + 1) _ _ h (by rw [List.length_append, Nat.add_mul, Nat.one_mul]; omega) (by omega)
    · rw [List.drop_of_length_le (by omega), goI, cf (df (by omega))]
theorem ok : Spec := fun s hp => ⟨s.size + 100, fun N hN => by
  have hs : s.size ≤ 1048576 := of_decide_eq_true hp
  have h1 : strings_Split.P s ⟨#[59, 32]⟩ = true := by
    simp only [strings_Split.P, Bool.and_eq_true]
    exact ⟨Nat.ble_eq_true_of_le (by omega), rfl⟩
  obtain ⟨hl, hsz⟩ := split2_sizes s
  have h2 : strings_Split.g s ⟨#[59, 32]⟩ = Lib.splitB ⟨#[59, 32]⟩ 0 (Lib.countB s ⟨#[59, 32]⟩) s := rfl
  simp only [Z0, Z1, Z2, Z3, Z4, Z5, Z6]
  rw [ct h1, h2]
  simp only [Z7, Z8]
  refine (loop _ _ s 0 0 (by omega) (fun w hw => Nat.le_trans (hsz w hw) hs) N 0 [] 0 (Nat.zero_le _) (by simp) (by omega)).trans ?_
  rw [List.drop_zero]
  simp only [g, readI]
  cases hq : goI (Lib.splitB ⟨#[59, 32]⟩ 0 (Lib.countB s ⟨#[59, 32]⟩) s) [] 0 0 with
  | none => rfl
  | some q =>
    have e0 : impl_MatrixOk.g (q.2.1, ((q.2.2 : Int), q.1)) = (shapedK (q.2.1, ((q.2.2 : Int), q.1)) && !decide (facK (q.2.1, ((q.2.2 : Int), q.1)) = [])) := rfl
    have e1 : impl_FormatMatrix.g (q.2.1, ((q.2.2 : Int), q.1)) = if (shapedK (q.2.1, ((q.2.2 : Int), q.1)) && !decide (facK (q.2.1, ((q.2.2 : Int), q.1)) = [])) = true then fmtM (q.2.1, ((q.2.2 : Int), q.1)) else ByteArray.empty := rfl
    simp only [Z10, lk_eq, endPI, e0, e1]
    cases (shapedK (q.2.1, ((q.2.2 : Int), q.1)) && !decide (facK (q.2.1, ((q.2.2 : Int), q.1)) = []))
    · rfl
    · rw [if_pos rfl, if_pos rfl]
      cases strEq (fmtM (q.2.1, ((q.2.2 : Int), q.1))) s <;> rfl⟩
end impl_ParseMatrix
end
end Go.Fw
namespace Go.Fw
noncomputable section
variable {ρ : Type}
namespace laws_eqIntS
def g (a b : List Int) : Bool := decide (a = b)
end laws_eqIntS
namespace laws_eqIntS
def Z1 {ρ : Type} (N : Nat) (v0 v1 : LI) (kn : LI → LI → Option ρ) : Option ρ :=
 kn v0 v1
def Z3 {ρ : Type} (N : Nat) (v0 v1 : LI) (kn : LI → LI → Option ρ) (kr : Bool → Option ρ) : Option ρ :=
 cond (lk N (!(decide ((v0.length : Int) = (v1.length : Int)))))
 (
  kr false)
 (
  kn v0 v1)
def Z6 {ρ : Type} (N : Nat) (v0 v1 : LI) (kn : LI → LI → Int → Option ρ) : Option ρ :=
 kn v0 v1 0
def Z9 {ρ : Type} (N : Nat) (v0 v1 : LI) (v5 : Int) (kn : LI → LI → Int → Option ρ) (k0 : Option ρ) (kr : Bool → Option ρ) : Option ρ :=
 cond (lk N (decide (v5 < (v0.length : Int))))
 (
  cond (lk N (inB v5 v0.length)) (
   cond (lk N (inB v5 v1.length)) (
    cond (lk N (!(decide ((v0.getD v5.toNat 0) = (v1.getD v5.toNat 0)))))
    (
     kr false)
    (
     kn v0 v1 (w64 (v5 + 1)))) none) none)
 (
  k0)
def Z8L {ρ : Type} (N : Nat) (k0 : Option ρ) (kr : Bool → Option ρ) : Nat → LI → LI → Int → Option ρ
  | 0, _, _, _ => none
  | M + 1, v0, v1, v5 => Z9 N v0 v1 v5 (fun v0 v1 v5 => Z8L N k0 kr M v0 v1 v5) k0 kr
def Z8 N v0 v1 v5 k0 kr := (Z8L N k0 kr N v0 v1 v5 : Option ρ)
def Z7 N v0 v1 v5 kn kr := (Z8 N v0 v1 v5 kn kr : Option ρ)
def Z5 N v0 v1 kn kr := (Z6 N v0 v1 (fun v0 v1 v5 => Z7 N v0 v1 v5 kn kr) : Option ρ)
def Z10 {ρ : Type} (N : Nat)  (kr : Bool → Option ρ) : Option ρ :=
 kr true
def Z4 N v0 v1 kr := (Z5 N v0 v1 (Z10 N kr) kr : Option ρ)
def Z2 N v0 v1 kr := (Z3 N v0 v1 (fun v0 v1 => Z4 N v0 v1 kr) kr : Option ρ)
def Z0 N v0 v1 kr := (Z1 N v0 v1 (fun v0 v1 => Z2 N v0 v1 kr) : Option ρ)
def Spec : Prop := ∀  (v0 v1 : LI), Ty.bd (.sl 0 (.int .i64)) v0 → Ty.bd (.sl 0 (.int .i64)) v1 → ∃ N0, ∀ N, N0 ≤ N → Z0 N v0 v1 (fun v4 => some ((), (v4, ()))) = some ((), ((g v0 v1), ()))
theorem loop {ρ : Type} (N : Nat) (k0 : Option ρ) (kr : Bool → Option ρ) (a b : List Int) (hl : a.length = b.length) (ha : a.length ≤ maxLen) : ∀ (M j : Nat), j ≤ a.length → a.length - j < M →
    Z8L N k0 kr M a b (j : Int) = if a.drop j = b.drop j then k0 else kr false := by
  intro M
  induction M with
  | zero => intro j _ h; omega
  | succ M ih =>
    intro j hj hM
    simp only [Z8L, Z9]
    by_cases h : j < a.length
    · rw [ct (dt (by omega)), ct (inB_nat h), ct (inB_nat (by omega)), Int.toNat_natCast, w64_succ (by omega), ih (j + 1) h (by omega), drop_getD 0 h, drop_getD (l := b) (j := j) 0 (by omega)]
      by_cases e : a.getD j 0 = b.getD j 0
      · rw [cf (nf e), e]
        simp only [List.cons.injEq, true_and]
      · rw [ct (nt e), if_neg (by simp only [List.cons.injEq]; exact fun h => e h.1)]
    · rw [cf (df (by omega)), if_pos (by rw [List.drop_of_length_le (by omega), List.drop_of_length_le (by omega)])]
theorem ok : Spec := fun a b ha hb => ⟨a.length + 1, fun N hN => by
  simp only [Z1, Z3, Z6, Z9, Z8, Z7, Z5, Z10, Z4, Z2, Z0]
  by_cases hl : a.length = b.length
  · rw [cf (nf (by omega))]
    rw [show (0 : Int) = ((0 : Nat) : Int) from rfl, loop _ _ _ a b hl ha.1 N 0 (by omega) (by omega)]
    by_cases e : a = b <;> simp [e, g]
  · rw [ct (nt (by omega))]
    have : a ≠ b := fun e => hl (by rw [e])
    simp [g, this]⟩
end laws_eqIntS
end
end Go.Fw
namespace Go.Fw
noncomputable section
variable {ρ : Type}
namespace laws_eqMatrix
def g (a b : Int × Int × List Int) : Bool := decide (a = b)
end laws_eqMatrix
namespace laws_eqMatrix
def Z0 {ρ : Type} (N : Nat) (v0 v1 : MT) (kr : Bool → Option ρ) : Option ρ :=
 cond (lk N (!(decide (v0.1 = v1.1))))
 (
  kr false)
 (
  cond (lk N (!(decide (v0.2.1 = v1.2.1))))
  (
   kr false)
  (
   cond (!(lk N ((laws_eqIntS.g v0.2.2 v1.2.2))))
   (
    kr false)
   (
    kr true)))
def Spec : Prop := ∀  (v0 v1 : MT), Ty.bd (.pair (.int .i64) (.pair (.int .i64) (.sl 0 (.int .i64)))) v0 → Ty.bd (.pair (.int .i64) (.pair (.int .i64) (.sl 0 (.int .i64)))) v1 → ∃ N0, ∀ N, N0 ≤ N → Z0 N v0 v1 (fun v4 => some ((), (v4, ()))) = some ((), ((g v0 v1), ()))
theorem ok : Spec := fun a b ha hb => ⟨0, fun N hN => by
  obtain ⟨a1, a2, a3⟩ := a
  obtain ⟨b1, b2, b3⟩ := b
  simp only [Z0, lk_eq, g, laws_eqIntS.g, Prod.mk.injEq]
  by_cases h1 : a1 = b1 <;> by_cases h2 : a2 = b2 <;> by_cases h3 : a3 = b3 <;> simp [h1, h2, h3]⟩
end laws_eqMatrix
end
end Go.Fw
namespace Go.Fw
noncomputable section
variable {ρ : Type}
namespace laws_FnExactParseMatrix
def g (_ : ByteArray) : Bool := true
end laws_FnExactParseMatrix
namespace laws_FnExactParseMatrix
def Z1 {ρ : Type} (N : Nat) (v0 : ByteArray) (kn : ByteArray → Option ρ) : Option ρ :=
 kn v0
def Z3 {ρ : Type} (N : Nat) (v0 : ByteArray) (kn : ByteArray → Option ρ) (kr : Bool → Option ρ) : Option ρ :=
 cond (lk N (decide (1048576 < (v0.size : Int))))
 (
  kr true)
 (
  kn v0)
def Z5 {ρ : Type} (N : Nat) (v0 : ByteArray) (kn : LI → ByteArray → Bool → I2 (Option ρ)) : Option ρ :=
 cond (lk N (spec_ParseMatrix.P v0)) (
  kn (spec_ParseMatrix.g v0).1.2.2 v0 (lk N ((spec_ParseMatrix.g v0).2)) (spec_ParseMatrix.g v0).1.1 (spec_ParseMatrix.g v0).1.2.1) none
def Z7 {ρ : Type} (N : Nat) (v3_2 : LI) (v0 : ByteArray) (v4 : Bool) (v3_0 v3_1 : Int) (kn : LI → LI → ByteArray → Bool → Bool → I4 (Option ρ)) : Option ρ :=
 cond (lk N (impl_ParseMatrix.P v0)) (
  kn v3_2 (impl_ParseMatrix.g v0).1.2.2 v0 v4 (lk N ((impl_ParseMatrix.g v0).2)) v3_0 v3_1 (impl_ParseMatrix.g v0).1.1 (impl_ParseMatrix.g v0).1.2.1) none
def Z9 {ρ : Type} (N : Nat) (v3_2 v5_2 : LI) (v0 : ByteArray) (v4 v6 : Bool) (v3_0 v3_1 v5_0 v5_1 : Int) (kn : LI → LI → ByteArray → Bool → I4 (Option ρ)) (kr : Bool → Option ρ) : Option ρ :=
 cond (!(lk N ((laws_eqMatrix.g (v5_0, (v5_1, v5_2)) (v3_0, (v3_1, v3_2))))))
 (
  kr false)
 (
  cond (lk N (!((v6 == v4))))
  (
   kr false)
  (
   kn v3_2 v5_2 v0 v4 v3_0 v3_1 v5_0 v5_1))
def Z10 {ρ : Type} (N : Nat) (v3_2 v5_2 : LI) (v0 : ByteArray) (v4 : Bool) (v3_0 v3_1 v5_0 v5_1 : Int) (kr : Bool → Option ρ) : Option ρ :=
 cond (lk N (decide ((laws_heldMatrix.g (v5_0, (v5_1, (laws_markMatrix.g (v5_0, (v5_1, v5_2)) 1).1.2.2)) 1) < 0)))
 (
  kr false)
 (
  cond (lk N (!(decide ((laws_heldMatrix.g (v5_0, (v5_1, (laws_markMatrix.g (v5_0, (v5_1, v5_2)) 1).1.2.2)) 1) = (laws_markMatrix.g (v5_0, (v5_1, v5_2)) 1).2))))
  (
   kr false)
  (
   cond (lk N (impl_ParseMatrix.P v0)) (
    cond (!(lk N ((laws_eqMatrix.g (impl_ParseMatrix.g v0).1 (v3_0, (v3_1, v3_2))))))
    (
     kr false)
    (
     cond (lk N (!(((lk N ((impl_ParseMatrix.g v0).2)) == v4))))
     (
      kr false)
     (
      cond (lk N (decide ((laws_heldMatrix.g (v5_0, (v5_1, (laws_markMatrix.g (v5_0, (v5_1, v5_2)) 1).1.2.2)) 1) < 0)))
      (
       kr false)
      (
       cond (lk N (!(decide ((laws_heldMatrix.g (v5_0, (v5_1, (laws_markMatrix.g (v5_0, (v5_1, v5_2)) 1).1.2.2)) 1) = (laws_markMatrix.g (v5_0, (v5_1, v5_2)) 1).2))))
       (
        kr false)
       (
        kr true))))) none))
def Z8 N v3_2 v5_2 v0 v4 v6 v3_0 v3_1 v5_0 v5_1 kr := (Z9 N v3_2 v5_2 v0 v4 v6 v3_0 v3_1 v5_0 v5_1 (fun v3_2 v5_2 v0 v4 v3_0 v3_1 v5_0 v5_1 => Z10 N v3_2 v5_2 v0 v4 v3_0 v3_1 v5_0 v5_1 kr) kr : Option ρ)
def Z6 N v3_2 v0 v4 v3_0 v3_1 kr := (Z7 N v3_2 v0 v4 v3_0 v3_1 (fun v3_2 v5_2 v0 v4 v6 v3_0 v3_1 v5_0 v5_1 => Z8 N v3_2 v5_2 v0 v4 v6 v3_0 v3_1 v5_0 v5_1 kr) : Option ρ)
def Z4 N v0 kr := (Z5 N v0 (fun v3_2 v0 v4 v3_0 v3_1 => Z6 N v3_2 v0 v4 v3_0 v3_1 kr) : Option ρ)
def Z2 N v0 kr := (Z3 N v0 (fun v0 => Z4 N v0 kr) kr : Option ρ)
def Z0 N v0 kr := (Z1 N v0 (fun v0 => Z2 N v0 kr) : Option ρ)
def Spec : Prop := ∀  (v0 : ByteArray), ∃ N0, ∀ N, N0 ≤ N → Z0 N v0 (fun v2 => some ((), (v2, ()))) = some ((), ((g v0), ()))
theorem ok : Spec := fun s => ⟨0, fun N hN => by
  by_cases h0 : (1048576 : Int) < s.size
  · simp only [Z1, Z3, Z5, Z7, Z9, Z10, Z8, Z6, Z4, Z2, Z0]
    rw [ct (dt h0)]
    rfl
  have hP : spec_ParseMatrix.P s = true := dt (show s.size ≤ 1048576 by omega)
  have hQ : impl_ParseMatrix.P s = true := dt (show s.size ≤ 1048576 by omega)
  have he : impl_ParseMatrix.g s = spec_ParseMatrix.g s := read_same s
  have hs : (spec_ParseMatrix.g s).1.2.2.length < 4611686018427387904 := by
    show (readS s).1.2.2.length < _
    rcases readS_cases s with h | ⟨m, h, h1, _, _⟩
    · rw [h]
      decide
    · rw [h]
      simp only [shapedK, Bool.and_eq_true] at h1
      obtain ⟨n, r, hn, hr, hn1, hn5, hnr, hr8, hl⟩ := dim_nat h1.1
      have : r * n ≤ 8 * 5 := Nat.mul_le_mul hr8 hn5
      show m.2.2.length < _
      omega
  obtain ⟨h1, h2⟩ := mat_mark _ hs
  simp only [Z1, Z3, Z5, Z7, Z9, Z10, Z8, Z6, Z4, Z2, Z0, lk_eq, hP, hQ, he, laws_eqMatrix.g, h1, df h0, df h2, dt (rfl : (spec_ParseMatrix.g s).1 = _), dt (rfl : (laws_markMatrix.g (spec_ParseMatrix.g s).1 1).2 = _), g, decide_true, Bool.not_true, cond_true, cond_false, beq_self_eq_true]⟩
end laws_FnExactParseMatrix
end
end Go.Fw
