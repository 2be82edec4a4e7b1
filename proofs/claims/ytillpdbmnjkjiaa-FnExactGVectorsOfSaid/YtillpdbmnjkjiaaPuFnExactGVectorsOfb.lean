/- The plain part: what the functions compute, in lists and numbers. Nothing is assumed. -/
import Derived.Test.YtillpdbmnjkjiaaFwc
import Derived.Test.YtillpdbmnjkjiaaPuFnExactGVectorsOfa
set_option linter.unusedVariables false
set_option linter.unusedSimpArgs false
set_option maxRecDepth 100000
namespace Go.Fw
noncomputable section
variable {ρ : Type}
namespace impl_PrincipalMatrix
def g (m : Int × Int × List Int) : (Int × Int × List Int) × Bool :=
  if ((shapedK m && !decide (facK m = [])) && (decide (m.2.1 = m.1) && decide (2 * m.1 ≤ 8))) = true then (princK m, true) else ((0, 0, []), false)
end impl_PrincipalMatrix
namespace impl_PrincipalMatrix
def Z1 {ρ : Type} (N : Nat) (v0 : MT) (kn : I2 (LI → I2 (Option ρ))) : Option ρ :=
 kn v0.1 v0.2.1 v0.2.2 0 0
def Z3 {ρ : Type} (N : Nat) (v1_0 v1_1 : Int) (v1_2 : LI) (v2_0 v2_1 : Int) (kn : I2 (LI → I2 (Option ρ))) (kr : LI → Bool → I2 (Option ρ)) : Option ρ :=
 cond (!(lk N ((impl_MatrixOk.g (v1_0, (v1_1, v1_2))))))
 (
  kr ([] : List Int) false 0 0)
 (
  cond (lk N (!(decide (v1_1 = v1_0))))
  (
   kr ([] : List Int) false 0 0)
  (
   cond (lk N (decide (8 < (w64 (2 * v1_0)))))
   (
    kr ([] : List Int) false 0 0)
   (
    kn v1_0 v1_1 v1_2 v2_0 v2_1)))
def Z5 {ρ : Type} (N : Nat) (v1_0 v1_1 : Int) (v1_2 : LI) (v2_0 v2_1 : Int) (kn : LI → I2 (LI → I4 (Option ρ))) : Option ρ :=
 both (
  cond (lk N (slices_Clone_int_int.P v1_2)) (
   both (
    kn (slices_Clone_int_int.g v1_2) v1_0 v1_1 v1_2 v2_0 v2_1 v1_0 (w64 (2 * v1_0)))
   (
    kn (slices_Clone_int_int.g v1_2) v1_0 v1_1 v1_2 v2_0 v2_1 v1_0 (w64 (2 * v1_0)))) none)
 (
  cond (lk N (slices_Clone_int_int.P v1_2)) (
   kn (slices_Clone_int_int.g v1_2) v1_0 v1_1 v1_2 v2_0 v2_1 v1_0 (w64 (2 * v1_0))) none)
def Z8 {ρ : Type} (N : Nat) (v4_2 : LI) (v1_0 v1_1 : Int) (v1_2 : LI) (v2_0 v2_1 v4_0 v4_1 : Int) (kn : LI → I3 (LI → I4 (Option ρ))) : Option ρ :=
 kn v4_2 0 v1_0 v1_1 v1_2 v2_0 v2_1 v4_0 v4_1
def Z12 {ρ : Type} (N : Nat) (v4_2 : LI) (v5 v1_0 v1_1 : Int) (v1_2 : LI) (v2_0 v2_1 v4_0 v4_1 : Int) (kn : LI → I3 (LI → I4 (Option ρ))) (k0 : LI → I4 (Option ρ)) : Option ρ :=
 cond (lk N (decide (v5 < v1_0)))
 (
  kn v4_2 v5 v1_0 v1_1 v1_2 v2_0 v2_1 v4_0 v4_1)
 (
  k0 v4_2 v2_0 v2_1 v4_0 v4_1)
def Z16 {ρ : Type} (N : Nat) (v4_2 : LI) (v5 v1_0 v1_1 : Int) (v1_2 : LI) (v2_0 v2_1 v4_0 v4_1 : Int) (kn : LI → I4 (LI → I4 (Option ρ))) : Option ρ :=
 kn v4_2 v5 0 v1_0 v1_1 v1_2 v2_0 v2_1 v4_0 v4_1
def Z19 {ρ : Type} (N : Nat) (v4_2 : LI) (v5 v6 v1_0 v1_1 : Int) (v1_2 : LI) (v2_0 v2_1 v4_0 v4_1 : Int) (kn : LI → I4 (LI → I4 (Option ρ))) (k2 : LI → I3 (LI → I4 (Option ρ))) : Option ρ :=
 cond (lk N (decide (v6 < v1_0)))
 (
  cond (lk N (decide (v5 = v6)))
  (
   cond (lk N (Nat.blt (v4_2.length + ([1] : List Int).length) 1099511627776)) (
    kn (v4_2 ++ ([1] : List Int)) v5 (w64 (v6 + 1)) v1_0 v1_1 v1_2 v2_0 v2_1 v4_0 v4_1) none)
  (
   cond (lk N (Nat.blt (v4_2.length + ([0] : List Int).length) 1099511627776)) (
    kn (v4_2 ++ ([0] : List Int)) v5 (w64 (v6 + 1)) v1_0 v1_1 v1_2 v2_0 v2_1 v4_0 v4_1) none))
 (
  k2 v4_2 v5 v1_0 v1_1 v1_2 v2_0 v2_1 v4_0 v4_1)
def Z18L {ρ : Type} (N : Nat) (k2 : LI → I3 (LI → I4 (Option ρ))) : Nat → LI → Int → Int → Int → Int → LI → Int → Int → Int → Int → Option ρ
  | 0, _, _, _, _, _, _, _, _, _, _ => none
  | M + 1, v4_2, v5, v6, v1_0, v1_1, v1_2, v2_0, v2_1, v4_0, v4_1 => Z19 N v4_2 v5 v6 v1_0 v1_1 v1_2 v2_0 v2_1 v4_0 v4_1 (fun v4_2 v5 v6 v1_0 v1_1 v1_2 v2_0 v2_1 v4_0 v4_1 => Z18L N k2 M v4_2 v5 v6 v1_0 v1_1 v1_2 v2_0 v2_1 v4_0 v4_1) k2
def Z18 N v4_2 v5 v6 v1_0 v1_1 v1_2 v2_0 v2_1 v4_0 v4_1 k2 := (Z18L N k2 N v4_2 v5 v6 v1_0 v1_1 v1_2 v2_0 v2_1 v4_0 v4_1 : Option ρ)
def Z17 N v4_2 v5 v6 v1_0 v1_1 v1_2 v2_0 v2_1 v4_0 v4_1 kn := (Z18 N v4_2 v5 v6 v1_0 v1_1 v1_2 v2_0 v2_1 v4_0 v4_1 kn : Option ρ)
def Z15 N v4_2 v5 v1_0 v1_1 v1_2 v2_0 v2_1 v4_0 v4_1 kn := (Z16 N v4_2 v5 v1_0 v1_1 v1_2 v2_0 v2_1 v4_0 v4_1 (fun v4_2 v5 v6 v1_0 v1_1 v1_2 v2_0 v2_1 v4_0 v4_1 => Z17 N v4_2 v5 v6 v1_0 v1_1 v1_2 v2_0 v2_1 v4_0 v4_1 kn) : Option ρ)
def Z14 N v4_2 v5 v1_0 v1_1 v1_2 v2_0 v2_1 v4_0 v4_1 kn := (Z15 N v4_2 v5 v1_0 v1_1 v1_2 v2_0 v2_1 v4_0 v4_1 kn : Option ρ)
def Z20 {ρ : Type} (N : Nat) (v4_2 : LI) (v5 v1_0 v1_1 : Int) (v1_2 : LI) (v2_0 v2_1 v4_0 v4_1 : Int) (kn : LI → I3 (LI → I4 (Option ρ))) : Option ρ :=
 kn v4_2 (w64 (v5 + 1)) v1_0 v1_1 v1_2 v2_0 v2_1 v4_0 v4_1
def Z13 N v4_2 v5 v1_0 v1_1 v1_2 v2_0 v2_1 v4_0 v4_1 kn := (Z14 N v4_2 v5 v1_0 v1_1 v1_2 v2_0 v2_1 v4_0 v4_1 (fun v4_2 v5 v1_0 v1_1 v1_2 v2_0 v2_1 v4_0 v4_1 => Z20 N v4_2 v5 v1_0 v1_1 v1_2 v2_0 v2_1 v4_0 v4_1 kn) : Option ρ)
def Z11 N v4_2 v5 v1_0 v1_1 v1_2 v2_0 v2_1 v4_0 v4_1 kn k0 := (Z12 N v4_2 v5 v1_0 v1_1 v1_2 v2_0 v2_1 v4_0 v4_1 (fun v4_2 v5 v1_0 v1_1 v1_2 v2_0 v2_1 v4_0 v4_1 => Z13 N v4_2 v5 v1_0 v1_1 v1_2 v2_0 v2_1 v4_0 v4_1 kn) k0 : Option ρ)
def Z10L {ρ : Type} (N : Nat) (k0 : LI → I4 (Option ρ)) : Nat → LI → Int → Int → Int → LI → Int → Int → Int → Int → Option ρ
  | 0, _, _, _, _, _, _, _, _, _ => none
  | M + 1, v4_2, v5, v1_0, v1_1, v1_2, v2_0, v2_1, v4_0, v4_1 => Z11 N v4_2 v5 v1_0 v1_1 v1_2 v2_0 v2_1 v4_0 v4_1 (fun v4_2 v5 v1_0 v1_1 v1_2 v2_0 v2_1 v4_0 v4_1 => Z10L N k0 M v4_2 v5 v1_0 v1_1 v1_2 v2_0 v2_1 v4_0 v4_1) k0
def Z10 N v4_2 v5 v1_0 v1_1 v1_2 v2_0 v2_1 v4_0 v4_1 k0 := (Z10L N k0 N v4_2 v5 v1_0 v1_1 v1_2 v2_0 v2_1 v4_0 v4_1 : Option ρ)
def Z9 N v4_2 v5 v1_0 v1_1 v1_2 v2_0 v2_1 v4_0 v4_1 kn := (Z10 N v4_2 v5 v1_0 v1_1 v1_2 v2_0 v2_1 v4_0 v4_1 kn : Option ρ)
def Z7 N v4_2 v1_0 v1_1 v1_2 v2_0 v2_1 v4_0 v4_1 kn := (Z8 N v4_2 v1_0 v1_1 v1_2 v2_0 v2_1 v4_0 v4_1 (fun v4_2 v5 v1_0 v1_1 v1_2 v2_0 v2_1 v4_0 v4_1 => Z9 N v4_2 v5 v1_0 v1_1 v1_2 v2_0 v2_1 v4_0 v4_1 kn) : Option ρ)
def Z21 {ρ : Type} (N : Nat) (v4_2 : LI) (v2_0 v2_1 v4_0 v4_1 : Int) (kr : LI → Bool → I2 (Option ρ)) : Option ρ :=
 kr v4_2 true v4_0 v4_1
def Z6 N v4_2 v1_0 v1_1 v1_2 v2_0 v2_1 v4_0 v4_1 kr := (Z7 N v4_2 v1_0 v1_1 v1_2 v2_0 v2_1 v4_0 v4_1 (fun v4_2 v2_0 v2_1 v4_0 v4_1 => Z21 N v4_2 v2_0 v2_1 v4_0 v4_1 kr) : Option ρ)
def Z4 N v1_0 v1_1 v1_2 v2_0 v2_1 kr := (Z5 N v1_0 v1_1 v1_2 v2_0 v2_1 (fun v4_2 v1_0 v1_1 v1_2 v2_0 v2_1 v4_0 v4_1 => Z6 N v4_2 v1_0 v1_1 v1_2 v2_0 v2_1 v4_0 v4_1 kr) : Option ρ)
def Z2 N v1_0 v1_1 v1_2 v2_0 v2_1 kr := (Z3 N v1_0 v1_1 v1_2 v2_0 v2_1 (fun v1_0 v1_1 v1_2 v2_0 v2_1 => Z4 N v1_0 v1_1 v1_2 v2_0 v2_1 kr) kr : Option ρ)
def Z0 N v0 kr := (Z1 N v0 (fun v1_0 v1_1 v1_2 v2_0 v2_1 => Z2 N v1_0 v1_1 v1_2 v2_0 v2_1 kr) : Option ρ)
def Spec : Prop := ∀  (v0 : MT), Ty.bd (.pair (.int .i64) (.pair (.int .i64) (.sl 0 (.int .i64)))) v0 → ∃ N0, ∀ N, N0 ≤ N → Z0 N v0 (fun v2_2 v3 v2_0 v2_1 => some ((), ((v2_0, (v2_1, v2_2)), (v3, ())))) = some ((), ((g v0).1, ((g v0).2, ())))
theorem inner {ρ : Type} {N : Nat} {m : Int × Int × List Int} (hd : dimK m = true) (k2 : List Int → Int → Int → Int → List Int → Int → Int → Int → Int → Option ρ) (t0 t1 o0 o1 : Int) (base : List Int) (hb : base.length ≤ 65) {i : Nat} (hi : i < m.1.toNat) : ∀ (M j : Nat), j ≤ m.1.toNat → m.1.toNat - j < M →
    Z18L N k2 M (base ++ (rowU m.1.toNat i).take j) (i : Int) (j : Int) m.1 m.2.1 m.2.2 t0 t1 o0 o1 = k2 (base ++ rowU m.1.toNat i) (i : Int) m.1 m.2.1 m.2.2 t0 t1 o0 o1 := by
  obtain ⟨n, r, hn, hr, hn1, hn5, hnr, hr8, hl⟩ := dim_nat hd
  intro M
  induction M with
  | zero => intro j _ h; omega
  | succ M ih =>
    intro j hj hM
    simp only [Z18L, Z19]
    by_cases h : j < m.1.toNat
    · have hlen : ∀ x : Int, Nat.blt ((base ++ (rowU m.1.toNat i).take j).length + ([x]).length) 1099511627776 = true := fun x => by
        rw [Nat.blt_eq, List.length_append, List.length_take, rowU_len, List.length_singleton]; omega
      have ht := take_getD (l := rowU m.1.toNat i) (j := j) (0 : Int) (by rw [rowU_len]; exact h)
      rw [rowU_getD h] at ht
      have := ih (j + 1) h (by omega)
      rw [← ht, ← List.append_assoc] at this
      rw [ct (dt (by omega))]
      by_cases e : i = j
      · rw [if_pos e] at this
        rw [ct (dt (by omega)), ct (hlen _), w64_succ (by rw [maxLen_val]; omega)]
        exact this
      · rw [if_neg e] at this
        rw [cf (df (by omega)), ct (hlen _), w64_succ (by rw [maxLen_val]; omega)]
        exact this
    · rw [cf (df (by omega)), List.take_of_length_le (by rw [rowU_len]; omega)]
theorem loop {ρ : Type} {N : Nat} (hN : 10 ≤ N) {m : Int × Int × List Int} (hd : dimK m = true) (k0 : List Int → Int → Int → Int → Int → Option ρ) (t0 t1 o0 o1 : Int) : ∀ (M i : Nat), i ≤ m.1.toNat → m.1.toNat - i < M →
    Z10L N k0 M (m.2.2 ++ rowsU m.1.toNat i) (i : Int) m.1 m.2.1 m.2.2 t0 t1 o0 o1 = k0 (m.2.2 ++ rowsU m.1.toNat m.1.toNat) t0 t1 o0 o1 := by
  obtain ⟨n, r, hn, hr, hn1, hn5, hnr, hr8, hl⟩ := dim_nat hd
  intro M
  induction M with
  | zero => intro i _ h; omega
  | succ M ih =>
    intro i hi hM
    simp only [Z10L, Z11, Z12]
    by_cases h : i < m.1.toNat
    · rw [ct (dt (by omega))]
      simp only [Z13, Z14, Z15, Z16, Z17, Z18]
      have hin := inner (ρ := ρ) (N := N) hd (fun out4_2 i5 m1_0 m1_1 m1_2 t2_0 t2_1 out4_0 out4_1 => Z20 N out4_2 i5 m1_0 m1_1 m1_2 t2_0 t2_1 out4_0 out4_1 (fun out4_2 i5 m1_0 m1_1 m1_2 t2_0 t2_1 out4_0 out4_1 => Z10L N k0 M out4_2 i5 m1_0 m1_1 m1_2 t2_0 t2_1 out4_0 out4_1)) t0 t1 o0 o1 (m.2.2 ++ rowsU m.1.toNat i) (princ_len hd i (by omega)) h N 0 (by omega) (by omega)
      rw [List.take_zero, List.append_nil, show ((0 : Nat) : Int) = 0 from rfl] at hin
      rw [hin]
      simp only [Z20]
      rw [w64_succ (by rw [maxLen_val]; omega), List.append_assoc]
      exact ih (i + 1) h (by omega)
    · rw [cf (df (by omega)), show i = m.1.toNat by omega]
theorem ok : Spec := fun m hb => ⟨10, fun N hN => by
  have e0 : impl_MatrixOk.g (m.1, (m.2.1, m.2.2)) = (shapedK m && !decide (facK m = [])) := rfl
  simp only [Z0, Z1, Z2, Z3, e0, g, lk_eq]
  cases h1 : (shapedK m && !decide (facK m = []))
  · rfl
  have hs : shapedK m = true := by
    simp only [Bool.and_eq_true] at h1
    exact h1.1
  have hd := shaped_dim hs
  obtain ⟨n, r, hn, hr, hn1, hn5, hnr, hr8, hl⟩ := dim_nat hd
  have hlen := dim_len hd
  rw [w64_id (by omega) (by omega)]
  by_cases h2 : m.2.1 = m.1
  · rw [dt h2]
    by_cases h3 : 2 * m.1 ≤ 8
    · rw [dt h3, df (show ¬ 8 < 2 * m.1 by omega)]
      simp only [Z4, Z5]
      rw [ct (show slices_Clone_int_int.P m.2.2 = true from dt (by omega)), ct (show slices_Clone_int_int.P m.2.2 = true from dt (by omega)), both_self, both_self]
      simp only [Z6, Z7, Z8, Z9, Z10]
      have := loop (ρ := Unit × (Int × Int × List Int) × Bool × Unit) hN hd (fun out4_2 t2_0 t2_1 out4_0 out4_1 => Z21 N out4_2 t2_0 t2_1 out4_0 out4_1 (fun t2_2 t3 t2_0 t2_1 => some ((), ((t2_0, (t2_1, t2_2)), (t3, ()))))) 0 0 m.1 (w64 (2 * m.1)) N 0 (by omega) (by omega)
      rw [rowsU, List.append_nil] at this
      refine this.trans ?_
      simp only [Z21]
      rw [w64_id (by omega) (by omega)]
      rfl
    · rw [df h3, dt (show 8 < 2 * m.1 by omega)]; rfl
  · rw [df h2]; rfl⟩
end impl_PrincipalMatrix
end
end Go.Fw
namespace Go.Fw
noncomputable section
variable {ρ : Type}
namespace impl_walk
def g (m : Int × Int × List Int) (ks : List Int) : List (Int × Int × List Int) × Bool :=
  if ((impl_PrincipalMatrix.g m).2 && decide ((ks.length : Int) ≤ 40)) = true then walkK impl_MutateMatrix.g (impl_PrincipalMatrix.g m).1 ks else ([], false)
end impl_walk
namespace impl_walk
def Z1 {ρ : Type} (N : Nat) (v0 : MT) (v1 : LI) (kn : LI → I2 (LI → Option ρ)) : Option ρ :=
 kn v1 v0.1 v0.2.1 v0.2.2
def Z3 {ρ : Type} (N : Nat) (v1 : LI) (v2_0 v2_1 : Int) (v2_2 : LI) (kn : LI → LI → Bool → I2 (Option ρ)) : Option ρ :=
 kn (impl_PrincipalMatrix.g (v2_0, (v2_1, v2_2))).1.2.2 v1 (lk N ((impl_PrincipalMatrix.g (v2_0, (v2_1, v2_2))).2)) (impl_PrincipalMatrix.g (v2_0, (v2_1, v2_2))).1.1 (impl_PrincipalMatrix.g (v2_0, (v2_1, v2_2))).1.2.1
def Z5 {ρ : Type} (N : Nat) (v6_2 v1 : LI) (v7 : Bool) (v6_0 v6_1 : Int) (kn : LI → LI → I2 (Option ρ)) (kr : LM → Bool → Option ρ) : Option ρ :=
 cond (!(v7))
 (
  kr ([] : List (MT)) false)
 (
  cond (lk N (decide (40 < (v1.length : Int))))
  (
   kr ([] : List (MT)) false)
  (
   kn v6_2 v1 v6_0 v6_1))
def Z7 {ρ : Type} (N : Nat) (v6_2 v1 : LI) (v6_0 v6_1 : Int) (kn : LM → LI → I2 (LI → Option ρ)) : Option ρ :=
 kn ([(v6_0, (v6_1, v6_2))] : List (MT)) v1 v6_0 v6_1 v6_2
def Z10 {ρ : Type} (N : Nat) (v8 : LM) (v1 : LI) (v6_0 v6_1 : Int) (v6_2 : LI) (kn : LM → LI → I4 (LI → Option ρ)) : Option ρ :=
 kn v8 v1 (v1.length : Int) 0 v6_0 v6_1 v6_2
def Z13 {ρ : Type} (N : Nat) (v8 : LM) (v25 : LI) (v26 v27 v6_0 v6_1 : Int) (v6_2 : LI) (kn : LM → LI → I4 (LI → Option ρ)) (k0 : LM → Option ρ) (kr : LM → Bool → Option ρ) : Option ρ :=
 cond (lk N (decide (v27 < v26)))
 (
  cond (lk N (inB v27 v25.length)) (
   cond (!(lk N ((impl_MutateMatrix.g (v6_0, (v6_1, v6_2)) (v25.getD v27.toNat 0)).2)))
   (
    kr ([] : List (MT)) false)
   (
    cond (lk N (Nat.blt (v8.length + ([(impl_MutateMatrix.g (v6_0, (v6_1, v6_2)) (v25.getD v27.toNat 0)).1] : List (MT)).length) 1099511627776)) (
     kn (v8 ++ ([(impl_MutateMatrix.g (v6_0, (v6_1, v6_2)) (v25.getD v27.toNat 0)).1] : List (MT))) v25 v26 (w64 (v27 + 1)) (impl_MutateMatrix.g (v6_0, (v6_1, v6_2)) (v25.getD v27.toNat 0)).1.1 (impl_MutateMatrix.g (v6_0, (v6_1, v6_2)) (v25.getD v27.toNat 0)).1.2.1 (impl_MutateMatrix.g (v6_0, (v6_1, v6_2)) (v25.getD v27.toNat 0)).1.2.2) none)) none)
 (
  k0 v8)
def Z12L {ρ : Type} (N : Nat) (k0 : LM → Option ρ) (kr : LM → Bool → Option ρ) : Nat → LM → LI → Int → Int → Int → Int → LI → Option ρ
  | 0, _, _, _, _, _, _, _ => none
  | M + 1, v8, v25, v26, v27, v6_0, v6_1, v6_2 => Z13 N v8 v25 v26 v27 v6_0 v6_1 v6_2 (fun v8 v25 v26 v27 v6_0 v6_1 v6_2 => Z12L N k0 kr M v8 v25 v26 v27 v6_0 v6_1 v6_2) k0 kr
def Z12 N v8 v25 v26 v27 v6_0 v6_1 v6_2 k0 kr := (Z12L N k0 kr N v8 v25 v26 v27 v6_0 v6_1 v6_2 : Option ρ)
def Z11 N v8 v25 v26 v27 v6_0 v6_1 v6_2 kn kr := (Z12 N v8 v25 v26 v27 v6_0 v6_1 v6_2 kn kr : Option ρ)
def Z9 N v8 v1 v6_0 v6_1 v6_2 kn kr := (Z10 N v8 v1 v6_0 v6_1 v6_2 (fun v8 v25 v26 v27 v6_0 v6_1 v6_2 => Z11 N v8 v25 v26 v27 v6_0 v6_1 v6_2 kn kr) : Option ρ)
def Z14 {ρ : Type} (N : Nat) (v8 : LM) (kr : LM → Bool → Option ρ) : Option ρ :=
 kr v8 true
def Z8 N v8 v1 v6_0 v6_1 v6_2 kr := (Z9 N v8 v1 v6_0 v6_1 v6_2 (fun v8 => Z14 N v8 kr) kr : Option ρ)
def Z6 N v6_2 v1 v6_0 v6_1 kr := (Z7 N v6_2 v1 v6_0 v6_1 (fun v8 v1 v6_0 v6_1 v6_2 => Z8 N v8 v1 v6_0 v6_1 v6_2 kr) : Option ρ)
def Z4 N v6_2 v1 v7 v6_0 v6_1 kr := (Z5 N v6_2 v1 v7 v6_0 v6_1 (fun v6_2 v1 v6_0 v6_1 => Z6 N v6_2 v1 v6_0 v6_1 kr) kr : Option ρ)
def Z2 N v1 v2_0 v2_1 v2_2 kr := (Z3 N v1 v2_0 v2_1 v2_2 (fun v6_2 v1 v7 v6_0 v6_1 => Z4 N v6_2 v1 v7 v6_0 v6_1 kr) : Option ρ)
def Z0 N v0 v1 kr := (Z1 N v0 v1 (fun v1 v2_0 v2_1 v2_2 => Z2 N v1 v2_0 v2_1 v2_2 kr) : Option ρ)
def Spec : Prop := ∀  (v0 : MT) (v1 : LI), Ty.bd (.pair (.int .i64) (.pair (.int .i64) (.sl 0 (.int .i64)))) v0 → Ty.bd (.sl 0 (.int .i64)) v1 → ∃ N0, ∀ N, N0 ≤ N → Z0 N v0 v1 (fun v4 v5 => some ((), (v4, (v5, ())))) = some ((), ((g v0 v1).1, ((g v0 v1).2, ())))
theorem loop {ρ : Type} (N : Nat) (kr : List (Int × Int × List Int) → Bool → Option ρ) (ks : List Int) (hk : ks.length ≤ 40) : ∀ (M j : Nat) (pre : List (Int × Int × List Int)) (p : Int × Int × List Int), pre.length = j → j ≤ ks.length → ks.length - j < M →
    Z12L N (fun a => Z14 N a kr) kr M (pre ++ [p]) ks (ks.length : Int) (j : Int) p.1 p.2.1 p.2.2 = if (walkK impl_MutateMatrix.g p (ks.drop j)).2 = true then kr (pre ++ (walkK impl_MutateMatrix.g p (ks.drop j)).1) true else kr [] false := by
  intro M
  induction M with
  | zero => intro j _ _ _ _ h; omega
  | succ M ih =>
    intro j pre p hp hj hM
    simp only [Z12L, Z13]
    by_cases h : j < ks.length
    · have hv : impl_MutateMatrix.g (p.1, (p.2.1, p.2.2)) (ks.getD j 0) = impl_MutateMatrix.g p (ks.getD j 0) := rfl
      rw [ct (dt (by omega)), ct (inB_nat h)]
      simp only [Int.toNat_natCast, hv]
      rw [drop_getD 0 h, walkK, w64_succ (by rw [maxLen_val]; omega)]
      cases hb : (impl_MutateMatrix.g p (ks.getD j 0)).2
      · rw [ct' (by rw [lk_eq]; rfl), if_neg (by simp)]
      · rw [cf' (by rw [lk_eq]; rfl), if_pos rfl, ct (by rw [Nat.blt_eq]; simp; omega)]
        rw [ih (j + 1) (pre ++ [p]) _ (by simp; omega) h (by omega)]
        cases hc : (walkK impl_MutateMatrix.g (impl_MutateMatrix.g p (ks.getD j 0)).1 (ks.drop (j + 1))).2
        · simp
        · simp
    · rw [cf (df (by omega)), List.drop_of_length_le (by omega), walkK, if_pos rfl]; rfl
theorem ok : Spec := fun m ks hb hv => ⟨ks.length + 10, fun N hN => by
  have e0 : impl_PrincipalMatrix.g (m.1, (m.2.1, m.2.2)) = impl_PrincipalMatrix.g m := rfl
  simp only [Z0, Z1, Z2, Z3, e0, g, lk_eq, Z4, Z5]
  cases h1 : (impl_PrincipalMatrix.g m).2
  · rfl
  by_cases h2 : (ks.length : Int) ≤ 40
  · rw [df (show ¬ (40 : Int) < ks.length by omega), dt h2]
    simp only [Bool.not_true, cond_false, Z6, Z7, Z8, Z9, Z10, Z11, Z12]
    have := loop (ρ := Unit × List (Int × Int × List Int) × Bool × Unit) N (fun t4 t5 => some ((), (t4, (t5, ())))) ks (by omega) N 0 [] (impl_PrincipalMatrix.g m).1 rfl (by omega) (by omega)
    rw [show ((0 : Nat) : Int) = 0 from rfl, List.drop_zero] at this
    refine this.trans ?_
    simp only [Bool.and_true, if_true, List.nil_append]
    generalize impl_MutateMatrix.g = f
    cases hw : walkK f (impl_PrincipalMatrix.g m).1 ks with
    | mk a b =>
      cases b
      · have : a = [] := by
          cases ks with
          | nil => rw [walkK] at hw; cases hw
          | cons k ks =>
            rw [walkK] at hw
            split at hw
            · split at hw
              · cases hw
              · cases hw; rfl
            · cases hw; rfl
        subst this
        rfl
      · rfl
  · rw [dt (show (40 : Int) < ks.length by omega), df h2]; rfl⟩
theorem dim_f {m : Int × Int × List Int} {k : Int} (h : (impl_MutateMatrix.g m k).2 = true) : dimK (impl_MutateMatrix.g m k).1 = true ∧ (impl_MutateMatrix.g m k).1.1 = m.1 := by
  unfold impl_MutateMatrix.g at h ⊢
  split
  · rename_i hc
    simp only [Bool.and_eq_true] at hc
    exact ⟨dim_mut (shaped_dim hc.1.1) _, rfl⟩
  · rename_i hc
    rw [if_neg hc] at h; cases h
theorem last {m : Int × Int × List Int} {ks : List Int} (h : (g m ks).2 = true) : (g m ks).1.length = ks.length + 1 ∧ dimK ((g m ks).1.getD ks.length (0, (0, []))) = true ∧ ((g m ks).1.getD ks.length (0, (0, []))).1 = m.1 ∧ ks.length ≤ 40 ∧ dimK m = true := by
  unfold g at h ⊢
  split
  · rename_i hc
    rw [if_pos hc] at h
    rw [Bool.and_eq_true, decide_eq_true_eq] at hc
    obtain ⟨hc, hk⟩ := hc
    unfold impl_PrincipalMatrix.g at hc h ⊢
    split
    · rename_i hq
      rw [if_pos hq] at h
      simp only [Bool.and_eq_true, decide_eq_true_eq] at hq
      have hd := shaped_dim hq.1.1
      obtain ⟨h1, h2, h3⟩ := walk_last (fun m k h => dim_f h) ks (princK m) (dim_princ hd hq.2.1 hq.2.2) h
      exact ⟨h1, h2, h3, by omega, hd⟩
    · rename_i hq
      rw [if_neg hq] at hc; cases hc
  · rename_i hc
    rw [if_neg hc] at h; cases h
end impl_walk
end
end Go.Fw
namespace Go.Fw
noncomputable section
variable {ρ : Type}
namespace spec_l4Square
def g (m : Int × Int × List Int) : Bool := (sizesK m && !decide (facK m = [])) && (decide (m.2.1 = m.1) && decide (2 * m.1 ≤ 8))
end spec_l4Square
namespace spec_l4Square
def Z0 {ρ : Type} (N : Nat) (v0 : MT) (kr : Bool → Option ρ) : Option ρ :=
 cond (lk N ((spec_MatrixOk.g v0)))
 (
  cond (lk N (decide (v0.2.1 = v0.1)))
  (
   kr (lk N (decide ((w64 (2 * v0.1)) ≤ 8))))
  (
   kr false))
 (
  kr false)
def Spec : Prop := ∀  (v0 : MT), Ty.bd (.pair (.int .i64) (.pair (.int .i64) (.sl 0 (.int .i64)))) v0 → ∃ N0, ∀ N, N0 ≤ N → Z0 N v0 (fun v2 => some ((), (v2, ()))) = some ((), ((g v0), ()))
theorem ok : Spec := fun m hb => ⟨0, fun N hN => by
  simp only [Z0, lk_eq, g, spec_MatrixOk.g]
  cases h1 : (sizesK m && !decide (facK m = []))
  · rfl
  have hs : sizesK m = true := by
    simp only [Bool.and_eq_true] at h1
    exact h1.1
  obtain ⟨n, r, hn, hr, hn1, hn5, hnr, hr8, hl⟩ := dim_nat (shaped_dim (sizes_shaped hs))
  rw [w64_id (by omega) (by omega)]
  cases decide (m.2.1 = m.1) <;> rfl⟩
end spec_l4Square
end
end Go.Fw
namespace Go.Fw
noncomputable section
variable {ρ : Type}
namespace spec_l1Principal
def P (m : Int × Int × List Int) : Bool := dimK m
def g (m : Int × Int × List Int) : Int × Int × List Int := princK m
end spec_l1Principal
namespace spec_l1Principal
def Z1 {ρ : Type} (N : Nat) (v0 : MT) (kn : I2 (LI → I2 (Option ρ))) : Option ρ :=
 kn v0.1 v0.2.1 v0.2.2 0 0
def Z3 {ρ : Type} (N : Nat) (v1_0 v1_1 : Int) (v1_2 : LI) (v2_0 v2_1 : Int) (kn : LI → I2 (LI → I4 (Option ρ))) : Option ρ :=
 cond (lk N (spec_l1CopyMatrix.P (v1_0, (v1_1, v1_2)))) (
  kn (spec_l1CopyMatrix.g (v1_0, (v1_1, v1_2))).2.2 v1_0 v1_1 v1_2 v2_0 v2_1 (spec_l1CopyMatrix.g (v1_0, (v1_1, v1_2))).1 (spec_l1CopyMatrix.g (v1_0, (v1_1, v1_2))).2.1) none
def Z5 {ρ : Type} (N : Nat) (v3_2 : LI) (v1_0 v1_1 : Int) (v1_2 : LI) (v2_0 v2_1 v3_0 v3_1 : Int) (kn : LI → I2 (LI → I4 (Option ρ))) : Option ρ :=
 kn v3_2 v1_0 v1_1 v1_2 v2_0 v2_1 v3_0 (w64 (2 * v1_0))
def Z8 {ρ : Type} (N : Nat) (v3_2 : LI) (v1_0 v1_1 : Int) (v1_2 : LI) (v2_0 v2_1 v3_0 v3_1 : Int) (kn : LI → I3 (LI → I4 (Option ρ))) : Option ρ :=
 kn v3_2 0 v1_0 v1_1 v1_2 v2_0 v2_1 v3_0 v3_1
def Z11 {ρ : Type} (N : Nat) (v3_2 : LI) (v4 v1_0 v1_1 : Int) (v1_2 : LI) (v2_0 v2_1 v3_0 v3_1 : Int) (kn : LI → I3 (LI → I4 (Option ρ))) (k0 : LI → I4 (Option ρ)) : Option ρ :=
 cond (lk N (decide (v4 < v1_0)))
 (
  cond (lk N (leB 0 v1_0 && decide (v1_0 < 1099511627776))) (
   cond (lk N (inB v4 (List.replicate v1_0.toNat (0 : Int)).length)) (
    cond (lk N (Nat.blt (v3_2.length + ((List.replicate v1_0.toNat (0 : Int)).set v4.toNat 1).length) 1099511627776)) (
     kn (v3_2 ++ ((List.replicate v1_0.toNat (0 : Int)).set v4.toNat 1)) (w64 (v4 + 1)) v1_0 v1_1 v1_2 v2_0 v2_1 v3_0 v3_1) none) none) none)
 (
  k0 v3_2 v2_0 v2_1 v3_0 v3_1)
def Z10L {ρ : Type} (N : Nat) (k0 : LI → I4 (Option ρ)) : Nat → LI → Int → Int → Int → LI → Int → Int → Int → Int → Option ρ
  | 0, _, _, _, _, _, _, _, _, _ => none
  | M + 1, v3_2, v4, v1_0, v1_1, v1_2, v2_0, v2_1, v3_0, v3_1 => Z11 N v3_2 v4 v1_0 v1_1 v1_2 v2_0 v2_1 v3_0 v3_1 (fun v3_2 v4 v1_0 v1_1 v1_2 v2_0 v2_1 v3_0 v3_1 => Z10L N k0 M v3_2 v4 v1_0 v1_1 v1_2 v2_0 v2_1 v3_0 v3_1) k0
def Z10 N v3_2 v4 v1_0 v1_1 v1_2 v2_0 v2_1 v3_0 v3_1 k0 := (Z10L N k0 N v3_2 v4 v1_0 v1_1 v1_2 v2_0 v2_1 v3_0 v3_1 : Option ρ)
def Z9 N v3_2 v4 v1_0 v1_1 v1_2 v2_0 v2_1 v3_0 v3_1 kn := (Z10 N v3_2 v4 v1_0 v1_1 v1_2 v2_0 v2_1 v3_0 v3_1 kn : Option ρ)
def Z7 N v3_2 v1_0 v1_1 v1_2 v2_0 v2_1 v3_0 v3_1 kn := (Z8 N v3_2 v1_0 v1_1 v1_2 v2_0 v2_1 v3_0 v3_1 (fun v3_2 v4 v1_0 v1_1 v1_2 v2_0 v2_1 v3_0 v3_1 => Z9 N v3_2 v4 v1_0 v1_1 v1_2 v2_0 v2_1 v3_0 v3_1 kn) : Option ρ)
def Z12 {ρ : Type} (N : Nat) (v3_2 : LI) (v2_0 v2_1 v3_0 v3_1 : Int) (kr : LI → I2 (Option ρ)) : Option ρ :=
 kr v3_2 v3_0 v3_1
def Z6 N v3_2 v1_0 v1_1 v1_2 v2_0 v2_1 v3_0 v3_1 kr := (Z7 N v3_2 v1_0 v1_1 v1_2 v2_0 v2_1 v3_0 v3_1 (fun v3_2 v2_0 v2_1 v3_0 v3_1 => Z12 N v3_2 v2_0 v2_1 v3_0 v3_1 kr) : Option ρ)
def Z4 N v3_2 v1_0 v1_1 v1_2 v2_0 v2_1 v3_0 v3_1 kr := (Z5 N v3_2 v1_0 v1_1 v1_2 v2_0 v2_1 v3_0 v3_1 (fun v3_2 v1_0 v1_1 v1_2 v2_0 v2_1 v3_0 v3_1 => Z6 N v3_2 v1_0 v1_1 v1_2 v2_0 v2_1 v3_0 v3_1 kr) : Option ρ)
def Z2 N v1_0 v1_1 v1_2 v2_0 v2_1 kr := (Z3 N v1_0 v1_1 v1_2 v2_0 v2_1 (fun v3_2 v1_0 v1_1 v1_2 v2_0 v2_1 v3_0 v3_1 => Z4 N v3_2 v1_0 v1_1 v1_2 v2_0 v2_1 v3_0 v3_1 kr) : Option ρ)
def Z0 N v0 kr := (Z1 N v0 (fun v1_0 v1_1 v1_2 v2_0 v2_1 => Z2 N v1_0 v1_1 v1_2 v2_0 v2_1 kr) : Option ρ)
def Spec : Prop := ∀  (v0 : MT), Ty.bd (.pair (.int .i64) (.pair (.int .i64) (.sl 0 (.int .i64)))) v0 → P v0 = true → ∃ N0, ∀ N, N0 ≤ N → Z0 N v0 (fun v2_2 v2_0 v2_1 => some ((), ((v2_0, (v2_1, v2_2)), ()))) = some ((), ((g v0), ()))
theorem loop {ρ : Type} {N : Nat} {m : Int × Int × List Int} (hd : dimK m = true) (k0 : List Int → Int → Int → Int → Int → Option ρ) (t0 t1 o0 o1 : Int) : ∀ (M i : Nat), i ≤ m.1.toNat → m.1.toNat - i < M →
    Z10L N k0 M (m.2.2 ++ rowsU m.1.toNat i) (i : Int) m.1 m.2.1 m.2.2 t0 t1 o0 o1 = k0 (m.2.2 ++ rowsU m.1.toNat m.1.toNat) t0 t1 o0 o1 := by
  obtain ⟨n, r, hn, hr, hn1, hn5, hnr, hr8, hl⟩ := dim_nat hd
  intro M
  induction M with
  | zero => intro i _ h; omega
  | succ M ih =>
    intro i hi hM
    simp only [Z10L, Z11]
    by_cases h : i < m.1.toNat
    · have hlen := princ_len hd i (by omega)
      rw [ct (dt (by omega)), ct (by rw [leB_t (by omega), dt (by omega)]; rfl), ct (inB_nat (by rw [List.length_replicate]; exact h))]
      rw [Int.toNat_natCast, set_row h]
      rw [ct (by rw [Nat.blt_eq, rowU_len]; omega), List.append_assoc, w64_succ (by rw [maxLen_val]; omega)]
      exact ih (i + 1) h (by omega)
    · rw [cf (df (by omega)), show i = m.1.toNat by omega]
theorem ok : Spec := fun m hb hp => ⟨10, fun N hN => by
  have hd : dimK m = true := hp
  obtain ⟨n, r, hn, hr, hn1, hn5, hnr, hr8, hl⟩ := dim_nat hd
  have hlen := dim_len hd
  simp only [Z0, Z1, Z2, Z3]
  rw [ct (show spec_l1CopyMatrix.P (m.1, (m.2.1, m.2.2)) = true from dt (show m.2.2.length < 1099511627776 by omega))]
  simp only [Z4, Z5, Z6, Z7, Z8, Z9, Z10]
  have := loop (ρ := Unit × (Int × Int × List Int) × Unit) (N := N) hd (fun out3_2 t2_0 t2_1 out3_0 out3_1 => Z12 N out3_2 t2_0 t2_1 out3_0 out3_1 (fun t2_2 t2_0 t2_1 => some ((), ((t2_0, (t2_1, t2_2)), ())))) 0 0 m.1 (w64 (2 * m.1)) N 0 (by omega) (by omega)
  rw [rowsU, List.append_nil] at this
  refine this.trans ?_
  simp only [Z12, g, princK]
  rw [w64_id (by omega) (by omega)]⟩
end spec_l1Principal
end
end Go.Fw
namespace Go.Fw
noncomputable section
variable {ρ : Type}
namespace spec_l4Along
def g (m : Int × Int × List Int) (ks : List Int) : List (Int × Int × List Int) × Bool :=
  if (((sizesK m && !decide (facK m = [])) && (decide (m.2.1 = m.1) && decide (2 * m.1 ≤ 8))) && decide ((ks.length : Int) ≤ 40)) = true then walkK mutG (princK m) ks else ([], false)
end spec_l4Along
namespace spec_l4Along
def Z1 {ρ : Type} (N : Nat) (v0 : MT) (v1 : LI) (kn : LI → I2 (LI → Option ρ)) : Option ρ :=
 kn v1 v0.1 v0.2.1 v0.2.2
def Z3 {ρ : Type} (N : Nat) (v1 : LI) (v2_0 v2_1 : Int) (v2_2 : LI) (kn : LI → I2 (LI → Option ρ)) (kr : LM → Bool → Option ρ) : Option ρ :=
 cond (!(lk N ((spec_l4Square.g (v2_0, (v2_1, v2_2))))))
 (
  kr ([] : List (MT)) false)
 (
  cond (lk N (decide (40 < (v1.length : Int))))
  (
   kr ([] : List (MT)) false)
  (
   kn v1 v2_0 v2_1 v2_2))
def Z5 {ρ : Type} (N : Nat) (v1 : LI) (v2_0 v2_1 : Int) (v2_2 : LI) (kn : LM → LI → Option ρ) : Option ρ :=
 cond (lk N (spec_l1Principal.P (v2_0, (v2_1, v2_2)))) (
  kn ([(spec_l1Principal.g (v2_0, (v2_1, v2_2)))] : List (MT)) v1) none
def Z8 {ρ : Type} (N : Nat) (v6 : LM) (v1 : LI) (kn : LM → LI → Int → Option ρ) : Option ρ :=
 kn v6 v1 0
def Z11 {ρ : Type} (N : Nat) (v6 : LM) (v1 : LI) (v7 : Int) (kn : LM → LI → Int → Option ρ) (k0 : LM → Option ρ) (kr : LM → Bool → Option ρ) : Option ρ :=
 cond (lk N (decide (v7 < (v1.length : Int))))
 (
  cond (lk N (inB v7 v6.length)) (
   cond (lk N (inB v7 v1.length)) (
    both (
     cond (!(lk N ((spec_MutateMatrix.g (v6.getD v7.toNat (0, (0, []))) (v1.getD v7.toNat 0)).2)))
     (
      kr ([] : List (MT)) false)
     (
      cond (lk N (Nat.blt (v6.length + ([(spec_MutateMatrix.g (v6.getD v7.toNat (0, (0, []))) (v1.getD v7.toNat 0)).1] : List (MT)).length) 1099511627776)) (
       kn (v6 ++ ([(spec_MutateMatrix.g (v6.getD v7.toNat (0, (0, []))) (v1.getD v7.toNat 0)).1] : List (MT))) v1 (w64 (v7 + 1))) none))
    (
     cond (!(lk N ((spec_MutateMatrix.g (v6.getD v7.toNat (0, (0, []))) (v1.getD v7.toNat 0)).2)))
     (
      kr ([] : List (MT)) false)
     (
      cond (lk N (Nat.blt (v6.length + ([(spec_MutateMatrix.g (v6.getD v7.toNat (0, (0, []))) (v1.getD v7.toNat 0)).1] : List (MT)).length) 1099511627776)) (
       kn (v6 ++ ([(spec_MutateMatrix.g (v6.getD v7.toNat (0, (0, []))) (v1.getD v7.toNat 0)).1] : List (MT))) v1 (w64 (v7 + 1))) none))) none) none)
 (
  k0 v6)
def Z10L {ρ : Type} (N : Nat) (k0 : LM → Option ρ) (kr : LM → Bool → Option ρ) : Nat → LM → LI → Int → Option ρ
  | 0, _, _, _ => none
  | M + 1, v6, v1, v7 => Z11 N v6 v1 v7 (fun v6 v1 v7 => Z10L N k0 kr M v6 v1 v7) k0 kr
def Z10 N v6 v1 v7 k0 kr := (Z10L N k0 kr N v6 v1 v7 : Option ρ)
def Z9 N v6 v1 v7 kn kr := (Z10 N v6 v1 v7 kn kr : Option ρ)
def Z7 N v6 v1 kn kr := (Z8 N v6 v1 (fun v6 v1 v7 => Z9 N v6 v1 v7 kn kr) : Option ρ)
def Z12 {ρ : Type} (N : Nat) (v6 : LM) (kr : LM → Bool → Option ρ) : Option ρ :=
 kr v6 true
def Z6 N v6 v1 kr := (Z7 N v6 v1 (fun v6 => Z12 N v6 kr) kr : Option ρ)
def Z4 N v1 v2_0 v2_1 v2_2 kr := (Z5 N v1 v2_0 v2_1 v2_2 (fun v6 v1 => Z6 N v6 v1 kr) : Option ρ)
def Z2 N v1 v2_0 v2_1 v2_2 kr := (Z3 N v1 v2_0 v2_1 v2_2 (fun v1 v2_0 v2_1 v2_2 => Z4 N v1 v2_0 v2_1 v2_2 kr) kr : Option ρ)
def Z0 N v0 v1 kr := (Z1 N v0 v1 (fun v1 v2_0 v2_1 v2_2 => Z2 N v1 v2_0 v2_1 v2_2 kr) : Option ρ)
def Spec : Prop := ∀  (v0 : MT) (v1 : LI), Ty.bd (.pair (.int .i64) (.pair (.int .i64) (.sl 0 (.int .i64)))) v0 → Ty.bd (.sl 0 (.int .i64)) v1 → ∃ N0, ∀ N, N0 ≤ N → Z0 N v0 v1 (fun v4 v5 => some ((), (v4, (v5, ())))) = some ((), ((g v0 v1).1, ((g v0 v1).2, ())))
theorem loop {ρ : Type} (N : Nat) (kr : List (Int × Int × List Int) → Bool → Option ρ) (ks : List Int) (hk : ks.length ≤ 40) : ∀ (M j : Nat) (pre : List (Int × Int × List Int)) (p : Int × Int × List Int), pre.length = j → j ≤ ks.length → ks.length - j < M →
    Z10L N (fun a => Z12 N a kr) kr M (pre ++ [p]) ks (j : Int) = if (walkK mutG p (ks.drop j)).2 = true then kr (pre ++ (walkK mutG p (ks.drop j)).1) true else kr [] false := by
  intro M
  induction M with
  | zero => intro j _ _ _ _ h; omega
  | succ M ih =>
    intro j pre p hp hj hM
    simp only [Z10L, Z11]
    by_cases h : j < ks.length
    · have hg : (pre ++ [p]).getD j (0, (0, [])) = p := by
        rw [List.getD_eq_getElem?_getD, List.getElem?_append_right (by omega), ← hp]; simp
      have hv : spec_MutateMatrix.g p (ks.getD j 0) = mutG p (ks.getD j 0) := rfl
      rw [ct (dt (by omega)), ct (inB_nat (by simp; omega)), ct (inB_nat h), both_self]
      simp only [Int.toNat_natCast, hg, hv]
      rw [drop_getD 0 h, walkK, w64_succ (by rw [maxLen_val]; omega)]
      cases hb : (mutG p (ks.getD j 0)).2
      · rw [ct' (by rw [lk_eq]; rfl), if_neg (by simp)]
      · rw [cf' (by rw [lk_eq]; rfl), if_pos rfl, ct (by rw [Nat.blt_eq]; simp; omega)]
        rw [ih (j + 1) (pre ++ [p]) _ (by simp; omega) h (by omega)]
        cases hc : (walkK mutG (mutG p (ks.getD j 0)).1 (ks.drop (j + 1))).2
        · simp
        · simp
    · rw [cf (df (by omega)), List.drop_of_length_le (by omega), walkK, if_pos rfl]; rfl
theorem ok : Spec := fun m ks hb hv => ⟨ks.length + 10, fun N hN => by
  have e0 : spec_l4Square.g (m.1, (m.2.1, m.2.2)) = ((sizesK m && !decide (facK m = [])) && (decide (m.2.1 = m.1) && decide (2 * m.1 ≤ 8))) := rfl
  simp only [Z0, Z1, Z2, Z3, e0, g, lk_eq]
  cases h1 : ((sizesK m && !decide (facK m = [])) && (decide (m.2.1 = m.1) && decide (2 * m.1 ≤ 8)))
  · rfl
  have hs : sizesK m = true := by
    simp only [Bool.and_eq_true] at h1
    exact h1.1.1
  have hd := shaped_dim (sizes_shaped hs)
  by_cases h2 : (ks.length : Int) ≤ 40
  · rw [df (show ¬ (40 : Int) < ks.length by omega), dt h2]
    simp only [Bool.not_true, cond_false, Z4, Z5]
    rw [ct (show spec_l1Principal.P (m.1, (m.2.1, m.2.2)) = true from hd)]
    simp only [Z6, Z7, Z8, Z9, Z10]
    have := loop (ρ := Unit × List (Int × Int × List Int) × Bool × Unit) N (fun t4 t5 => some ((), (t4, (t5, ())))) ks (by omega) N 0 [] (princK m) rfl (by omega) (by omega)
    rw [show ((0 : Nat) : Int) = 0 from rfl, List.drop_zero] at this
    refine this.trans ?_
    simp only [Bool.and_true, if_true, List.nil_append]
    cases hw : walkK mutG (princK m) ks with
    | mk a b =>
      cases b
      · have : a = [] := by
          cases ks with
          | nil => rw [walkK] at hw; cases hw
          | cons k ks =>
            rw [walkK] at hw
            split at hw
            · split at hw
              · cases hw
              · cases hw; rfl
            · cases hw; rfl
        subst this
        rfl
      · rfl
  · rw [dt (show (40 : Int) < ks.length by omega), df h2]; rfl⟩
theorem last {m : Int × Int × List Int} {ks : List Int} (h : (g m ks).2 = true) : (g m ks).1.length = ks.length + 1 ∧ dimK ((g m ks).1.getD ks.length (0, (0, []))) = true ∧ ((g m ks).1.getD ks.length (0, (0, []))).1 = m.1 ∧ ks.length ≤ 40 ∧ dimK m = true := by
  unfold g at h ⊢
  split
  · rename_i hc
    rw [if_pos hc] at h
    simp only [Bool.and_eq_true, decide_eq_true_eq] at hc
    have hd := shaped_dim (sizes_shaped hc.1.1.1)
    obtain ⟨h1, h2, h3⟩ := walk_last (fun m k h => dim_mutG h) ks (princK m) (dim_princ hd hc.1.2.1 hc.1.2.2) h
    exact ⟨h1, h2, h3, by omega, hd⟩
  · rename_i hc
    rw [if_neg hc] at h; cases h
end spec_l4Along
end
end Go.Fw
namespace Go.Fw
theorem walk_alike (m : Int × Int × List Int) (ks : List Int) : impl_walk.g m ks = spec_l4Along.g m ks := by
  unfold impl_walk.g spec_l4Along.g impl_PrincipalMatrix.g
  rw [impl_mutG, ok_alike]
  cases ((sizesK m && !decide (facK m = [])) && (decide (m.2.1 = m.1) && decide (2 * m.1 ≤ 8))) <;> rfl
end Go.Fw
namespace Go.Fw
noncomputable section
variable {ρ : Type}
namespace laws_markIntS
def mk : List Int → Int → List Int × Int
  | [], k => ([], k)
  | _ :: xs, k => (k :: (mk xs (w64 (k + 1))).1, (mk xs (w64 (k + 1))).2)
def g (a : List Int) (k : Int) : List Int × Int := mk a k
end laws_markIntS
namespace laws_markIntS
def Z1 {ρ : Type} (N : Nat) (v0 : LI) (v1 : Int) (kn : LI → Int → Option ρ) : Option ρ :=
 kn v0 v1
def Z4 {ρ : Type} (N : Nat) (v0 : LI) (v1 : Int) (kn : LI → I2 (Option ρ)) : Option ρ :=
 kn v0 v1 0
def Z7 {ρ : Type} (N : Nat) (v0 : LI) (v1 v5 : Int) (kn : LI → I2 (Option ρ)) (k0 : LI → Int → Option ρ) : Option ρ :=
 cond (lk N (decide (v5 < (v0.length : Int))))
 (
  cond (lk N (inB v5 v0.length)) (
   kn (v0.set v5.toNat v1) (w64 (v1 + 1)) (w64 (v5 + 1))) none)
 (
  k0 v0 v1)
def Z6L {ρ : Type} (N : Nat) (k0 : LI → Int → Option ρ) : Nat → LI → Int → Int → Option ρ
  | 0, _, _, _ => none
  | M + 1, v0, v1, v5 => Z7 N v0 v1 v5 (fun v0 v1 v5 => Z6L N k0 M v0 v1 v5) k0
def Z6 N v0 v1 v5 k0 := (Z6L N k0 N v0 v1 v5 : Option ρ)
def Z5 N v0 v1 v5 kn := (Z6 N v0 v1 v5 kn : Option ρ)
def Z3 N v0 v1 kn := (Z4 N v0 v1 (fun v0 v1 v5 => Z5 N v0 v1 v5 kn) : Option ρ)
def Z8 {ρ : Type} (N : Nat) (io100000 : LI) (v1 : Int) (kr : LI → Int → Option ρ) : Option ρ :=
 kr io100000 v1
def Z2 N v0 v1 kr := (Z3 N v0 v1 (fun io100000 v1 => Z8 N io100000 v1 kr) : Option ρ)
def Z0 N v0 v1 kr := (Z1 N v0 v1 (fun v0 v1 => Z2 N v0 v1 kr) : Option ρ)
def Spec : Prop := ∀  (v0 : LI) (v1 : Int), Ty.bd (.sl 0 (.int .i64)) v0 → ∃ N0, ∀ N, N0 ≤ N → Z0 N v0 v1 (fun io100000 v4 => some (io100000, (v4, ()))) = some ((g v0 v1).1, ((g v0 v1).2, ()))
theorem loop {ρ : Type} (N : Nat) (k0 : List Int → Int → Option ρ) : ∀ (M j : Nat) (a : List Int) (k : Int), a.length ≤ maxLen → j ≤ a.length → a.length - j < M →
    Z6L N k0 M a k (j : Int) = k0 (a.take j ++ (mk (a.drop j) k).1) (mk (a.drop j) k).2 := by
  intro M
  induction M with
  | zero => intro j a k _ _ h; omega
  | succ M ih =>
    intro j a k ha hj hM
    simp only [Z6L, Z7]
    by_cases h : j < a.length
    · rw [ct (dt (by omega)), ct (inB_nat h), Int.toNat_natCast, w64_succ (by omega), ih (j + 1) _ _ (by simpa using ha) (by simp; omega) (by simp; omega), drop_getD 0 h,
        List.drop_set_of_lt (by omega), take_set_s (by omega)]
      simp [mk]
    · have : j = a.length := by omega
      subst this
      rw [cf (df (by omega))]
      simp [mk]
theorem ok : Spec := fun a k ha => ⟨a.length + 1, fun N hN => by
  simp only [Z1, Z4, Z7, Z6, Z5, Z3, Z8, Z2, Z0]
  rw [show (0 : Int) = ((0 : Nat) : Int) from rfl, loop _ _ _ 0 a k ha.1 (by omega) (by omega)]
  simp [g]⟩
theorem mk_len : ∀ (a : List Int) (k : Int), (mk a k).1.length = a.length
  | [], _ => rfl
  | _ :: xs, k => by simp [mk, mk_len xs]
theorem mk_end : ∀ (a : List Int) (k : Int), 0 ≤ k → k + a.length < 9223372036854775808 → (mk a k).2 = k + a.length
  | [], k, _, _ => by simp [mk]
  | _ :: xs, k, h0, h => by
    simp only [mk, List.length_cons] at h ⊢
    rw [w64_id (by omega) (by omega), mk_end xs (k + 1) (by omega) (by omega)]
    omega
end laws_markIntS
end
end Go.Fw
namespace Go.Fw
noncomputable section
variable {ρ : Type}
namespace laws_heldIntS
def hd : List Int → Int → Int
  | [], k => k
  | x :: xs, k => if x = k then hd xs (w64 (k + 1)) else -1
def g (a : List Int) (k : Int) : Int := hd a k
end laws_heldIntS
namespace laws_heldIntS
def Z1 {ρ : Type} (N : Nat) (v0 : LI) (v1 : Int) (kn : LI → Int → Option ρ) : Option ρ :=
 kn v0 v1
def Z4 {ρ : Type} (N : Nat) (v0 : LI) (v1 : Int) (kn : LI → I2 (Option ρ)) : Option ρ :=
 kn v0 v1 0
def Z7 {ρ : Type} (N : Nat) (v0 : LI) (v1 v5 : Int) (kn : LI → I2 (Option ρ)) (k0 kr : Int → Option ρ) : Option ρ :=
 cond (lk N (decide (v5 < (v0.length : Int))))
 (
  cond (lk N (inB v5 v0.length)) (
   cond (lk N (!(decide ((v0.getD v5.toNat 0) = v1))))
   (
    kr (-1))
   (
    kn v0 (w64 (v1 + 1)) (w64 (v5 + 1)))) none)
 (
  k0 v1)
def Z6L {ρ : Type} (N : Nat) (k0 kr : Int → Option ρ) : Nat → LI → Int → Int → Option ρ
  | 0, _, _, _ => none
  | M + 1, v0, v1, v5 => Z7 N v0 v1 v5 (fun v0 v1 v5 => Z6L N k0 kr M v0 v1 v5) k0 kr
def Z6 N v0 v1 v5 k0 kr := (Z6L N k0 kr N v0 v1 v5 : Option ρ)
def Z5 N v0 v1 v5 kn kr := (Z6 N v0 v1 v5 kn kr : Option ρ)
def Z3 N v0 v1 kn kr := (Z4 N v0 v1 (fun v0 v1 v5 => Z5 N v0 v1 v5 kn kr) : Option ρ)
def Z8 {ρ : Type} (N : Nat) (v1 : Int) (kr : Int → Option ρ) : Option ρ :=
 kr v1
def Z2 N v0 v1 kr := (Z3 N v0 v1 (fun v1 => Z8 N v1 kr) kr : Option ρ)
def Z0 N v0 v1 kr := (Z1 N v0 v1 (fun v0 v1 => Z2 N v0 v1 kr) : Option ρ)
def Spec : Prop := ∀  (v0 : LI) (v1 : Int), Ty.bd (.sl 0 (.int .i64)) v0 → ∃ N0, ∀ N, N0 ≤ N → Z0 N v0 v1 (fun v4 => some ((), (v4, ()))) = some ((), ((g v0 v1), ()))
theorem loop {ρ : Type} (N : Nat) (kr : Int → Option ρ) (a : List Int) (ha : a.length ≤ maxLen) : ∀ (M j : Nat) (k : Int), j ≤ a.length → a.length - j < M →
    Z6L N kr kr M a k (j : Int) = kr (hd (a.drop j) k) := by
  intro M
  induction M with
  | zero => intro j k _ h; omega
  | succ M ih =>
    intro j k hj hM
    simp only [Z6L, Z7]
    by_cases h : j < a.length
    · rw [ct (dt (by omega)), ct (inB_nat h), Int.toNat_natCast, w64_succ (by omega), ih (j + 1) _ h (by omega), drop_getD 0 h]
      by_cases e : a.getD j 0 = k
      · rw [cf (nf e), hd, if_pos e]
      · rw [ct (nt e), hd, if_neg e]
    · rw [cf (df (by omega)), List.drop_of_length_le (by omega), hd]
theorem ok : Spec := fun a k ha => ⟨a.length + 1, fun N hN => by
  simp only [Z1, Z4, Z7, Z6, Z5, Z3, Z8, Z2, Z0]
  rw [show (0 : Int) = ((0 : Nat) : Int) from rfl, loop _ _ a ha.1 N 0 k (by omega) (by omega)]
  simp [g]⟩
end laws_heldIntS
end
end Go.Fw
namespace Go.Fw
theorem heldInt_mark : ∀ (a : List Int) (k : Int), laws_heldIntS.g (laws_markIntS.g a k).1 k = (laws_markIntS.g a k).2
  | [], k => rfl
  | x :: xs, k => by
    have ih := heldInt_mark xs (w64 (k + 1))
    simp only [laws_heldIntS.g, laws_markIntS.g, laws_markIntS.mk, laws_heldIntS.hd, if_true] at ih ⊢
    exact ih
end Go.Fw
namespace Go.Fw
noncomputable section
variable {ρ : Type}
namespace laws_markMatrix
def g (a : Int × Int × List Int) (k : Int) : (Int × Int × List Int) × Int := ((a.1, a.2.1, (laws_markIntS.g a.2.2 k).1), (laws_markIntS.g a.2.2 k).2)
end laws_markMatrix
namespace laws_markMatrix
def Z0 {ρ : Type} (N : Nat) (v0 : MT) (v1 : Int) (kr : LI → I3 (Option ρ)) : Option ρ :=
 kr (laws_markIntS.g v0.2.2 v1).1 (laws_markIntS.g v0.2.2 v1).2 v0.1 v0.2.1
def Spec : Prop := ∀  (v0 : MT) (v1 : Int), Ty.bd (.pair (.int .i64) (.pair (.int .i64) (.sl 0 (.int .i64)))) v0 → ∃ N0, ∀ N, N0 ≤ N → Z0 N v0 v1 (fun io100000_2 v4 io100000_0 io100000_1 => some ((io100000_0, (io100000_1, io100000_2)), (v4, ()))) = some ((g v0 v1).1, ((g v0 v1).2, ()))
theorem ok : Spec := fun a k ha => ⟨0, fun N hN => by simp only [Z0, g]⟩
end laws_markMatrix
end
end Go.Fw
namespace Go.Fw
theorem mark_two (m : Int × Int × List Int) (l : List Int) (h1 : m.2.2.length ≤ 1048576) (h2 : l.length ≤ 1048576) : ¬ (laws_markIntS.g l (laws_markMatrix.g m 1).2).2 < 0 := by
  have e1 : (laws_markMatrix.g m 1).2 = 1 + m.2.2.length := laws_markIntS.mk_end m.2.2 1 (by omega) (by omega)
  rw [e1]
  have e2 : (laws_markIntS.g l (1 + (m.2.2.length : Int))).2 = 1 + (m.2.2.length : Int) + l.length := laws_markIntS.mk_end l _ (by omega) (by omega)
  rw [e2]
  omega
end Go.Fw
namespace Go.Fw
noncomputable section
variable {ρ : Type}
namespace laws_markIntSS
def mk : List (List Int) → Int → List (List Int) × Int
  | [], k => ([], k)
  | t :: ts, k => ((laws_markIntS.g t k).1 :: (mk ts (laws_markIntS.g t k).2).1, (mk ts (laws_markIntS.g t k).2).2)
def g (a : List (List Int)) (k : Int) : List (List Int) × Int := mk a k
end laws_markIntSS
namespace laws_markIntSS
def Z1 {ρ : Type} (N : Nat) (v0 : LL) (v1 : Int) (kn : LL → Int → Option ρ) : Option ρ :=
 kn v0 v1
def Z4 {ρ : Type} (N : Nat) (v0 : LL) (v1 : Int) (kn : LL → I2 (Option ρ)) : Option ρ :=
 kn v0 v1 0
def Z7 {ρ : Type} (N : Nat) (v0 : LL) (v1 v5 : Int) (kn : LL → I2 (Option ρ)) (k0 : LL → Int → Option ρ) : Option ρ :=
 cond (lk N (decide (v5 < (v0.length : Int))))
 (
  cond (lk N (inB v5 v0.length)) (
   kn (v0.set v5.toNat (laws_markIntS.g (v0.getD v5.toNat []) v1).1) (laws_markIntS.g (v0.getD v5.toNat []) v1).2 (w64 (v5 + 1))) none)
 (
  k0 v0 v1)
def Z6L {ρ : Type} (N : Nat) (k0 : LL → Int → Option ρ) : Nat → LL → Int → Int → Option ρ
  | 0, _, _, _ => none
  | M + 1, v0, v1, v5 => Z7 N v0 v1 v5 (fun v0 v1 v5 => Z6L N k0 M v0 v1 v5) k0
def Z6 N v0 v1 v5 k0 := (Z6L N k0 N v0 v1 v5 : Option ρ)
def Z5 N v0 v1 v5 kn := (Z6 N v0 v1 v5 kn : Option ρ)
def Z3 N v0 v1 kn := (Z4 N v0 v1 (fun v0 v1 v5 => Z5 N v0 v1 v5 kn) : Option ρ)
def Z8 {ρ : Type} (N : Nat) (io100000 : LL) (v1 : Int) (kr : LL → Int → Option ρ) : Option ρ :=
 kr io100000 v1
def Z2 N v0 v1 kr := (Z3 N v0 v1 (fun io100000 v1 => Z8 N io100000 v1 kr) : Option ρ)
def Z0 N v0 v1 kr := (Z1 N v0 v1 (fun v0 v1 => Z2 N v0 v1 kr) : Option ρ)
def Spec : Prop := ∀  (v0 : LL) (v1 : Int), Ty.bd (.sl 0 (.sl 0 (.int .i64))) v0 → ∃ N0, ∀ N, N0 ≤ N → Z0 N v0 v1 (fun io100000 v4 => some (io100000, (v4, ()))) = some ((g v0 v1).1, ((g v0 v1).2, ()))
theorem loop {ρ : Type} (N : Nat) (k0 : List (List Int) → Int → Option ρ) : ∀ (M j : Nat) (a : List (List Int)) (k : Int), a.length ≤ maxLen → j ≤ a.length → a.length - j < M →
    Z6L N k0 M a k (j : Int) = k0 (a.take j ++ (mk (a.drop j) k).1) (mk (a.drop j) k).2 := by
  intro M
  induction M with
  | zero => intro j a k _ _ h; omega
  | succ M ih =>
    intro j a k ha hj hM
    simp only [Z6L, Z7]
    by_cases h : j < a.length
    · rw [ct (dt (by omega)), ct (inB_nat h), Int.toNat_natCast, w64_succ (by omega), ih (j + 1) _ _ (by simpa using ha) (by simp; omega) (by simp; omega), drop_getD [] h,
        List.drop_set_of_lt (by omega), take_set_s (by omega)]
      simp [mk]
    · have : j = a.length := by omega
      subst this
      rw [cf (df (by omega))]
      simp [mk]
theorem ok : Spec := fun a k ha => ⟨a.length + 1, fun N hN => by
  simp only [Z1, Z4, Z7, Z6, Z5, Z3, Z8, Z2, Z0]
  rw [show (0 : Int) = ((0 : Nat) : Int) from rfl, loop _ _ _ 0 a k ha.1 (by omega) (by omega)]
  simp [g]⟩
end laws_markIntSS
end
end Go.Fw
namespace Go.Fw
noncomputable section
variable {ρ : Type}
namespace laws_heldIntSS
def hd : List (List Int) → Int → Int
  | [], k => k
  | t :: ts, k => if laws_heldIntS.g t k < 0 then -1 else hd ts (laws_heldIntS.g t k)
def g (a : List (List Int)) (k : Int) : Int := hd a k
end laws_heldIntSS
namespace laws_heldIntSS
def Z1 {ρ : Type} (N : Nat) (v0 : LL) (v1 : Int) (kn : LL → Int → Option ρ) : Option ρ :=
 kn v0 v1
def Z4 {ρ : Type} (N : Nat) (v0 : LL) (v1 : Int) (kn : LL → I2 (Option ρ)) : Option ρ :=
 kn v0 v1 0
def Z7 {ρ : Type} (N : Nat) (v0 : LL) (v1 v5 : Int) (kn : LL → I2 (Option ρ)) (k0 kr : Int → Option ρ) : Option ρ :=
 cond (lk N (decide (v5 < (v0.length : Int))))
 (
  cond (lk N (inB v5 v0.length)) (
   cond (lk N (decide ((laws_heldIntS.g (v0.getD v5.toNat []) v1) < 0)))
   (
    kr (-1))
   (
    kn v0 (laws_heldIntS.g (v0.getD v5.toNat []) v1) (w64 (v5 + 1)))) none)
 (
  k0 v1)
def Z6L {ρ : Type} (N : Nat) (k0 kr : Int → Option ρ) : Nat → LL → Int → Int → Option ρ
  | 0, _, _, _ => none
  | M + 1, v0, v1, v5 => Z7 N v0 v1 v5 (fun v0 v1 v5 => Z6L N k0 kr M v0 v1 v5) k0 kr
def Z6 N v0 v1 v5 k0 kr := (Z6L N k0 kr N v0 v1 v5 : Option ρ)
def Z5 N v0 v1 v5 kn kr := (Z6 N v0 v1 v5 kn kr : Option ρ)
def Z3 N v0 v1 kn kr := (Z4 N v0 v1 (fun v0 v1 v5 => Z5 N v0 v1 v5 kn kr) : Option ρ)
def Z8 {ρ : Type} (N : Nat) (v1 : Int) (kr : Int → Option ρ) : Option ρ :=
 kr v1
def Z2 N v0 v1 kr := (Z3 N v0 v1 (fun v1 => Z8 N v1 kr) kr : Option ρ)
def Z0 N v0 v1 kr := (Z1 N v0 v1 (fun v0 v1 => Z2 N v0 v1 kr) : Option ρ)
def Spec : Prop := ∀  (v0 : LL) (v1 : Int), Ty.bd (.sl 0 (.sl 0 (.int .i64))) v0 → ∃ N0, ∀ N, N0 ≤ N → Z0 N v0 v1 (fun v4 => some ((), (v4, ()))) = some ((), ((g v0 v1), ()))
theorem loop {ρ : Type} (N : Nat) (kr : Int → Option ρ) (a : List (List Int)) (ha : a.length ≤ maxLen) : ∀ (M j : Nat) (k : Int), j ≤ a.length → a.length - j < M →
    Z6L N kr kr M a k (j : Int) = kr (hd (a.drop j) k) := by
  intro M
  induction M with
  | zero => intro j k _ h; omega
  | succ M ih =>
    intro j k hj hM
    simp only [Z6L, Z7]
    by_cases h : j < a.length
    · rw [ct (dt (by omega)), ct (inB_nat h), Int.toNat_natCast, w64_succ (by omega), ih (j + 1) _ h (by omega), drop_getD [] h]
      by_cases e1 : laws_heldIntS.g (a.getD j []) k < 0
      · rw [ct (dt e1), hd, if_pos e1]
      · rw [cf (df e1), hd, if_neg e1]
    · rw [cf (df (by omega)), List.drop_of_length_le (by omega), hd]
theorem ok : Spec := fun a k ha => ⟨a.length + 1, fun N hN => by
  simp only [Z1, Z4, Z7, Z6, Z5, Z3, Z8, Z2, Z0]
  rw [show (0 : Int) = ((0 : Nat) : Int) from rfl, loop _ _ a ha.1 N 0 k (by omega) (by omega)]
  simp [g]⟩
end laws_heldIntSS
end
end Go.Fw
namespace Go.Fw
def szSS : List (List Int) → Nat
  | [] => 0
  | t :: ts => t.length + szSS ts
theorem heldSS_mark : ∀ (l : List (List Int)) (k : Int), 0 ≤ k → k + szSS l < 9223372036854775808 →
    laws_heldIntSS.g (laws_markIntSS.g l k).1 k = (laws_markIntSS.g l k).2 ∧ (laws_markIntSS.g l k).2 = k + szSS l
  | [], k, _, _ => ⟨rfl, by simp [laws_markIntSS.g, laws_markIntSS.mk, szSS]⟩
  | t :: ts, k, h0, h => by
    simp only [szSS] at h ⊢
    have e1 := laws_markIntS.mk_end t k h0 (by omega)
    have e2 := heldInt_mark t k
    have e3 : (laws_markIntS.g t k).2 = k + t.length := e1
    obtain ⟨i1, i2⟩ := heldSS_mark ts (k + t.length) (by omega) (by omega)
    simp only [laws_heldIntSS.g, laws_markIntSS.g, laws_markIntSS.mk, laws_heldIntSS.hd, e2, e3] at i1 i2 ⊢
    rw [if_neg (by omega)]
    exact ⟨i1, by rw [i2]; omega⟩
theorem szSS_le {l : List (List Int)} {a b : Nat} (h1 : l.length ≤ a) (h2 : ∀ x ∈ l, x.length ≤ b) : szSS l ≤ a * b := by
  have : szSS l ≤ l.length * b := by
    clear h1
    induction l with
    | nil => simp [szSS]
    | cons x xs ih =>
      have h3 := ih (fun y hy => h2 y (List.mem_cons_of_mem _ hy))
      have h4 := h2 x List.mem_cons_self
      rw [szSS, List.length_cons, Nat.add_mul, Nat.one_mul]
      omega
  exact Nat.le_trans this (Nat.mul_le_mul_right b h1)
theorem ss_mark (x : List (List Int)) (h : szSS x < 4611686018427387904) : laws_heldIntSS.g (laws_markIntSS.g x 1).1 1 = (laws_markIntSS.g x 1).2 ∧ ¬ (laws_markIntSS.g x 1).2 < 0 := by
  obtain ⟨h1, h2⟩ := heldSS_mark x 1 (by omega) (by omega)
  exact ⟨h1, by omega⟩
end Go.Fw
namespace Go.Fw
noncomputable section
variable {ρ : Type}
namespace spec_l3Unit
def P (n i : Int) : Bool := decide (0 ≤ n) && (decide (n < 1099511627776) && (decide (0 ≤ i) && decide (i < n)))
def g (n i : Int) : List Int := rowU n.toNat i.toNat
end spec_l3Unit
namespace spec_l3Unit
def Z0 {ρ : Type} (N : Nat) (v0 v1 : Int) (kr : LI → Option ρ) : Option ρ :=
 cond (lk N (leB 0 v0 && decide (v0 < 1099511627776))) (
  cond (lk N (inB v1 (List.replicate v0.toNat (0 : Int)).length)) (
   kr ((List.replicate v0.toNat (0 : Int)).set v1.toNat 1)) none) none
def Spec : Prop := ∀  (v0 v1 : Int), P v0 v1 = true → ∃ N0, ∀ N, N0 ≤ N → Z0 N v0 v1 (fun v4 => some ((), (v4, ()))) = some ((), ((g v0 v1), ()))
theorem ok : Spec := fun n i hp => ⟨0, fun N hN => by
  simp only [P, Bool.and_eq_true, decide_eq_true_eq] at hp
  obtain ⟨h1, h2, h3, h4⟩ := hp
  simp only [Z0]
  rw [ct (by rw [leB_t h1, dt h2]; rfl), ct (inB_int h3 (by rw [List.length_replicate]; omega)), set_row (by omega)]
  rfl⟩
end spec_l3Unit
end
end Go.Fw
namespace Go.Fw
noncomputable section
variable {ρ : Type}
namespace spec_l4Lower
def P (m : Int × Int × List Int) : Bool := dimK m
def g (m : Int × Int × List Int) : List (List Int) := lowK m
end spec_l4Lower
namespace spec_l4Lower
def Z1 {ρ : Type} (N : Nat) (v0 : MT) (kn : I2 (LI → Option ρ)) : Option ρ :=
 kn v0.1 v0.2.1 v0.2.2
def Z3 {ρ : Type} (N : Nat) (v1_0 v1_1 : Int) (v1_2 : LI) (kn : LL → I2 (LI → Option ρ)) : Option ρ :=
 kn ([] : List (LI)) v1_0 v1_1 v1_2
def Z6 {ρ : Type} (N : Nat) (v3 : LL) (v1_0 v1_1 : Int) (v1_2 : LI) (kn : LL → I3 (LI → Option ρ)) : Option ρ :=
 kn v3 v1_0 v1_0 v1_1 v1_2
def Z9 {ρ : Type} (N : Nat) (v3 : LL) (v4 v1_0 v1_1 : Int) (v1_2 : LI) (kn : LL → I3 (LI → Option ρ)) (k0 : LL → Option ρ) : Option ρ :=
 cond (lk N (decide (v4 < v1_1)))
 (
  cond (lk N (leB 0 (w64 (v4 * v1_0)) && (leB (w64 (v4 * v1_0)) (w64 ((w64 (v4 * v1_0)) + v1_0)) && leB (w64 ((w64 (v4 * v1_0)) + v1_0)) v1_2.length))) (
   cond (lk N (spec_l1Ints.P ((v1_2.drop (w64 (v4 * v1_0)).toNat).take ((w64 ((w64 (v4 * v1_0)) + v1_0)) - (w64 (v4 * v1_0))).toNat))) (
    cond (lk N (Nat.blt (v3.length + ([(spec_l1Ints.g ((v1_2.drop (w64 (v4 * v1_0)).toNat).take ((w64 ((w64 (v4 * v1_0)) + v1_0)) - (w64 (v4 * v1_0))).toNat))] : List (LI)).length) 1099511627776)) (
     kn (v3 ++ ([(spec_l1Ints.g ((v1_2.drop (w64 (v4 * v1_0)).toNat).take ((w64 ((w64 (v4 * v1_0)) + v1_0)) - (w64 (v4 * v1_0))).toNat))] : List (LI))) (w64 (v4 + 1)) v1_0 v1_1 v1_2) none) none) none)
 (
  k0 v3)
def Z8L {ρ : Type} (N : Nat) (k0 : LL → Option ρ) : Nat → LL → Int → Int → Int → LI → Option ρ
  | 0, _, _, _, _, _ => none
  | M + 1, v3, v4, v1_0, v1_1, v1_2 => Z9 N v3 v4 v1_0 v1_1 v1_2 (fun v3 v4 v1_0 v1_1 v1_2 => Z8L N k0 M v3 v4 v1_0 v1_1 v1_2) k0
def Z8 N v3 v4 v1_0 v1_1 v1_2 k0 := (Z8L N k0 N v3 v4 v1_0 v1_1 v1_2 : Option ρ)
def Z7 N v3 v4 v1_0 v1_1 v1_2 kn := (Z8 N v3 v4 v1_0 v1_1 v1_2 kn : Option ρ)
def Z5 N v3 v1_0 v1_1 v1_2 kn := (Z6 N v3 v1_0 v1_1 v1_2 (fun v3 v4 v1_0 v1_1 v1_2 => Z7 N v3 v4 v1_0 v1_1 v1_2 kn) : Option ρ)
def Z10 {ρ : Type} (N : Nat) (v3 : LL) (kr : LL → Option ρ) : Option ρ :=
 kr v3
def Z4 N v3 v1_0 v1_1 v1_2 kr := (Z5 N v3 v1_0 v1_1 v1_2 (fun v3 => Z10 N v3 kr) : Option ρ)
def Z2 N v1_0 v1_1 v1_2 kr := (Z3 N v1_0 v1_1 v1_2 (fun v3 v1_0 v1_1 v1_2 => Z4 N v3 v1_0 v1_1 v1_2 kr) : Option ρ)
def Z0 N v0 kr := (Z1 N v0 (fun v1_0 v1_1 v1_2 => Z2 N v1_0 v1_1 v1_2 kr) : Option ρ)
def Spec : Prop := ∀  (v0 : MT), Ty.bd (.pair (.int .i64) (.pair (.int .i64) (.sl 0 (.int .i64)))) v0 → P v0 = true → ∃ N0, ∀ N, N0 ≤ N → Z0 N v0 (fun v2 => some ((), (v2, ()))) = some ((), ((g v0), ()))
theorem loop {ρ : Type} {N : Nat} {m : Int × Int × List Int} (hd : dimK m = true) (k0 : List (List Int) → Option ρ) : ∀ (M t : Nat), t ≤ m.2.1.toNat - m.1.toNat → m.2.1.toNat - m.1.toNat - t < M →
    Z8L N k0 M ((lowK m).take t) ((m.1.toNat + t : Nat) : Int) m.1 m.2.1 m.2.2 = k0 (lowK m) := by
  obtain ⟨n, r, hn, hr, hn1, hn5, hnr, hr8, hl⟩ := dim_nat hd
  have hcl : (lowK m).length = m.2.1.toNat - m.1.toNat := by simp [lowK]
  intro M
  induction M with
  | zero => intro t _ h; omega
  | succ M ih =>
    intro t ht hM
    simp only [Z8L, Z9]
    by_cases h : t < m.2.1.toNat - m.1.toNat
    · have ha : (lowK m).take t ++ [rowK m (m.1.toNat + t)] = (lowK m).take (t + 1) := car_take (fun t => rowK m (m.1.toNat + t)) h
      have e : ((m.1.toNat + t : Nat) : Int) * m.1 = (((m.1.toNat + t) * m.1.toNat : Nat) : Int) := by rw [Int.natCast_mul, hn]; simp
      have hb1 : (m.1.toNat + t) * m.1.toNat ≤ 8 * 5 := Nat.mul_le_mul (by omega) (by omega)
      have hb2 : (m.1.toNat + t) * m.1.toNat + m.1.toNat ≤ m.2.2.length := by
        have := Nat.mul_le_mul_right n (show m.1.toNat + t + 1 ≤ r by omega)
        rw [Nat.add_mul, Nat.one_mul] at this
        rw [hl, show m.1.toNat = n by omega]
        rw [show m.1.toNat = n by omega] at this
        exact this
      have e1 : w64 ((((m.1.toNat + t) * m.1.toNat : Nat) : Int)) = (((m.1.toNat + t) * m.1.toNat : Nat) : Int) := w64_id (by omega) (by omega)
      have e2 : w64 ((((m.1.toNat + t) * m.1.toNat : Nat) : Int) + m.1) = (((m.1.toNat + t) * m.1.toNat : Nat) : Int) + m.1 := w64_id (by omega) (by omega)
      have hsl : (m.2.2.drop ((((m.1.toNat + t) * m.1.toNat : Nat) : Int)).toNat).take (((((m.1.toNat + t) * m.1.toNat : Nat) : Int) + m.1) - (((m.1.toNat + t) * m.1.toNat : Nat) : Int)).toNat = rowK m (m.1.toNat + t) := by
        rw [Int.toNat_natCast, show ((((m.1.toNat + t) * m.1.toNat : Nat) : Int) + m.1 - (((m.1.toNat + t) * m.1.toNat : Nat) : Int)).toNat = m.1.toNat by omega]
        exact row_slice hd (by omega)
      rw [ct (dt (by omega))]
      simp only [e, e1, e2, hsl]
      have hrl : (rowK m (m.1.toNat + t)).length = m.1.toNat := by simp [rowK]
      rw [ct (by rw [leB_t (by omega), leB_t (by omega), leB_t (by omega)]; rfl), ct (show spec_l1Ints.P (rowK m (m.1.toNat + t)) = true from dt (by omega)), ct (by rw [Nat.blt_eq, List.length_take, hcl, List.length_singleton]; omega),
        show spec_l1Ints.g (rowK m (m.1.toNat + t)) = rowK m (m.1.toNat + t) from rfl, ha, w64_succ (by rw [maxLen_val]; omega)]
      exact ih (t + 1) h (by omega)
    · rw [cf (df (by omega)), List.take_of_length_le (by rw [hcl]; omega)]
theorem ok : Spec := fun m hb hp => ⟨10, fun N hN => by
  have hd : dimK m = true := hp
  obtain ⟨n, r, hn, hr, hn1, hn5, hnr, hr8, hl⟩ := dim_nat hd
  simp only [Z0, Z1, Z2, Z3, Z4, Z5, Z6, Z7, Z8]
  have := loop (ρ := Unit × List (List Int) × Unit) (N := N) hd (fun out3 => Z10 N out3 (fun t2 => some ((), (t2, ())))) N 0 (by omega) (by omega)
  rw [List.take_zero, Nat.add_zero, show ((m.1.toNat : Nat) : Int) = m.1 by omega] at this
  exact this⟩
end spec_l4Lower
end
end Go.Fw
namespace Go.Fw
noncomputable section
variable {ρ : Type}
namespace spec_GVectorsOf
def g (m : Int × Int × List Int) (ks : List Int) : List (List Int) × Bool :=
  if (spec_l4Along.g m ks).2 = true then (gvAll m (spec_l4Along.g m ks).1 ks (unitG m.1.toNat), true) else ([], false)
end spec_GVectorsOf
namespace spec_GVectorsOf
def Z1 {ρ : Type} (N : Nat) (v0 : MT) (v1 : LI) (kn : LI → I2 (LI → Option ρ)) : Option ρ :=
 kn v1 v0.1 v0.2.1 v0.2.2
def Z3 {ρ : Type} (N : Nat) (v1 : LI) (v2_0 v2_1 : Int) (v2_2 : LI) (kn : LM → LI → Bool → I2 (LI → Option ρ)) : Option ρ :=
 kn (spec_l4Along.g (v2_0, (v2_1, v2_2)) v1).1 v1 (lk N ((spec_l4Along.g (v2_0, (v2_1, v2_2)) v1).2)) v2_0 v2_1 v2_2
def Z5 {ρ : Type} (N : Nat) (v6 : LM) (v1 : LI) (v7 : Bool) (v2_0 v2_1 : Int) (v2_2 : LI) (kn : LM → LI → I2 (LI → Option ρ)) (kr : LL → Bool → Option ρ) : Option ρ :=
 cond (!(v7))
 (
  kr ([] : List (LI)) false)
 (
  kn v6 v1 v2_0 v2_1 v2_2)
def Z7 {ρ : Type} (N : Nat) (v6 : LM) (v1 : LI) (v2_0 v2_1 : Int) (v2_2 : LI) (kn : LM → LL → LI → I2 (LI → Option ρ)) : Option ρ :=
 kn v6 ([] : List (LI)) v1 v2_0 v2_1 v2_2
def Z10 {ρ : Type} (N : Nat) (v6 : LM) (v8 : LL) (v1 : LI) (v2_0 v2_1 : Int) (v2_2 : LI) (kn : LM → LL → LI → I3 (LI → Option ρ)) : Option ρ :=
 kn v6 v8 v1 0 v2_0 v2_1 v2_2
def Z13 {ρ : Type} (N : Nat) (v6 : LM) (v8 : LL) (v1 : LI) (v9 v2_0 v2_1 : Int) (v2_2 : LI) (kn : LM → LL → LI → I3 (LI → Option ρ)) (k0 : LM → LL → LI → I2 (LI → Option ρ)) : Option ρ :=
 cond (lk N (decide (v9 < v2_0)))
 (
  cond (lk N (spec_l3Unit.P v2_0 v9)) (
   cond (lk N (Nat.blt (v8.length + ([(spec_l3Unit.g v2_0 v9)] : List (LI)).length) 1099511627776)) (
    kn v6 (v8 ++ ([(spec_l3Unit.g v2_0 v9)] : List (LI))) v1 (w64 (v9 + 1)) v2_0 v2_1 v2_2) none) none)
 (
  k0 v6 v8 v1 v2_0 v2_1 v2_2)
def Z12L {ρ : Type} (N : Nat) (k0 : LM → LL → LI → I2 (LI → Option ρ)) : Nat → LM → LL → LI → Int → Int → Int → LI → Option ρ
  | 0, _, _, _, _, _, _, _ => none
  | M + 1, v6, v8, v1, v9, v2_0, v2_1, v2_2 => Z13 N v6 v8 v1 v9 v2_0 v2_1 v2_2 (fun v6 v8 v1 v9 v2_0 v2_1 v2_2 => Z12L N k0 M v6 v8 v1 v9 v2_0 v2_1 v2_2) k0
def Z12 N v6 v8 v1 v9 v2_0 v2_1 v2_2 k0 := (Z12L N k0 N v6 v8 v1 v9 v2_0 v2_1 v2_2 : Option ρ)
def Z11 N v6 v8 v1 v9 v2_0 v2_1 v2_2 kn := (Z12 N v6 v8 v1 v9 v2_0 v2_1 v2_2 kn : Option ρ)
def Z9 N v6 v8 v1 v2_0 v2_1 v2_2 kn := (Z10 N v6 v8 v1 v2_0 v2_1 v2_2 (fun v6 v8 v1 v9 v2_0 v2_1 v2_2 => Z11 N v6 v8 v1 v9 v2_0 v2_1 v2_2 kn) : Option ρ)
def Z16 {ρ : Type} (N : Nat) (v6 : LM) (v8 : LL) (v1 : LI) (v2_0 v2_1 : Int) (v2_2 : LI) (kn : LM → LL → LI → I3 (LI → Option ρ)) : Option ρ :=
 kn v6 v8 v1 0 v2_0 v2_1 v2_2
def Z20 {ρ : Type} (N : Nat) (v6 : LM) (v8 : LL) (v1 : LI) (v10 v2_0 v2_1 : Int) (v2_2 : LI) (kn : LM → LL → LI → I3 (LI → Option ρ)) (k2 : LL → Option ρ) : Option ρ :=
 cond (lk N (decide (v10 < (v1.length : Int))))
 (
  kn v6 v8 v1 v10 v2_0 v2_1 v2_2)
 (
  k2 v8)
def Z24 {ρ : Type} (N : Nat) (v6 : LM) (v8 : LL) (v1 : LI) (v10 v2_0 v2_1 : Int) (v2_2 : LI) (kn : LM → LL → LI → I4 (LI → Option ρ)) : Option ρ :=
 cond (lk N (inB v10 v1.length)) (
  kn v6 v8 v1 v10 (v1.getD v10.toNat 0) v2_0 v2_1 v2_2) none
def Z26 {ρ : Type} (N : Nat) (v6 : LM) (v8 : LL) (v1 : LI) (v10 v11 v2_0 v2_1 : Int) (v2_2 : LI) (kn : LM → LL → LL → LI → I4 (LI → Option ρ)) : Option ρ :=
 cond (lk N (inB v10 v6.length)) (
  cond (lk N (spec_l4Lower.P (v6.getD v10.toNat (0, (0, []))))) (
   kn v6 v8 (spec_l4Lower.g (v6.getD v10.toNat (0, (0, [])))) v1 v10 v11 v2_0 v2_1 v2_2) none) none
def Z28 {ρ : Type} (N : Nat) (v6 : LM) (v8 v12 : LL) (v1 : LI) (v10 v11 v2_0 v2_1 : Int) (v2_2 : LI) (kn : LM → LL → LL → LI → LI → I4 (LI → Option ρ)) : Option ρ :=
 cond (lk N (leB 0 v2_0 && decide (v2_0 < 1099511627776))) (
  kn v6 v8 v12 (List.replicate v2_0.toNat (0 : Int)) v1 v10 v11 v2_0 v2_1 v2_2) none
def Z31 {ρ : Type} (N : Nat) (v6 : LM) (v8 v12 : LL) (v13 v1 : LI) (v10 v11 v2_0 v2_1 : Int) (v2_2 : LI) (kn : LM → LL → LL → LI → LI → I5 (LI → Option ρ)) : Option ρ :=
 kn v6 v8 v12 v13 v1 v10 v11 0 v2_0 v2_1 v2_2
def Z35 {ρ : Type} (N : Nat) (v6 : LM) (v8 v12 : LL) (v13 v1 : LI) (v10 v11 v14 v2_0 v2_1 : Int) (v2_2 : LI) (kn : LM → LL → LL → LI → LI → I5 (LI → Option ρ)) (k4 : LM → LL → LI → LI → I4 (LI → Option ρ)) : Option ρ :=
 cond (lk N (decide (v14 < v2_0)))
 (
  kn v6 v8 v12 v13 v1 v10 v11 v14 v2_0 v2_1 v2_2)
 (
  k4 v6 v8 v13 v1 v10 v11 v2_0 v2_1 v2_2)
def Z39 {ρ : Type} (N : Nat) (v6 : LM) (v8 v12 : LL) (v13 v1 : LI) (v10 v11 v14 v2_0 v2_1 : Int) (v2_2 : LI) (kn : LM → LL → LL → LI → LI → I5 (LI → Option ρ)) : Option ρ :=
 cond (lk N (inB v14 v8.length)) (
  cond (lk N (inB v11 (v8.getD v14.toNat []).length)) (
   cond (lk N (inB v14 v13.length)) (
    kn v6 v8 v12 (v13.set v14.toNat (w64 (0 - ((v8.getD v14.toNat []).getD v11.toNat 0)))) v1 v10 v11 v14 v2_0 v2_1 v2_2) none) none) none
def Z41 {ρ : Type} (N : Nat) (v6 : LM) (v8 v12 : LL) (v13 v1 : LI) (v10 v11 v14 v2_0 v2_1 : Int) (v2_2 : LI) (kn : LM → LL → LL → LI → LI → I6 (LI → Option ρ)) : Option ρ :=
 kn v6 v8 v12 v13 v1 v10 v11 v14 0 v2_0 v2_1 v2_2
def Z44 {ρ : Type} (N : Nat) (v6 : LM) (v8 v12 : LL) (v13 v1 : LI) (v10 v11 v14 v15 v2_0 v2_1 : Int) (v2_2 : LI) (kn : LM → LL → LL → LI → LI → I6 (LI → Option ρ)) (k6 : LM → LL → LL → LI → LI → I5 (LI → Option ρ)) : Option ρ :=
 cond (lk N (decide (v15 < v2_0)))
 (
  cond (lk N (inB v14 v13.length)) (
   cond (lk N (inB v10 v6.length)) (
    cond (lk N (inB v14 v8.length)) (
     cond (lk N (inB v15 (v8.getD v14.toNat []).length)) (
      cond (lk N (inB v15 v12.length)) (
       cond (lk N (inB v11 (v12.getD v15.toNat []).length)) (
        cond (lk N (spec_l1At.P (v6.getD v10.toNat (0, (0, []))) v15 v11)) (
         cond (lk N (spec_l1At.P (v2_0, (v2_1, v2_2)) v14 v15)) (
          cond (lk N (inB v14 v13.length)) (
           kn v6 v8 v12 (v13.set v14.toNat (w64 ((w64 ((v13.getD v14.toNat 0) + (w64 ((mx 0 (spec_l1At.g (v6.getD v10.toNat (0, (0, []))) v15 v11)) * ((v8.getD v14.toNat []).getD v15.toNat 0))))) - (w64 ((mx 0 ((v12.getD v15.toNat []).getD v11.toNat 0)) * (spec_l1At.g (v2_0, (v2_1, v2_2)) v14 v15)))))) v1 v10 v11 v14 (w64 (v15 + 1)) v2_0 v2_1 v2_2) none) none) none) none) none) none) none) none) none)
 (
  k6 v6 v8 v12 v13 v1 v10 v11 v14 v2_0 v2_1 v2_2)
def Z43L {ρ : Type} (N : Nat) (k6 : LM → LL → LL → LI → LI → I5 (LI → Option ρ)) : Nat → LM → LL → LL → LI → LI → Int → Int → Int → Int → Int → Int → LI → Option ρ
  | 0, _, _, _, _, _, _, _, _, _, _, _, _ => none
  | M + 1, v6, v8, v12, v13, v1, v10, v11, v14, v15, v2_0, v2_1, v2_2 => Z44 N v6 v8 v12 v13 v1 v10 v11 v14 v15 v2_0 v2_1 v2_2 (fun v6 v8 v12 v13 v1 v10 v11 v14 v15 v2_0 v2_1 v2_2 => Z43L N k6 M v6 v8 v12 v13 v1 v10 v11 v14 v15 v2_0 v2_1 v2_2) k6
def Z43 N v6 v8 v12 v13 v1 v10 v11 v14 v15 v2_0 v2_1 v2_2 k6 := (Z43L N k6 N v6 v8 v12 v13 v1 v10 v11 v14 v15 v2_0 v2_1 v2_2 : Option ρ)
def Z42 N v6 v8 v12 v13 v1 v10 v11 v14 v15 v2_0 v2_1 v2_2 kn := (Z43 N v6 v8 v12 v13 v1 v10 v11 v14 v15 v2_0 v2_1 v2_2 kn : Option ρ)
def Z40 N v6 v8 v12 v13 v1 v10 v11 v14 v2_0 v2_1 v2_2 kn := (Z41 N v6 v8 v12 v13 v1 v10 v11 v14 v2_0 v2_1 v2_2 (fun v6 v8 v12 v13 v1 v10 v11 v14 v15 v2_0 v2_1 v2_2 => Z42 N v6 v8 v12 v13 v1 v10 v11 v14 v15 v2_0 v2_1 v2_2 kn) : Option ρ)
def Z38 N v6 v8 v12 v13 v1 v10 v11 v14 v2_0 v2_1 v2_2 kn := (Z39 N v6 v8 v12 v13 v1 v10 v11 v14 v2_0 v2_1 v2_2 (fun v6 v8 v12 v13 v1 v10 v11 v14 v2_0 v2_1 v2_2 => Z40 N v6 v8 v12 v13 v1 v10 v11 v14 v2_0 v2_1 v2_2 kn) : Option ρ)
def Z37 N v6 v8 v12 v13 v1 v10 v11 v14 v2_0 v2_1 v2_2 kn := (Z38 N v6 v8 v12 v13 v1 v10 v11 v14 v2_0 v2_1 v2_2 kn : Option ρ)
def Z45 {ρ : Type} (N : Nat) (v6 : LM) (v8 v12 : LL) (v13 v1 : LI) (v10 v11 v14 v2_0 v2_1 : Int) (v2_2 : LI) (kn : LM → LL → LL → LI → LI → I5 (LI → Option ρ)) : Option ρ :=
 kn v6 v8 v12 v13 v1 v10 v11 (w64 (v14 + 1)) v2_0 v2_1 v2_2
def Z36 N v6 v8 v12 v13 v1 v10 v11 v14 v2_0 v2_1 v2_2 kn := (Z37 N v6 v8 v12 v13 v1 v10 v11 v14 v2_0 v2_1 v2_2 (fun v6 v8 v12 v13 v1 v10 v11 v14 v2_0 v2_1 v2_2 => Z45 N v6 v8 v12 v13 v1 v10 v11 v14 v2_0 v2_1 v2_2 kn) : Option ρ)
def Z34 N v6 v8 v12 v13 v1 v10 v11 v14 v2_0 v2_1 v2_2 kn k4 := (Z35 N v6 v8 v12 v13 v1 v10 v11 v14 v2_0 v2_1 v2_2 (fun v6 v8 v12 v13 v1 v10 v11 v14 v2_0 v2_1 v2_2 => Z36 N v6 v8 v12 v13 v1 v10 v11 v14 v2_0 v2_1 v2_2 kn) k4 : Option ρ)
def Z33L {ρ : Type} (N : Nat) (k4 : LM → LL → LI → LI → I4 (LI → Option ρ)) : Nat → LM → LL → LL → LI → LI → Int → Int → Int → Int → Int → LI → Option ρ
  | 0, _, _, _, _, _, _, _, _, _, _, _ => none
  | M + 1, v6, v8, v12, v13, v1, v10, v11, v14, v2_0, v2_1, v2_2 => Z34 N v6 v8 v12 v13 v1 v10 v11 v14 v2_0 v2_1 v2_2 (fun v6 v8 v12 v13 v1 v10 v11 v14 v2_0 v2_1 v2_2 => Z33L N k4 M v6 v8 v12 v13 v1 v10 v11 v14 v2_0 v2_1 v2_2) k4
def Z33 N v6 v8 v12 v13 v1 v10 v11 v14 v2_0 v2_1 v2_2 k4 := (Z33L N k4 N v6 v8 v12 v13 v1 v10 v11 v14 v2_0 v2_1 v2_2 : Option ρ)
def Z32 N v6 v8 v12 v13 v1 v10 v11 v14 v2_0 v2_1 v2_2 kn := (Z33 N v6 v8 v12 v13 v1 v10 v11 v14 v2_0 v2_1 v2_2 kn : Option ρ)
def Z30 N v6 v8 v12 v13 v1 v10 v11 v2_0 v2_1 v2_2 kn := (Z31 N v6 v8 v12 v13 v1 v10 v11 v2_0 v2_1 v2_2 (fun v6 v8 v12 v13 v1 v10 v11 v14 v2_0 v2_1 v2_2 => Z32 N v6 v8 v12 v13 v1 v10 v11 v14 v2_0 v2_1 v2_2 kn) : Option ρ)
def Z47 {ρ : Type} (N : Nat) (v6 : LM) (v8 : LL) (v13 v1 : LI) (v10 v11 v2_0 v2_1 : Int) (v2_2 : LI) (kn : LM → LL → LI → LI → I5 (LI → Option ρ)) : Option ρ :=
 kn v6 v8 v13 v1 v10 v11 0 v2_0 v2_1 v2_2
def Z50 {ρ : Type} (N : Nat) (v6 : LM) (v8 : LL) (v13 v1 : LI) (v10 v11 v16 v2_0 v2_1 : Int) (v2_2 : LI) (kn : LM → LL → LI → LI → I5 (LI → Option ρ)) (k8 : LM → LL → LI → I3 (LI → Option ρ)) : Option ρ :=
 cond (lk N (decide (v16 < v2_0)))
 (
  cond (lk N (inB v16 v8.length)) (
   cond (lk N (inB v16 v13.length)) (
    cond (lk N (inB v11 (v8.getD v16.toNat []).length)) (
     kn v6 (v8.set v16.toNat ((v8.getD v16.toNat []).set v11.toNat (v13.getD v16.toNat 0))) v13 v1 v10 v11 (w64 (v16 + 1)) v2_0 v2_1 v2_2) none) none) none)
 (
  k8 v6 v8 v1 v10 v2_0 v2_1 v2_2)
def Z49L {ρ : Type} (N : Nat) (k8 : LM → LL → LI → I3 (LI → Option ρ)) : Nat → LM → LL → LI → LI → Int → Int → Int → Int → Int → LI → Option ρ
  | 0, _, _, _, _, _, _, _, _, _, _ => none
  | M + 1, v6, v8, v13, v1, v10, v11, v16, v2_0, v2_1, v2_2 => Z50 N v6 v8 v13 v1 v10 v11 v16 v2_0 v2_1 v2_2 (fun v6 v8 v13 v1 v10 v11 v16 v2_0 v2_1 v2_2 => Z49L N k8 M v6 v8 v13 v1 v10 v11 v16 v2_0 v2_1 v2_2) k8
def Z49 N v6 v8 v13 v1 v10 v11 v16 v2_0 v2_1 v2_2 k8 := (Z49L N k8 N v6 v8 v13 v1 v10 v11 v16 v2_0 v2_1 v2_2 : Option ρ)
def Z48 N v6 v8 v13 v1 v10 v11 v16 v2_0 v2_1 v2_2 kn := (Z49 N v6 v8 v13 v1 v10 v11 v16 v2_0 v2_1 v2_2 kn : Option ρ)
def Z46 N v6 v8 v13 v1 v10 v11 v2_0 v2_1 v2_2 kn := (Z47 N v6 v8 v13 v1 v10 v11 v2_0 v2_1 v2_2 (fun v6 v8 v13 v1 v10 v11 v16 v2_0 v2_1 v2_2 => Z48 N v6 v8 v13 v1 v10 v11 v16 v2_0 v2_1 v2_2 kn) : Option ρ)
def Z29 N v6 v8 v12 v13 v1 v10 v11 v2_0 v2_1 v2_2 kn := (Z30 N v6 v8 v12 v13 v1 v10 v11 v2_0 v2_1 v2_2 (fun v6 v8 v13 v1 v10 v11 v2_0 v2_1 v2_2 => Z46 N v6 v8 v13 v1 v10 v11 v2_0 v2_1 v2_2 kn) : Option ρ)
def Z27 N v6 v8 v12 v1 v10 v11 v2_0 v2_1 v2_2 kn := (Z28 N v6 v8 v12 v1 v10 v11 v2_0 v2_1 v2_2 (fun v6 v8 v12 v13 v1 v10 v11 v2_0 v2_1 v2_2 => Z29 N v6 v8 v12 v13 v1 v10 v11 v2_0 v2_1 v2_2 kn) : Option ρ)
def Z25 N v6 v8 v1 v10 v11 v2_0 v2_1 v2_2 kn := (Z26 N v6 v8 v1 v10 v11 v2_0 v2_1 v2_2 (fun v6 v8 v12 v1 v10 v11 v2_0 v2_1 v2_2 => Z27 N v6 v8 v12 v1 v10 v11 v2_0 v2_1 v2_2 kn) : Option ρ)
def Z23 N v6 v8 v1 v10 v2_0 v2_1 v2_2 kn := (Z24 N v6 v8 v1 v10 v2_0 v2_1 v2_2 (fun v6 v8 v1 v10 v11 v2_0 v2_1 v2_2 => Z25 N v6 v8 v1 v10 v11 v2_0 v2_1 v2_2 kn) : Option ρ)
def Z22 N v6 v8 v1 v10 v2_0 v2_1 v2_2 kn := (Z23 N v6 v8 v1 v10 v2_0 v2_1 v2_2 kn : Option ρ)
def Z51 {ρ : Type} (N : Nat) (v6 : LM) (v8 : LL) (v1 : LI) (v10 v2_0 v2_1 : Int) (v2_2 : LI) (kn : LM → LL → LI → I3 (LI → Option ρ)) : Option ρ :=
 kn v6 v8 v1 (w64 (v10 + 1)) v2_0 v2_1 v2_2
def Z21 N v6 v8 v1 v10 v2_0 v2_1 v2_2 kn := (Z22 N v6 v8 v1 v10 v2_0 v2_1 v2_2 (fun v6 v8 v1 v10 v2_0 v2_1 v2_2 => Z51 N v6 v8 v1 v10 v2_0 v2_1 v2_2 kn) : Option ρ)
def Z19 N v6 v8 v1 v10 v2_0 v2_1 v2_2 kn k2 := (Z20 N v6 v8 v1 v10 v2_0 v2_1 v2_2 (fun v6 v8 v1 v10 v2_0 v2_1 v2_2 => Z21 N v6 v8 v1 v10 v2_0 v2_1 v2_2 kn) k2 : Option ρ)
def Z18L {ρ : Type} (N : Nat) (k2 : LL → Option ρ) : Nat → LM → LL → LI → Int → Int → Int → LI → Option ρ
  | 0, _, _, _, _, _, _, _ => none
  | M + 1, v6, v8, v1, v10, v2_0, v2_1, v2_2 => Z19 N v6 v8 v1 v10 v2_0 v2_1 v2_2 (fun v6 v8 v1 v10 v2_0 v2_1 v2_2 => Z18L N k2 M v6 v8 v1 v10 v2_0 v2_1 v2_2) k2
def Z18 N v6 v8 v1 v10 v2_0 v2_1 v2_2 k2 := (Z18L N k2 N v6 v8 v1 v10 v2_0 v2_1 v2_2 : Option ρ)
def Z17 N v6 v8 v1 v10 v2_0 v2_1 v2_2 kn := (Z18 N v6 v8 v1 v10 v2_0 v2_1 v2_2 kn : Option ρ)
def Z15 N v6 v8 v1 v2_0 v2_1 v2_2 kn := (Z16 N v6 v8 v1 v2_0 v2_1 v2_2 (fun v6 v8 v1 v10 v2_0 v2_1 v2_2 => Z17 N v6 v8 v1 v10 v2_0 v2_1 v2_2 kn) : Option ρ)
def Z52 {ρ : Type} (N : Nat) (v8 : LL) (kr : LL → Bool → Option ρ) : Option ρ :=
 kr v8 true
def Z14 N v6 v8 v1 v2_0 v2_1 v2_2 kr := (Z15 N v6 v8 v1 v2_0 v2_1 v2_2 (fun v8 => Z52 N v8 kr) : Option ρ)
def Z8 N v6 v8 v1 v2_0 v2_1 v2_2 kr := (Z9 N v6 v8 v1 v2_0 v2_1 v2_2 (fun v6 v8 v1 v2_0 v2_1 v2_2 => Z14 N v6 v8 v1 v2_0 v2_1 v2_2 kr) : Option ρ)
def Z6 N v6 v1 v2_0 v2_1 v2_2 kr := (Z7 N v6 v1 v2_0 v2_1 v2_2 (fun v6 v8 v1 v2_0 v2_1 v2_2 => Z8 N v6 v8 v1 v2_0 v2_1 v2_2 kr) : Option ρ)
def Z4 N v6 v1 v7 v2_0 v2_1 v2_2 kr := (Z5 N v6 v1 v7 v2_0 v2_1 v2_2 (fun v6 v1 v2_0 v2_1 v2_2 => Z6 N v6 v1 v2_0 v2_1 v2_2 kr) kr : Option ρ)
def Z2 N v1 v2_0 v2_1 v2_2 kr := (Z3 N v1 v2_0 v2_1 v2_2 (fun v6 v1 v7 v2_0 v2_1 v2_2 => Z4 N v6 v1 v7 v2_0 v2_1 v2_2 kr) : Option ρ)
def Z0 N v0 v1 kr := (Z1 N v0 v1 (fun v1 v2_0 v2_1 v2_2 => Z2 N v1 v2_0 v2_1 v2_2 kr) : Option ρ)
def Spec : Prop := ∀  (v0 : MT) (v1 : LI), Ty.bd (.pair (.int .i64) (.pair (.int .i64) (.sl 0 (.int .i64)))) v0 → Ty.bd (.sl 0 (.int .i64)) v1 → ∃ N0, ∀ N, N0 ≤ N → Z0 N v0 v1 (fun v4 v5 => some ((), (v4, (v5, ())))) = some ((), ((g v0 v1).1, ((g v0 v1).2, ())))
theorem set_self {l : List Int} {r : Nat} (h : r < l.length) : l.set r (l.getD r 0) = l := by
  rw [List.getD_eq_getElem?_getD, List.getElem?_eq_getElem h, Option.getD_some, List.set_getElem_self]
theorem low_at {p : Int × Int × List Int} {n i k : Nat} (e1 : p.1.toNat = n) (e2 : p.2.1.toNat = 2 * n) (hi : i < n) (hk : k < n) : (lowK p).length = n ∧ ((lowK p).getD i []).length = n ∧ ((lowK p).getD i []).getD k 0 = ent p (n + i) k := by
  have hl : (lowK p).length = n := by simp [lowK]; omega
  have hg : (lowK p).getD i [] = rowK p (n + i) := by
    unfold lowK
    rw [map_getD (by omega), e1]
  refine ⟨hl, ?_, ?_⟩
  · rw [hg]; simp [rowK]; omega
  · rw [hg, rowK]
    exact map_getD (by omega) 0
section
variable {ρ : Type} {N : Nat} {m p : Int × Int × List Int} {k : Nat} {ws : List (Int × Int × List Int)} {ks : List Int}
theorem inner (hm : dimK m = true) (hp : dimK p = true) (e1 : p.1 = m.1) (e2 : p.2.1 = 2 * m.1) (hmr : m.1 ≤ m.2.1) {t : Nat} (ht : t < ws.length) (hpt : ws.getD t (0, (0, [])) = p) {g : List (List Int)} (hg : sqG m.1.toNat g) (hk : k < m.1.toNat) {r : Nat} (hr : r < m.1.toNat)
    (k6 : List (Int × Int × List Int) → List (List Int) → List (List Int) → List Int → List Int → Int → Int → Int → Int → Int → List Int → Option ρ) : ∀ (M i : Nat) (next : List Int) (x : Int), next.length = m.1.toNat → next.getD r 0 = x → inR x → i ≤ m.1.toNat → m.1.toNat - i < M →
    Z43L N k6 M ws g (lowK p) next ks (t : Int) (k : Int) (r : Int) (i : Int) m.1 m.2.1 m.2.2 = k6 ws g (lowK p) (next.set r (((List.range m.1.toNat).drop i).foldl (gvI p m (g.getD r []) k r) x)) ks (t : Int) (k : Int) (r : Int) m.1 m.2.1 m.2.2 := by
  obtain ⟨n, rr, hn, hrr, hn1, hn5, hnr, hr8, hl⟩ := dim_nat hm
  intro M
  induction M with
  | zero => intro i _ _ _ _ _ _ h; omega
  | succ M ih =>
    intro i next x hnl hx hR hi hM
    simp only [Z43L, Z44]
    by_cases h : i < m.1.toNat
    · obtain ⟨l1, l2, l3⟩ := low_at (p := p) (n := m.1.toNat) (by rw [e1]) (by omega) h hk
      have q1 : spec_l1At.P p (i : Int) (k : Int) = true := at_ok hp (show i < p.2.1.toNat by omega) (show k < p.1.toNat by omega)
      have q3 : spec_l1At.P (m.1, (m.2.1, m.2.2)) (r : Int) (i : Int) = true := at_ok hm (by omega) h
      have g1 : spec_l1At.g p (i : Int) (k : Int) = ent p i k := atK_nat (by omega) _ _
      have g3 : spec_l1At.g (m.1, (m.2.1, m.2.2)) (r : Int) (i : Int) = ent m r i := atK_nat (by omega) _ _
      have b1 : inB (r : Int) g.length = true := inB_nat (by rw [hg.1]; exact hr)
      have b2 : inB (i : Int) (g.getD r []).length = true := inB_nat (by rw [hg.2 r hr]; exact h)
      have b3 : inB (r : Int) next.length = true := inB_nat (by rw [hnl]; exact hr)
      have b4 : inB (t : Int) ws.length = true := inB_nat ht
      have b5 : inB (i : Int) (lowK p).length = true := inB_nat (by rw [l1]; exact h)
      have b6 : inB (k : Int) ((lowK p).getD i []).length = true := inB_nat (by rw [l2]; exact hk)
      rw [ct (dt (by omega)), range_drop h, List.foldl_cons]
      simp only [Int.toNat_natCast, hpt, q1, q3, g1, g3, b1, b2, b3, b4, b5, b6, l3, lk_eq, cond_true, hx, gvS_eq hR]
      rw [w64_succ (by rw [maxLen_val]; omega)]
      have := ih (i + 1) (next.set r (gvI p m (g.getD r []) k r x i)) (gvI p m (g.getD r []) k r x i) (by rw [List.length_set]; exact hnl) (getD_set_self (by omega)) (gvI_in hR) h (by omega)
      rw [List.set_set] at this
      exact this
    · rw [cf (df (by omega)), List.drop_of_length_le (by simp; omega), List.foldl_nil, ← hx, set_self (by omega)]
def ncur (m p : Int × Int × List Int) (k : Nat) (g : List (List Int)) (r : Nat) : List Int := upto m.1.toNat r (fun r => gvX p m k r (g.getD r [])) (fun _ => 0)
theorem middle (hN : 10 ≤ N) (hm : dimK m = true) (hp : dimK p = true) (e1 : p.1 = m.1) (e2 : p.2.1 = 2 * m.1) (hmr : m.1 ≤ m.2.1) {t : Nat} (ht : t < ws.length) (hpt : ws.getD t (0, (0, [])) = p) {g : List (List Int)} (hg : sqG m.1.toNat g) (hk : k < m.1.toNat)
    (k4 : List (Int × Int × List Int) → List (List Int) → List Int → List Int → Int → Int → Int → Int → List Int → Option ρ) : ∀ (M r : Nat), r ≤ m.1.toNat → m.1.toNat - r < M →
    Z33L N k4 M ws g (lowK p) (ncur m p k g r) ks (t : Int) (k : Int) (r : Int) m.1 m.2.1 m.2.2 = k4 ws g (ncur m p k g m.1.toNat) ks (t : Int) (k : Int) m.1 m.2.1 m.2.2 := by
  obtain ⟨n, rr, hn, hrr, hn1, hn5, hnr, hr8, hl⟩ := dim_nat hm
  have hnl : ∀ r, (ncur m p k g r).length = m.1.toNat := fun r => upto_len
  intro M
  induction M with
  | zero => intro r _ h; omega
  | succ M ih =>
    intro r hr hM
    simp only [Z33L, Z34, Z35]
    by_cases h : r < m.1.toNat
    · rw [ct (dt (by omega))]
      simp only [Z36, Z37, Z38, Z39]
      rw [ct (inB_nat (by rw [hg.1]; exact h)), Int.toNat_natCast, ct (inB_nat (by rw [hg.2 r h]; exact hk)), ct (inB_nat (by rw [hnl]; exact h))]
      simp only [Z40, Z41, Z42, Z43, Int.toNat_natCast]
      have hin := fun k6 => inner (ρ := ρ) (N := N) (ws := ws) (ks := ks) hm hp e1 e2 hmr ht hpt hg hk h k6 N 0 ((ncur m p k g r).set r (w64 (0 - ((g.getD r []).getD k 0)))) (w64 (0 - ((g.getD r []).getD k 0))) (by rw [List.length_set, hnl]) (getD_set_self (by rw [hnl]; exact h)) (w64_range _) (by omega) (by omega)
      simp only [show ((0 : Nat) : Int) = 0 from rfl, List.drop_zero, List.set_set] at hin
      rw [hin]
      simp only [Z45]
      rw [w64_succ (by rw [maxLen_val]; omega)]
      have hs : (ncur m p k g r).set r ((List.range m.1.toNat).foldl (gvI p m (g.getD r []) k r) (w64 (0 - ((g.getD r []).getD k 0)))) = ncur m p k g (r + 1) := upto_set (F := fun r => gvX p m k r (g.getD r [])) h
      rw [hs]
      exact ih (r + 1) h (by omega)
    · rw [cf (df (by omega)), show r = m.1.toNat by omega]
def cur (m p : Int × Int × List Int) (k : Nat) (g : List (List Int)) (r : Nat) : List (List Int) := upto m.1.toNat r (fun r => gvRow p m k r (g.getD r [])) (fun r => g.getD r [])
theorem cur_sq {g : List (List Int)} (hg : sqG m.1.toNat g) (r : Nat) : sqG m.1.toNat (cur m p k g r) := by
  refine ⟨by simp [cur, upto_len], fun i hi => ?_⟩
  unfold cur
  rw [upto_get hi]
  split
  · rw [gvRow, List.length_set]; exact hg.2 i hi
  · exact hg.2 i hi
theorem copy (hm : dimK m = true) {t : Nat} {g : List (List Int)} (hg : sqG m.1.toNat g) (hk : k < m.1.toNat) (k8 : List (Int × Int × List Int) → List (List Int) → List Int → Int → Int → Int → List Int → Option ρ) : ∀ (M r : Nat), r ≤ m.1.toNat → m.1.toNat - r < M →
    Z49L N k8 M ws (cur m p k g r) (ncur m p k g m.1.toNat) ks (t : Int) (k : Int) (r : Int) m.1 m.2.1 m.2.2 = k8 ws (gvStep p m k g) ks (t : Int) m.1 m.2.1 m.2.2 := by
  obtain ⟨n, rr, hn, hrr, hn1, hn5, hnr, hr8, hl⟩ := dim_nat hm
  have hnl : ∀ r, (ncur m p k g r).length = m.1.toNat := fun r => upto_len
  intro M
  induction M with
  | zero => intro r _ h; omega
  | succ M ih =>
    intro r hr hM
    simp only [Z49L, Z50]
    by_cases h : r < m.1.toNat
    · have hc := cur_sq (p := p) (k := k) hg r
      have hgr : (cur m p k g r).getD r [] = g.getD r [] := by
        unfold cur
        rw [upto_get h, if_neg (by omega)]
      have hn2 : (ncur m p k g m.1.toNat).getD r 0 = gvX p m k r (g.getD r []) := by
        unfold ncur
        rw [upto_get h, if_pos h]
      rw [ct (dt (by omega)), ct (inB_nat (by rw [hc.1]; exact h)), ct (inB_nat (by rw [hnl]; exact h)), Int.toNat_natCast, ct (inB_nat (by rw [hc.2 r h]; exact hk)), hn2, hgr, Int.toNat_natCast, w64_succ (by rw [maxLen_val]; omega)]
      have hs : (cur m p k g r).set r ((g.getD r []).set k (gvX p m k r (g.getD r []))) = cur m p k g (r + 1) := upto_set (F := fun r => gvRow p m k r (g.getD r [])) h
      rw [hs]
      exact ih (r + 1) h (by omega)
    · rw [cf (df (by omega)), show r = m.1.toNat by omega, cur, upto_full]
      rfl
theorem outer (hN : 10 ≤ N) (hm : dimK m = true) (hmr : m.1 ≤ m.2.1) (hw : WalkOk m ws ks) (hk40 : ks.length ≤ 40) (k2 : List (List Int) → Option ρ) : ∀ (M j : Nat) (g : List (List Int)), sqG m.1.toNat g → j ≤ ks.length → ks.length - j < M →
    Z18L N k2 M ws g ks (j : Int) m.1 m.2.1 m.2.2 = k2 (gvAll m (ws.drop j) (ks.drop j) g) := by
  obtain ⟨n, rr, hn, hrr, hn1, hn5, hnr, hr8, hl⟩ := dim_nat hm
  intro M
  induction M with
  | zero => intro j _ _ _ h; omega
  | succ M ih =>
    intro j g hg hj hM
    simp only [Z18L, Z19, Z20]
    by_cases h : j < ks.length
    · obtain ⟨h1, h2⟩ := hw
      obtain ⟨d1, d2, d3, d4, d5⟩ := h2 j h
      obtain ⟨x, hx⟩ := Int.eq_ofNat_of_zero_le d4
      rw [ct (dt (by omega))]
      simp only [Z21, Z22, Z23, Z24]
      rw [ct (inB_nat h)]
      simp only [Z25, Z26]
      rw [ct (inB_nat (by omega)), Int.toNat_natCast, ct (show spec_l4Lower.P (ws.getD j (0, (0, []))) = true from d1), show spec_l4Lower.g (ws.getD j (0, (0, []))) = lowK (ws.getD j (0, (0, []))) from rfl]
      simp only [Z27, Z28]
      rw [ct (by rw [leB_t (by omega), dt (by omega)]; rfl)]
      simp only [Z29, Z30, Z31, Z32, Z33]
      have hmid := fun k4 => middle (ρ := ρ) (N := N) (ks := ks) (k := x) hN hm d1 d2 d3 hmr (by omega) rfl hg (by omega) k4 N 0 (by omega) (by omega)
      have hn0 : ncur m (ws.getD j (0, (0, []))) x g 0 = List.replicate m.1.toNat (0 : Int) := by
        unfold ncur
        rw [upto_zero, List.map_const', List.length_range]
      simp only [hn0, show ((0 : Nat) : Int) = 0 from rfl] at hmid
      rw [hx, hmid]
      simp only [Z46, Z47, Z48, Z49]
      have hcp := fun k8 => copy (ρ := ρ) (N := N) (ws := ws) (ks := ks) (p := ws.getD j (0, (0, []))) (k := x) (t := j) hm hg (by omega) k8 N 0 (by omega) (by omega)
      have hc0 : cur m (ws.getD j (0, (0, []))) x g 0 = g := by
        unfold cur
        rw [upto_zero]
        exact list_map [] hg.1
      simp only [hc0, show ((0 : Nat) : Int) = 0 from rfl] at hcp
      rw [hcp]
      simp only [Z51]
      rw [w64_succ (by rw [maxLen_val]; omega), gvAll_step (by omega) h, hx, Int.toNat_natCast]
      exact ih (j + 1) _ (sq_step hg) h (by omega)
    · rw [cf (df (by omega)), gvAll_end (by omega)]
theorem units (hm : dimK m = true) (k0 : List (Int × Int × List Int) → List (List Int) → List Int → Int → Int → List Int → Option ρ) : ∀ (M i : Nat), i ≤ m.1.toNat → m.1.toNat - i < M →
    Z12L N k0 M ws ((unitG m.1.toNat).take i) ks (i : Int) m.1 m.2.1 m.2.2 = k0 ws (unitG m.1.toNat) ks m.1 m.2.1 m.2.2 := by
  obtain ⟨n, rr, hn, hrr, hn1, hn5, hnr, hr8, hl⟩ := dim_nat hm
  have hul : (unitG m.1.toNat).length = m.1.toNat := by simp [unitG]
  intro M
  induction M with
  | zero => intro i _ h; omega
  | succ M ih =>
    intro i hi hM
    simp only [Z12L, Z13]
    by_cases h : i < m.1.toNat
    · have ha : (unitG m.1.toNat).take i ++ [rowU m.1.toNat i] = (unitG m.1.toNat).take (i + 1) := car_take (rowU m.1.toNat) h
      have hP : spec_l3Unit.P m.1 (i : Int) = true := by
        simp only [spec_l3Unit.P, Bool.and_eq_true, decide_eq_true_eq]
        omega
      have hg : spec_l3Unit.g m.1 (i : Int) = rowU m.1.toNat i := rfl
      rw [ct (dt (by omega)), ct hP, hg, ct (by rw [Nat.blt_eq, List.length_take, hul, List.length_singleton]; omega), w64_succ (by rw [maxLen_val]; omega), ha]
      exact ih (i + 1) h (by omega)
    · rw [cf (df (by omega)), List.take_of_length_le (by rw [hul]; omega)]
end
theorem walk_ok {m : Int × Int × List Int} {ks : List Int} (h : (spec_l4Along.g m ks).2 = true) : dimK m = true ∧ m.2.1 = m.1 ∧ ks.length ≤ 40 ∧ WalkOk m (spec_l4Along.g m ks).1 ks := by
  obtain ⟨_, _, _, h4, h5⟩ := spec_l4Along.last h
  refine ⟨h5, ?_⟩
  unfold spec_l4Along.g at h ⊢
  split
  · rename_i hc
    rw [if_pos hc] at h
    simp only [Bool.and_eq_true, decide_eq_true_eq] at hc
    exact ⟨hc.1.2.1, h4, walk_all (fun _ _ h => mutG_all h) m ks (princK m) (dim_princ h5 hc.1.2.1 hc.1.2.2) rfl rfl h⟩
  · rename_i hc
    rw [if_neg hc] at h; cases h
theorem sq {m : Int × Int × List Int} {ks : List Int} (h : (g m ks).2 = true) : sqG m.1.toNat (g m ks).1 ∧ dimK m = true := by
  unfold g at h ⊢
  split
  · rename_i hc
    exact ⟨sq_all _ _ _ (sq_unit _), (walk_ok hc).1⟩
  · rename_i hc
    rw [if_neg hc] at h; cases h
theorem ok : Spec := fun m ks hb hv => ⟨ks.length + 10, fun N hN => by
  have e0 : spec_l4Along.g (m.1, (m.2.1, m.2.2)) ks = spec_l4Along.g m ks := rfl
  simp only [Z0, Z1, Z2, Z3, e0, Z4, Z5, lk_eq]
  by_cases h : (spec_l4Along.g m ks).2 = true
  · obtain ⟨h1, h2, h3, h4⟩ := walk_ok h
    obtain ⟨n, rr, hn, hrr, hn1, hn5, hnr, hr8, hl⟩ := dim_nat h1
    rw [g, if_pos h, h]
    simp only [Bool.not_true, cond_false, Z6, Z7, Z8, Z9, Z10, Z11, Z12]
    have hu := fun k0 => units (ρ := Unit × List (List Int) × Bool × Unit) (N := N) (ws := (spec_l4Along.g m ks).1) (ks := ks) h1 k0 N 0 (by omega) (by omega)
    simp only [show ((0 : Nat) : Int) = 0 from rfl, List.take_zero] at hu
    rw [hu]
    simp only [Z14, Z15, Z16, Z17, Z18]
    have ho := fun k2 => outer (ρ := Unit × List (List Int) × Bool × Unit) (N := N) (by omega) h1 (by omega) h4 h3 k2 N 0 (unitG m.1.toNat) (sq_unit _) (by omega) (by omega)
    simp only [show ((0 : Nat) : Int) = 0 from rfl, List.drop_zero] at ho
    rw [ho]
    simp only [Z52]
  · have hf : (spec_l4Along.g m ks).2 = false := by
      cases hc : (spec_l4Along.g m ks).2
      · rfl
      · exact absurd hc h
    rw [g, hf]
    rfl⟩
end spec_GVectorsOf
end
end Go.Fw
namespace Go.Fw
noncomputable section
variable {ρ : Type}
namespace impl_unit
def P (n i : Int) : Bool := decide (0 ≤ n) && (decide (n < 1099511627776) && (decide (0 ≤ i) && decide (i < n)))
def g (n i : Int) : List Int := rowU n.toNat i.toNat
end impl_unit
namespace impl_unit
def Z0 {ρ : Type} (N : Nat) (v0 v1 : Int) (kr : LI → Option ρ) : Option ρ :=
 cond (lk N (leB 0 v0 && decide (v0 < 1099511627776))) (
  cond (lk N (inB v1 (List.replicate v0.toNat (0 : Int)).length)) (
   kr ((List.replicate v0.toNat (0 : Int)).set v1.toNat 1)) none) none
def Spec : Prop := ∀  (v0 v1 : Int), P v0 v1 = true → ∃ N0, ∀ N, N0 ≤ N → Z0 N v0 v1 (fun v4 => some ((), (v4, ()))) = some ((), ((g v0 v1), ()))
theorem ok : Spec := fun n i hp => ⟨0, fun N hN => by
  simp only [P, Bool.and_eq_true, decide_eq_true_eq] at hp
  obtain ⟨h1, h2, h3, h4⟩ := hp
  simp only [Z0]
  rw [ct (by rw [leB_t h1, dt h2]; rfl), ct (inB_int h3 (by rw [List.length_replicate]; omega)), set_row (by omega)]
  rfl⟩
end impl_unit
end
end Go.Fw
namespace Go.Fw
noncomputable section
variable {ρ : Type}
namespace impl_GVectorsOf
def g (m : Int × Int × List Int) (ks : List Int) : List (List Int) × Bool :=
  if (impl_walk.g m ks).2 = true then (gvAll m (impl_walk.g m ks).1 ks (unitG m.1.toNat), true) else ([], false)
end impl_GVectorsOf
namespace impl_GVectorsOf
def Z1 {ρ : Type} (N : Nat) (v0 : MT) (v1 : LI) (kn : LI → I2 (LI → Option ρ)) : Option ρ :=
 kn v1 v0.1 v0.2.1 v0.2.2
def Z3 {ρ : Type} (N : Nat) (v1 : LI) (v2_0 v2_1 : Int) (v2_2 : LI) (kn : LM → LI → Bool → I2 (LI → Option ρ)) : Option ρ :=
 kn (impl_walk.g (v2_0, (v2_1, v2_2)) v1).1 v1 (lk N ((impl_walk.g (v2_0, (v2_1, v2_2)) v1).2)) v2_0 v2_1 v2_2
def Z5 {ρ : Type} (N : Nat) (v6 : LM) (v1 : LI) (v7 : Bool) (v2_0 v2_1 : Int) (v2_2 : LI) (kn : LM → LI → I2 (LI → Option ρ)) (kr : LL → Bool → Option ρ) : Option ρ :=
 cond (!(v7))
 (
  kr ([] : List (LI)) false)
 (
  kn v6 v1 v2_0 v2_1 v2_2)
def Z7 {ρ : Type} (N : Nat) (v6 : LM) (v1 : LI) (v2_0 v2_1 : Int) (v2_2 : LI) (kn : LM → LI → I3 (LI → Option ρ)) : Option ρ :=
 kn v6 v1 v2_0 v2_0 v2_1 v2_2
def Z9 {ρ : Type} (N : Nat) (v6 : LM) (v1 : LI) (v8 v2_0 v2_1 : Int) (v2_2 : LI) (kn : LM → LI → I3 (LI → Option ρ)) : Option ρ :=
 kn v6 v1 v8 v2_0 v2_1 v2_2
def Z12 {ρ : Type} (N : Nat) (v6 : LM) (v1 : LI) (v8 v2_0 v2_1 : Int) (v2_2 : LI) (kn : LM → LI → I4 (LI → Option ρ)) : Option ρ :=
 kn v6 v1 v8 0 v2_0 v2_1 v2_2
def Z15 {ρ : Type} (N : Nat) (v6 : LM) (v9 : LL) (v1 : LI) (v8 v10 v2_0 v2_1 : Int) (v2_2 : LI) (kn : LM → LL → LI → I4 (LI → Option ρ)) (k0 : LM → LL → LI → I3 (LI → Option ρ)) : Option ρ :=
 cond (lk N (decide (v10 < v8)))
 (
  cond (lk N (impl_unit.P v8 v10)) (
   cond (lk N (Nat.blt (v9.length + ([(impl_unit.g v8 v10)] : List (LI)).length) 1099511627776)) (
    kn v6 (v9 ++ ([(impl_unit.g v8 v10)] : List (LI))) v1 v8 (w64 (v10 + 1)) v2_0 v2_1 v2_2) none) none)
 (
  k0 v6 v9 v1 v8 v2_0 v2_1 v2_2)
def Z14L {ρ : Type} (N : Nat) (k0 : LM → LL → LI → I3 (LI → Option ρ)) : Nat → LM → LL → LI → Int → Int → Int → Int → LI → Option ρ
  | 0, _, _, _, _, _, _, _, _ => none
  | M + 1, v6, v9, v1, v8, v10, v2_0, v2_1, v2_2 => Z15 N v6 v9 v1 v8 v10 v2_0 v2_1 v2_2 (fun v6 v9 v1 v8 v10 v2_0 v2_1 v2_2 => Z14L N k0 M v6 v9 v1 v8 v10 v2_0 v2_1 v2_2) k0
def Z14 N v6 v1 v8 v10 v2_0 v2_1 v2_2 k0 := (Z14L N k0 N v6 ([] : List (LI)) v1 v8 v10 v2_0 v2_1 v2_2 : Option ρ)
def Z13 N v6 v1 v8 v10 v2_0 v2_1 v2_2 kn := (Z14 N v6 v1 v8 v10 v2_0 v2_1 v2_2 kn : Option ρ)
def Z11 N v6 v1 v8 v2_0 v2_1 v2_2 kn := (Z12 N v6 v1 v8 v2_0 v2_1 v2_2 (fun v6 v1 v8 v10 v2_0 v2_1 v2_2 => Z13 N v6 v1 v8 v10 v2_0 v2_1 v2_2 kn) : Option ρ)
def Z18 {ρ : Type} (N : Nat) (v6 : LM) (v9 : LL) (v1 : LI) (v8 v2_0 v2_1 : Int) (v2_2 : LI) (kn : LM → LL → Int → LI → I4 (LI → Option ρ)) : Option ρ :=
 kn v6 v9 v8 v1 (v1.length : Int) 0 v2_0 v2_1 v2_2
def Z22 {ρ : Type} (N : Nat) (v6 : LM) (v9 : LL) (v8 : Int) (v40 : LI) (v41 v42 v2_0 v2_1 : Int) (v2_2 : LI) (kn : LM → LL → Int → LI → I2 (Bool → I2 (LI → Option ρ))) : Option ρ :=
 kn v6 v9 v8 v40 v41 v42 (lk N (decide (v42 < v41))) v2_0 v2_1 v2_2
def Z24 {ρ : Type} (N : Nat) (v6 : LM) (v9 : LL) (v8 : Int) (v40 : LI) (v41 v42 : Int) (v43 : Bool) (v2_0 v2_1 : Int) (v2_2 : LI) (kn : LM → LL → Int → LI → I4 (LI → Option ρ)) (k2 : LL → Option ρ) : Option ρ :=
 cond (v43)
 (
  kn v6 v9 v8 v40 v41 v42 v2_0 v2_1 v2_2)
 (
  k2 v9)
def Z28 {ρ : Type} (N : Nat) (v6 : LM) (v9 : LL) (v8 : Int) (v40 : LI) (v41 v42 v2_0 v2_1 : Int) (v2_2 : LI) (kn : LM → LL → I3 (LI → I4 (LI → Option ρ))) : Option ρ :=
 cond (lk N (inB v42 v40.length)) (
  kn v6 v9 v8 v42 (v40.getD v42.toNat 0) v40 v41 v42 v2_0 v2_1 v2_2) none
def Z30 {ρ : Type} (N : Nat) (v6 : LM) (v9 : LL) (v8 v11 v12 : Int) (v40 : LI) (v41 v42 v2_0 v2_1 : Int) (v2_2 : LI) (kn : LM → LL → I2 (LI → I4 (LI → I2 (LI → Option ρ)))) : Option ρ :=
 cond (lk N (inB v11 v6.length)) (
  kn v6 v9 v8 v12 v40 v41 v42 v2_0 v2_1 v2_2 (v6.getD v11.toNat (0, (0, []))).1 (v6.getD v11.toNat (0, (0, []))).2.1 (v6.getD v11.toNat (0, (0, []))).2.2) none
def Z32 {ρ : Type} (N : Nat) (v6 : LM) (v9 : LL) (v8 v12 : Int) (v40 : LI) (v41 v42 v2_0 v2_1 : Int) (v2_2 : LI) (v13_0 v13_1 : Int) (v13_2 : LI) (kn : LM → LL → I2 (LI → I6 (LI → I2 (LI → Option ρ)))) : Option ρ :=
 kn v6 v9 v8 v12 v40 v41 v42 (v9.length : Int) 0 v2_0 v2_1 v2_2 v13_0 v13_1 v13_2
def Z36 {ρ : Type} (N : Nat) (v6 : LM) (v9 : LL) (v8 v12 : Int) (v40 : LI) (v41 v42 v52 v53 v2_0 v2_1 : Int) (v2_2 : LI) (v13_0 v13_1 : Int) (v13_2 : LI) (kn : LM → LL → I2 (LI → I4 (Bool → I2 (LI → I2 (LI → Option ρ))))) : Option ρ :=
 kn v6 v9 v8 v12 v40 v41 v42 v52 v53 (lk N (decide (v53 < v52))) v2_0 v2_1 v2_2 v13_0 v13_1 v13_2
def Z38 {ρ : Type} (N : Nat) (v6 : LM) (v9 : LL) (v8 v12 : Int) (v40 : LI) (v41 v42 v52 v53 : Int) (v54 : Bool) (v2_0 v2_1 : Int) (v2_2 : LI) (v13_0 v13_1 : Int) (v13_2 : LI) (kn : LM → LL → I2 (LI → I6 (LI → I2 (LI → Option ρ)))) (k4 : LM → LL → Int → LI → I4 (LI → Option ρ)) : Option ρ :=
 cond (v54)
 (
  kn v6 v9 v8 v12 v40 v41 v42 v52 v53 v2_0 v2_1 v2_2 v13_0 v13_1 v13_2)
 (
  k4 v6 v9 v8 v40 v41 v42 v2_0 v2_1 v2_2)
def Z42 {ρ : Type} (N : Nat) (v6 : LM) (v9 : LL) (v8 v12 : Int) (v40 : LI) (v41 v42 v52 v53 v2_0 v2_1 : Int) (v2_2 : LI) (v13_0 v13_1 : Int) (v13_2 : LI) (kn : LM → LL → I3 (LI → I6 (LI → I2 (LI → Option ρ)))) : Option ρ :=
 kn v6 v9 v8 v12 v53 v40 v41 v42 v52 v53 v2_0 v2_1 v2_2 v13_0 v13_1 v13_2
def Z44 {ρ : Type} (N : Nat) (v6 : LM) (v9 : LL) (v8 v12 v14 : Int) (v40 : LI) (v41 v42 v52 v53 v2_0 v2_1 : Int) (v2_2 : LI) (v13_0 v13_1 : Int) (v13_2 : LI) (kn : LM → LL → I4 (LI → I6 (LI → I2 (LI → Option ρ)))) : Option ρ :=
 cond (lk N (inB v14 v9.length)) (
  cond (lk N (inB v12 (v9.getD v14.toNat []).length)) (
   kn v6 v9 v8 v12 v14 (w64 (0 - ((v9.getD v14.toNat []).getD v12.toNat 0))) v40 v41 v42 v52 v53 v2_0 v2_1 v2_2 v13_0 v13_1 v13_2) none) none
def Z47 {ρ : Type} (N : Nat) (v6 : LM) (v9 : LL) (v8 v12 v14 v15 : Int) (v40 : LI) (v41 v42 v52 v53 v2_0 v2_1 : Int) (v2_2 : LI) (v13_0 v13_1 : Int) (v13_2 : LI) (kn : LM → LL → I5 (LI → I6 (LI → I2 (LI → Option ρ)))) : Option ρ :=
 kn v6 v9 v8 v12 v14 v15 0 v40 v41 v42 v52 v53 v2_0 v2_1 v2_2 v13_0 v13_1 v13_2
def Z50 {ρ : Type} (N : Nat) (v6 : LM) (v9 : LL) (v8 v12 v14 v15 v16 : Int) (v40 : LI) (v41 v42 v52 v53 v2_0 v2_1 : Int) (v2_2 : LI) (v13_0 v13_1 : Int) (v13_2 : LI) (kn : LM → LL → I5 (LI → I6 (LI → I2 (LI → Option ρ)))) (k6 : LM → LL → I4 (LI → I6 (LI → I2 (LI → Option ρ)))) : Option ρ :=
 cond (lk N (decide (v16 < v8)))
 (
  cond (lk N (impl_Matrix_at.P (v13_0, (v13_1, v13_2)) v16 v12)) (
   cond (lk N (decide (0 < (impl_Matrix_at.g (v13_0, (v13_1, v13_2)) v16 v12))))
   (
    cond (lk N (inB v14 v9.length)) (
     cond (lk N (inB v16 (v9.getD v14.toNat []).length)) (
      cond (lk N (impl_Matrix_at.P (v13_0, (v13_1, v13_2)) (w64 (v8 + v16)) v12)) (
       cond (lk N (decide (0 < (impl_Matrix_at.g (v13_0, (v13_1, v13_2)) (w64 (v8 + v16)) v12))))
       (
        cond (lk N (impl_Matrix_at.P (v2_0, (v2_1, v2_2)) v14 v16)) (
         kn v6 v9 v8 v12 v14 (w64 ((w64 (v15 + (w64 ((impl_Matrix_at.g (v13_0, (v13_1, v13_2)) v16 v12) * ((v9.getD v14.toNat []).getD v16.toNat 0))))) - (w64 ((impl_Matrix_at.g (v13_0, (v13_1, v13_2)) (w64 (v8 + v16)) v12) * (impl_Matrix_at.g (v2_0, (v2_1, v2_2)) v14 v16))))) (w64 (v16 + 1)) v40 v41 v42 v52 v53 v2_0 v2_1 v2_2 v13_0 v13_1 v13_2) none)
       (
        kn v6 v9 v8 v12 v14 (w64 (v15 + (w64 ((impl_Matrix_at.g (v13_0, (v13_1, v13_2)) v16 v12) * ((v9.getD v14.toNat []).getD v16.toNat 0))))) (w64 (v16 + 1)) v40 v41 v42 v52 v53 v2_0 v2_1 v2_2 v13_0 v13_1 v13_2)) none) none) none)
   (
    cond (lk N (impl_Matrix_at.P (v13_0, (v13_1, v13_2)) (w64 (v8 + v16)) v12)) (
     cond (lk N (decide (0 < (impl_Matrix_at.g (v13_0, (v13_1, v13_2)) (w64 (v8 + v16)) v12))))
     (
      cond (lk N (impl_Matrix_at.P (v2_0, (v2_1, v2_2)) v14 v16)) (
       kn v6 v9 v8 v12 v14 (w64 (v15 - (w64 ((impl_Matrix_at.g (v13_0, (v13_1, v13_2)) (w64 (v8 + v16)) v12) * (impl_Matrix_at.g (v2_0, (v2_1, v2_2)) v14 v16))))) (w64 (v16 + 1)) v40 v41 v42 v52 v53 v2_0 v2_1 v2_2 v13_0 v13_1 v13_2) none)
     (
      kn v6 v9 v8 v12 v14 v15 (w64 (v16 + 1)) v40 v41 v42 v52 v53 v2_0 v2_1 v2_2 v13_0 v13_1 v13_2)) none)) none)
 (
  k6 v6 v9 v8 v12 v14 v15 v40 v41 v42 v52 v53 v2_0 v2_1 v2_2 v13_0 v13_1 v13_2)
def Z49L {ρ : Type} (N : Nat) (k6 : LM → LL → I4 (LI → I6 (LI → I2 (LI → Option ρ)))) : Nat → LM → LL → Int → Int → Int → Int → Int → LI → Int → Int → Int → Int → Int → Int → LI → Int → Int → LI → Option ρ
  | 0, _, _, _, _, _, _, _, _, _, _, _, _, _, _, _, _, _, _ => none
  | M + 1, v6, v9, v8, v12, v14, v15, v16, v40, v41, v42, v52, v53, v2_0, v2_1, v2_2, v13_0, v13_1, v13_2 => Z50 N v6 v9 v8 v12 v14 v15 v16 v40 v41 v42 v52 v53 v2_0 v2_1 v2_2 v13_0 v13_1 v13_2 (fun v6 v9 v8 v12 v14 v15 v16 v40 v41 v42 v52 v53 v2_0 v2_1 v2_2 v13_0 v13_1 v13_2 => Z49L N k6 M v6 v9 v8 v12 v14 v15 v16 v40 v41 v42 v52 v53 v2_0 v2_1 v2_2 v13_0 v13_1 v13_2) k6
def Z49 N v6 v9 v8 v12 v14 v15 v16 v40 v41 v42 v52 v53 v2_0 v2_1 v2_2 v13_0 v13_1 v13_2 k6 := (Z49L N k6 N v6 v9 v8 v12 v14 v15 v16 v40 v41 v42 v52 v53 v2_0 v2_1 v2_2 v13_0 v13_1 v13_2 : Option ρ)
def Z48 N v6 v9 v8 v12 v14 v15 v16 v40 v41 v42 v52 v53 v2_0 v2_1 v2_2 v13_0 v13_1 v13_2 kn := (Z49 N v6 v9 v8 v12 v14 v15 v16 v40 v41 v42 v52 v53 v2_0 v2_1 v2_2 v13_0 v13_1 v13_2 kn : Option ρ)
def Z46 N v6 v9 v8 v12 v14 v15 v40 v41 v42 v52 v53 v2_0 v2_1 v2_2 v13_0 v13_1 v13_2 kn := (Z47 N v6 v9 v8 v12 v14 v15 v40 v41 v42 v52 v53 v2_0 v2_1 v2_2 v13_0 v13_1 v13_2 (fun v6 v9 v8 v12 v14 v15 v16 v40 v41 v42 v52 v53 v2_0 v2_1 v2_2 v13_0 v13_1 v13_2 => Z48 N v6 v9 v8 v12 v14 v15 v16 v40 v41 v42 v52 v53 v2_0 v2_1 v2_2 v13_0 v13_1 v13_2 kn) : Option ρ)
def Z51 {ρ : Type} (N : Nat) (v6 : LM) (v9 : LL) (v8 v12 v14 v15 : Int) (v40 : LI) (v41 v42 v52 v53 v2_0 v2_1 : Int) (v2_2 : LI) (v13_0 v13_1 : Int) (v13_2 : LI) (kn : LM → LL → I2 (LI → I6 (LI → I2 (LI → Option ρ)))) : Option ρ :=
 cond (lk N (inB v14 v9.length)) (
  cond (lk N (inB v12 (v9.getD v14.toNat []).length)) (
   kn v6 (v9.set v14.toNat ((v9.getD v14.toNat []).set v12.toNat v15)) v8 v12 v40 v41 v42 v52 v53 v2_0 v2_1 v2_2 v13_0 v13_1 v13_2) none) none
def Z45 N v6 v9 v8 v12 v14 v15 v40 v41 v42 v52 v53 v2_0 v2_1 v2_2 v13_0 v13_1 v13_2 kn := (Z46 N v6 v9 v8 v12 v14 v15 v40 v41 v42 v52 v53 v2_0 v2_1 v2_2 v13_0 v13_1 v13_2 (fun v6 v9 v8 v12 v14 v15 v40 v41 v42 v52 v53 v2_0 v2_1 v2_2 v13_0 v13_1 v13_2 => Z51 N v6 v9 v8 v12 v14 v15 v40 v41 v42 v52 v53 v2_0 v2_1 v2_2 v13_0 v13_1 v13_2 kn) : Option ρ)
def Z43 N v6 v9 v8 v12 v14 v40 v41 v42 v52 v53 v2_0 v2_1 v2_2 v13_0 v13_1 v13_2 kn := (Z44 N v6 v9 v8 v12 v14 v40 v41 v42 v52 v53 v2_0 v2_1 v2_2 v13_0 v13_1 v13_2 (fun v6 v9 v8 v12 v14 v15 v40 v41 v42 v52 v53 v2_0 v2_1 v2_2 v13_0 v13_1 v13_2 => Z45 N v6 v9 v8 v12 v14 v15 v40 v41 v42 v52 v53 v2_0 v2_1 v2_2 v13_0 v13_1 v13_2 kn) : Option ρ)
def Z41 N v6 v9 v8 v12 v40 v41 v42 v52 v53 v2_0 v2_1 v2_2 v13_0 v13_1 v13_2 kn := (Z42 N v6 v9 v8 v12 v40 v41 v42 v52 v53 v2_0 v2_1 v2_2 v13_0 v13_1 v13_2 (fun v6 v9 v8 v12 v14 v40 v41 v42 v52 v53 v2_0 v2_1 v2_2 v13_0 v13_1 v13_2 => Z43 N v6 v9 v8 v12 v14 v40 v41 v42 v52 v53 v2_0 v2_1 v2_2 v13_0 v13_1 v13_2 kn) : Option ρ)
def Z40 N v6 v9 v8 v12 v40 v41 v42 v52 v53 v2_0 v2_1 v2_2 v13_0 v13_1 v13_2 kn := (Z41 N v6 v9 v8 v12 v40 v41 v42 v52 v53 v2_0 v2_1 v2_2 v13_0 v13_1 v13_2 kn : Option ρ)
def Z52 {ρ : Type} (N : Nat) (v6 : LM) (v9 : LL) (v8 v12 : Int) (v40 : LI) (v41 v42 v52 v53 v2_0 v2_1 : Int) (v2_2 : LI) (v13_0 v13_1 : Int) (v13_2 : LI) (kn : LM → LL → I2 (LI → I6 (LI → I2 (LI → Option ρ)))) : Option ρ :=
 kn v6 v9 v8 v12 v40 v41 v42 v52 (w64 (v53 + 1)) v2_0 v2_1 v2_2 v13_0 v13_1 v13_2
def Z39 N v6 v9 v8 v12 v40 v41 v42 v52 v53 v2_0 v2_1 v2_2 v13_0 v13_1 v13_2 kn := (Z40 N v6 v9 v8 v12 v40 v41 v42 v52 v53 v2_0 v2_1 v2_2 v13_0 v13_1 v13_2 (fun v6 v9 v8 v12 v40 v41 v42 v52 v53 v2_0 v2_1 v2_2 v13_0 v13_1 v13_2 => Z52 N v6 v9 v8 v12 v40 v41 v42 v52 v53 v2_0 v2_1 v2_2 v13_0 v13_1 v13_2 kn) : Option ρ)
def Z37 N v6 v9 v8 v12 v40 v41 v42 v52 v53 v54 v2_0 v2_1 v2_2 v13_0 v13_1 v13_2 kn k4 := (Z38 N v6 v9 v8 v12 v40 v41 v42 v52 v53 v54 v2_0 v2_1 v2_2 v13_0 v13_1 v13_2 (fun v6 v9 v8 v12 v40 v41 v42 v52 v53 v2_0 v2_1 v2_2 v13_0 v13_1 v13_2 => Z39 N v6 v9 v8 v12 v40 v41 v42 v52 v53 v2_0 v2_1 v2_2 v13_0 v13_1 v13_2 kn) k4 : Option ρ)
def Z35 N v6 v9 v8 v12 v40 v41 v42 v52 v53 v2_0 v2_1 v2_2 v13_0 v13_1 v13_2 kn k4 := (Z36 N v6 v9 v8 v12 v40 v41 v42 v52 v53 v2_0 v2_1 v2_2 v13_0 v13_1 v13_2 (fun v6 v9 v8 v12 v40 v41 v42 v52 v53 v54 v2_0 v2_1 v2_2 v13_0 v13_1 v13_2 => Z37 N v6 v9 v8 v12 v40 v41 v42 v52 v53 v54 v2_0 v2_1 v2_2 v13_0 v13_1 v13_2 kn k4) : Option ρ)
def Z34L {ρ : Type} (N : Nat) (k4 : LM → LL → Int → LI → I4 (LI → Option ρ)) : Nat → LM → LL → Int → Int → LI → Int → Int → Int → Int → Int → Int → LI → Int → Int → LI → Option ρ
  | 0, _, _, _, _, _, _, _, _, _, _, _, _, _, _, _ => none
  | M + 1, v6, v9, v8, v12, v40, v41, v42, v52, v53, v2_0, v2_1, v2_2, v13_0, v13_1, v13_2 => Z35 N v6 v9 v8 v12 v40 v41 v42 v52 v53 v2_0 v2_1 v2_2 v13_0 v13_1 v13_2 (fun v6 v9 v8 v12 v40 v41 v42 v52 v53 v2_0 v2_1 v2_2 v13_0 v13_1 v13_2 => Z34L N k4 M v6 v9 v8 v12 v40 v41 v42 v52 v53 v2_0 v2_1 v2_2 v13_0 v13_1 v13_2) k4
def Z34 N v6 v9 v8 v12 v40 v41 v42 v52 v53 v2_0 v2_1 v2_2 v13_0 v13_1 v13_2 k4 := (Z34L N k4 N v6 v9 v8 v12 v40 v41 v42 v52 v53 v2_0 v2_1 v2_2 v13_0 v13_1 v13_2 : Option ρ)
def Z33 N v6 v9 v8 v12 v40 v41 v42 v52 v53 v2_0 v2_1 v2_2 v13_0 v13_1 v13_2 kn := (Z34 N v6 v9 v8 v12 v40 v41 v42 v52 v53 v2_0 v2_1 v2_2 v13_0 v13_1 v13_2 kn : Option ρ)
def Z31 N v6 v9 v8 v12 v40 v41 v42 v2_0 v2_1 v2_2 v13_0 v13_1 v13_2 kn := (Z32 N v6 v9 v8 v12 v40 v41 v42 v2_0 v2_1 v2_2 v13_0 v13_1 v13_2 (fun v6 v9 v8 v12 v40 v41 v42 v52 v53 v2_0 v2_1 v2_2 v13_0 v13_1 v13_2 => Z33 N v6 v9 v8 v12 v40 v41 v42 v52 v53 v2_0 v2_1 v2_2 v13_0 v13_1 v13_2 kn) : Option ρ)
def Z29 N v6 v9 v8 v11 v12 v40 v41 v42 v2_0 v2_1 v2_2 kn := (Z30 N v6 v9 v8 v11 v12 v40 v41 v42 v2_0 v2_1 v2_2 (fun v6 v9 v8 v12 v40 v41 v42 v2_0 v2_1 v2_2 v13_0 v13_1 v13_2 => Z31 N v6 v9 v8 v12 v40 v41 v42 v2_0 v2_1 v2_2 v13_0 v13_1 v13_2 kn) : Option ρ)
def Z27 N v6 v9 v8 v40 v41 v42 v2_0 v2_1 v2_2 kn := (Z28 N v6 v9 v8 v40 v41 v42 v2_0 v2_1 v2_2 (fun v6 v9 v8 v11 v12 v40 v41 v42 v2_0 v2_1 v2_2 => Z29 N v6 v9 v8 v11 v12 v40 v41 v42 v2_0 v2_1 v2_2 kn) : Option ρ)
def Z26 N v6 v9 v8 v40 v41 v42 v2_0 v2_1 v2_2 kn := (Z27 N v6 v9 v8 v40 v41 v42 v2_0 v2_1 v2_2 kn : Option ρ)
def Z53 {ρ : Type} (N : Nat) (v6 : LM) (v9 : LL) (v8 : Int) (v40 : LI) (v41 v42 v2_0 v2_1 : Int) (v2_2 : LI) (kn : LM → LL → Int → LI → I4 (LI → Option ρ)) : Option ρ :=
 kn v6 v9 v8 v40 v41 (w64 (v42 + 1)) v2_0 v2_1 v2_2
def Z25 N v6 v9 v8 v40 v41 v42 v2_0 v2_1 v2_2 kn := (Z26 N v6 v9 v8 v40 v41 v42 v2_0 v2_1 v2_2 (fun v6 v9 v8 v40 v41 v42 v2_0 v2_1 v2_2 => Z53 N v6 v9 v8 v40 v41 v42 v2_0 v2_1 v2_2 kn) : Option ρ)
def Z23 N v6 v9 v8 v40 v41 v42 v43 v2_0 v2_1 v2_2 kn k2 := (Z24 N v6 v9 v8 v40 v41 v42 v43 v2_0 v2_1 v2_2 (fun v6 v9 v8 v40 v41 v42 v2_0 v2_1 v2_2 => Z25 N v6 v9 v8 v40 v41 v42 v2_0 v2_1 v2_2 kn) k2 : Option ρ)
def Z21 N v6 v9 v8 v40 v41 v42 v2_0 v2_1 v2_2 kn k2 := (Z22 N v6 v9 v8 v40 v41 v42 v2_0 v2_1 v2_2 (fun v6 v9 v8 v40 v41 v42 v43 v2_0 v2_1 v2_2 => Z23 N v6 v9 v8 v40 v41 v42 v43 v2_0 v2_1 v2_2 kn k2) : Option ρ)
def Z20L {ρ : Type} (N : Nat) (k2 : LL → Option ρ) : Nat → LM → LL → Int → LI → Int → Int → Int → Int → LI → Option ρ
  | 0, _, _, _, _, _, _, _, _, _ => none
  | M + 1, v6, v9, v8, v40, v41, v42, v2_0, v2_1, v2_2 => Z21 N v6 v9 v8 v40 v41 v42 v2_0 v2_1 v2_2 (fun v6 v9 v8 v40 v41 v42 v2_0 v2_1 v2_2 => Z20L N k2 M v6 v9 v8 v40 v41 v42 v2_0 v2_1 v2_2) k2
def Z20 N v6 v9 v8 v40 v41 v42 v2_0 v2_1 v2_2 k2 := (Z20L N k2 N v6 v9 v8 v40 v41 v42 v2_0 v2_1 v2_2 : Option ρ)
def Z19 N v6 v9 v8 v40 v41 v42 v2_0 v2_1 v2_2 kn := (Z20 N v6 v9 v8 v40 v41 v42 v2_0 v2_1 v2_2 kn : Option ρ)
def Z17 N v6 v9 v1 v8 v2_0 v2_1 v2_2 kn := (Z18 N v6 v9 v1 v8 v2_0 v2_1 v2_2 (fun v6 v9 v8 v40 v41 v42 v2_0 v2_1 v2_2 => Z19 N v6 v9 v8 v40 v41 v42 v2_0 v2_1 v2_2 kn) : Option ρ)
def Z54 {ρ : Type} (N : Nat) (v9 : LL) (kr : LL → Bool → Option ρ) : Option ρ :=
 kr v9 true
def Z16 N v6 v9 v1 v8 v2_0 v2_1 v2_2 kr := (Z17 N v6 v9 v1 v8 v2_0 v2_1 v2_2 (fun v9 => Z54 N v9 kr) : Option ρ)
def Z10 N v6 v1 v8 v2_0 v2_1 v2_2 kr := (Z11 N v6 v1 v8 v2_0 v2_1 v2_2 (fun v6 v9 v1 v8 v2_0 v2_1 v2_2 => Z16 N v6 v9 v1 v8 v2_0 v2_1 v2_2 kr) : Option ρ)
def Z8 N v6 v1 v8 v2_0 v2_1 v2_2 kr := (Z9 N v6 v1 v8 v2_0 v2_1 v2_2 (fun v6 v1 v8 v2_0 v2_1 v2_2 => Z10 N v6 v1 v8 v2_0 v2_1 v2_2 kr) : Option ρ)
def Z6 N v6 v1 v2_0 v2_1 v2_2 kr := (Z7 N v6 v1 v2_0 v2_1 v2_2 (fun v6 v1 v8 v2_0 v2_1 v2_2 => Z8 N v6 v1 v8 v2_0 v2_1 v2_2 kr) : Option ρ)
def Z4 N v6 v1 v7 v2_0 v2_1 v2_2 kr := (Z5 N v6 v1 v7 v2_0 v2_1 v2_2 (fun v6 v1 v2_0 v2_1 v2_2 => Z6 N v6 v1 v2_0 v2_1 v2_2 kr) kr : Option ρ)
def Z2 N v1 v2_0 v2_1 v2_2 kr := (Z3 N v1 v2_0 v2_1 v2_2 (fun v6 v1 v7 v2_0 v2_1 v2_2 => Z4 N v6 v1 v7 v2_0 v2_1 v2_2 kr) : Option ρ)
def Z0 N v0 v1 kr := (Z1 N v0 v1 (fun v1 v2_0 v2_1 v2_2 => Z2 N v1 v2_0 v2_1 v2_2 kr) : Option ρ)
def Spec : Prop := ∀  (v0 : MT) (v1 : LI), Ty.bd (.pair (.int .i64) (.pair (.int .i64) (.sl 0 (.int .i64)))) v0 → Ty.bd (.sl 0 (.int .i64)) v1 → ∃ N0, ∀ N, N0 ≤ N → Z0 N v0 v1 (fun v4 v5 => some ((), (v4, (v5, ())))) = some ((), ((g v0 v1).1, ((g v0 v1).2, ())))
section
variable {ρ : Type} {N : Nat} {m p : Int × Int × List Int} {k : Nat} {w : List (Int × Int × List Int)} {ts : List Int} {a b c : Int}
theorem inner (hm : dimK m = true) (hp : dimK p = true) (e1 : p.1 = m.1) (e2 : p.2.1 = 2 * m.1) (hmr : m.1 ≤ m.2.1) {g : List (List Int)} (hg : sqG m.1.toNat g) (hk : k < m.1.toNat) {r : Nat} (hr : r < m.1.toNat) (k6 : List (Int × Int × List Int) → List (List Int) → Int → Int → Int → Int → List Int → Int → Int → Int → Int → Int → Int → List Int → Int → Int → List Int → Option ρ) (d : Int) : ∀ (M i : Nat) (x : Int), i ≤ m.1.toNat → m.1.toNat - i < M →
    Z49L N k6 M w g m.1 (k : Int) (r : Int) x (i : Int) ts a b c d m.1 m.2.1 m.2.2 p.1 p.2.1 p.2.2 = k6 w g m.1 (k : Int) (r : Int) (((List.range m.1.toNat).drop i).foldl (gvI p m (g.getD r []) k r) x) ts a b c d m.1 m.2.1 m.2.2 p.1 p.2.1 p.2.2 := by
  obtain ⟨n, rr, hn, hrr, hn1, hn5, hnr, hr8, hl⟩ := dim_nat hm
  intro M
  induction M with
  | zero => intro i _ _ h; omega
  | succ M ih =>
    intro i x hi hM
    simp only [Z49L, Z50]
    by_cases h : i < m.1.toNat
    · have pw : w64 (m.1 + (i : Int)) = ((m.1.toNat + i : Nat) : Int) := by rw [w64_id (by omega) (by omega)]; omega
      have q1 : impl_Matrix_at.P (p.1, (p.2.1, p.2.2)) (i : Int) (k : Int) = true := at_ok hp (show i < p.2.1.toNat by omega) (show k < p.1.toNat by omega)
      have q2 : impl_Matrix_at.P (p.1, (p.2.1, p.2.2)) ((m.1.toNat + i : Nat) : Int) (k : Int) = true := at_ok hp (show m.1.toNat + i < p.2.1.toNat by omega) (show k < p.1.toNat by omega)
      have q3 : impl_Matrix_at.P (m.1, (m.2.1, m.2.2)) (r : Int) (i : Int) = true := at_ok hm (by omega) h
      have g1 : impl_Matrix_at.g (p.1, (p.2.1, p.2.2)) (i : Int) (k : Int) = ent p i k := atK_nat (by omega) _ _
      have g2 : impl_Matrix_at.g (p.1, (p.2.1, p.2.2)) ((m.1.toNat + i : Nat) : Int) (k : Int) = ent p (m.1.toNat + i) k := atK_nat (by omega) _ _
      have g3 : impl_Matrix_at.g (m.1, (m.2.1, m.2.2)) (r : Int) (i : Int) = ent m r i := atK_nat (by omega) _ _
      have b1 : inB (r : Int) g.length = true := inB_nat (by rw [hg.1]; exact hr)
      have b2 : inB (i : Int) (g.getD r []).length = true := inB_nat (by rw [hg.2 r hr]; exact h)
      rw [ct (dt (by omega)), range_drop h, List.foldl_cons]
      simp only [Int.toNat_natCast, pw, q1, q2, q3, g1, g2, g3, b1, b2, lk_eq, cond_true]
      have fin : ∀ y, y = gvI p m (g.getD r []) k r x i → Z49L N k6 M w g m.1 (k : Int) (r : Int) y (w64 ((i : Int) + 1)) ts a b c d m.1 m.2.1 m.2.2 p.1 p.2.1 p.2.2 = k6 w g m.1 (k : Int) (r : Int) (((List.range m.1.toNat).drop (i + 1)).foldl (gvI p m (g.getD r []) k r) (gvI p m (g.getD r []) k r x i)) ts a b c d m.1 m.2.1 m.2.2 p.1 p.2.1 p.2.2 := by
        intro y hy
        subst hy
        rw [w64_succ (by rw [maxLen_val]; omega)]
        exact ih (i + 1) _ h (by omega)
      by_cases c1 : 0 < ent p i k
      · rw [ct' (dt c1)]
        by_cases c2 : 0 < ent p (m.1.toNat + i) k
        · rw [ct' (dt c2)]
          exact fin _ (by unfold gvI gvB; rw [if_pos c1, if_pos c2])
        · rw [cf' (df c2)]
          exact fin _ (by unfold gvI gvB; rw [if_pos c1, if_neg c2])
      · rw [cf' (df c1)]
        by_cases c2 : 0 < ent p (m.1.toNat + i) k
        · rw [ct' (dt c2)]
          exact fin _ (by unfold gvI gvB; rw [if_neg c1, if_pos c2])
        · rw [cf' (df c2)]
          exact fin _ (by unfold gvI gvB; rw [if_neg c1, if_neg c2])
    · rw [cf (df (by omega)), List.drop_of_length_le (by simp; omega)]
      rfl
def cur (m p : Int × Int × List Int) (k : Nat) (g : List (List Int)) (r : Nat) : List (List Int) := upto m.1.toNat r (fun r => gvRow p m k r (g.getD r [])) (fun r => g.getD r [])
theorem cur_sq {g : List (List Int)} (hg : sqG m.1.toNat g) (r : Nat) : sqG m.1.toNat (cur m p k g r) := by
  refine ⟨by simp [cur, upto_len], fun i hi => ?_⟩
  unfold cur
  rw [upto_get hi]
  split
  · rw [gvRow, List.length_set]; exact hg.2 i hi
  · exact hg.2 i hi
theorem middle (hN : 10 ≤ N) (hm : dimK m = true) (hp : dimK p = true) (e1 : p.1 = m.1) (e2 : p.2.1 = 2 * m.1) (hmr : m.1 ≤ m.2.1) {g : List (List Int)} (hg : sqG m.1.toNat g) (hk : k < m.1.toNat) (k4 : List (Int × Int × List Int) → List (List Int) → Int → List Int → Int → Int → Int → Int → List Int → Option ρ) : ∀ (M r : Nat), r ≤ m.1.toNat → m.1.toNat - r < M →
    Z34L N k4 M w (cur m p k g r) m.1 (k : Int) ts a b m.1 (r : Int) m.1 m.2.1 m.2.2 p.1 p.2.1 p.2.2 = k4 w (gvStep p m k g) m.1 ts a b m.1 m.2.1 m.2.2 := by
  obtain ⟨n, rr, hn, hrr, hn1, hn5, hnr, hr8, hl⟩ := dim_nat hm
  intro M
  induction M with
  | zero => intro r _ h; omega
  | succ M ih =>
    intro r hr hM
    simp only [Z34L, Z35, Z36, Z37, Z38]
    by_cases h : r < m.1.toNat
    · have hc := cur_sq (p := p) (k := k) hg r
      have hgr : (cur m p k g r).getD r [] = g.getD r [] := by
        unfold cur
        rw [upto_get h, if_neg (by omega)]
      rw [ct' (by rw [lk_eq]; exact dt (by omega))]
      simp only [Z39, Z40, Z41, Z42, Z43, Z44]
      rw [ct (inB_nat (by rw [hc.1]; exact h)), Int.toNat_natCast, ct (inB_nat (by rw [hc.2 r h]; exact hk))]
      simp only [Z45, Z46, Z47, Z48, Z49]
      have hin := fun k6 x => inner (ρ := ρ) (N := N) (w := w) (ts := ts) (a := a) (b := b) (c := m.1) hm hp e1 e2 hmr hc hk h k6 (r : Int) N 0 x (by omega) (by omega)
      simp only [show ((0 : Nat) : Int) = 0 from rfl, List.drop_zero] at hin
      rw [hin]
      simp only [Z51]
      rw [ct (inB_nat (by rw [hc.1]; exact h)), Int.toNat_natCast, ct (inB_nat (by rw [hc.2 r h]; exact hk))]
      simp only [Z52, Int.toNat_natCast]
      rw [w64_succ (by rw [maxLen_val]; omega)]
      have hs : (cur m p k g r).set r (((cur m p k g r).getD r []).set k ((List.range m.1.toNat).foldl (gvI p m ((cur m p k g r).getD r []) k r) (w64 (0 - ((cur m p k g r).getD r []).getD k 0)))) = cur m p k g (r + 1) := by
        rw [hgr]
        exact upto_set h
      rw [hs]
      exact ih (r + 1) h (by omega)
    · rw [cf' (by rw [lk_eq]; exact df (by omega)), show r = m.1.toNat by omega, cur, upto_full]
      rfl
theorem outer (hN : 10 ≤ N) (hm : dimK m = true) (hmr : m.1 ≤ m.2.1) {ws : List (Int × Int × List Int)} {ks : List Int} (hw : WalkOk m ws ks) (hk40 : ks.length ≤ 40) (k2 : List (List Int) → Option ρ) : ∀ (M j : Nat) (g : List (List Int)), sqG m.1.toNat g → j ≤ ks.length → ks.length - j < M →
    Z20L N k2 M ws g m.1 ks (ks.length : Int) (j : Int) m.1 m.2.1 m.2.2 = k2 (gvAll m (ws.drop j) (ks.drop j) g) := by
  obtain ⟨n, rr, hn, hrr, hn1, hn5, hnr, hr8, hl⟩ := dim_nat hm
  intro M
  induction M with
  | zero => intro j _ _ _ h; omega
  | succ M ih =>
    intro j g hg hj hM
    simp only [Z20L, Z21, Z22, Z23, Z24]
    by_cases h : j < ks.length
    · obtain ⟨h1, h2⟩ := hw
      obtain ⟨d1, d2, d3, d4, d5⟩ := h2 j h
      obtain ⟨x, hx⟩ := Int.eq_ofNat_of_zero_le d4
      rw [ct' (by rw [lk_eq]; exact dt (by omega))]
      simp only [Z25, Z26, Z27, Z28, Z29, Z30]
      rw [ct (inB_nat h), ct (inB_nat (by omega))]
      simp only [Z31, Z32, Z33, Z34, Int.toNat_natCast, hg.1]
      have hmid := fun k4 => middle (ρ := ρ) (N := N) (w := ws) (ts := ks) (a := (ks.length : Int)) (b := (j : Int)) (k := x) hN hm d1 d2 d3 hmr hg (by omega) k4 N 0 (by omega) (by omega)
      have hc0 : cur m (ws.getD j (0, (0, []))) x g 0 = g := by
        unfold cur
        rw [upto_zero]
        exact list_map [] hg.1
      simp only [hc0, show ((0 : Nat) : Int) = 0 from rfl] at hmid
      rw [hx, show ((m.1.toNat : Nat) : Int) = m.1 by omega, hmid]
      simp only [Z53]
      rw [w64_succ (by rw [maxLen_val]; omega), gvAll_step (by omega) h, hx, Int.toNat_natCast]
      exact ih (j + 1) _ (sq_step hg) h (by omega)
    · rw [cf' (by rw [lk_eq]; exact df (by omega)), gvAll_end (by omega)]
theorem units (hm : dimK m = true) (k0 : List (Int × Int × List Int) → List (List Int) → List Int → Int → Int → Int → List Int → Option ρ) {ws : List (Int × Int × List Int)} {ks : List Int} : ∀ (M i : Nat), i ≤ m.1.toNat → m.1.toNat - i < M →
    Z14L N k0 M ws ((unitG m.1.toNat).take i) ks m.1 (i : Int) m.1 m.2.1 m.2.2 = k0 ws (unitG m.1.toNat) ks m.1 m.1 m.2.1 m.2.2 := by
  obtain ⟨n, rr, hn, hrr, hn1, hn5, hnr, hr8, hl⟩ := dim_nat hm
  have hul : (unitG m.1.toNat).length = m.1.toNat := by simp [unitG]
  intro M
  induction M with
  | zero => intro i _ h; omega
  | succ M ih =>
    intro i hi hM
    simp only [Z14L, Z15]
    by_cases h : i < m.1.toNat
    · have ha : (unitG m.1.toNat).take i ++ [rowU m.1.toNat i] = (unitG m.1.toNat).take (i + 1) := car_take (rowU m.1.toNat) h
      have hP : impl_unit.P m.1 (i : Int) = true := by
        simp only [impl_unit.P, Bool.and_eq_true, decide_eq_true_eq]
        omega
      have hg : impl_unit.g m.1 (i : Int) = rowU m.1.toNat i := rfl
      rw [ct (dt (by omega)), ct hP, hg, ct (by rw [Nat.blt_eq, List.length_take, hul, List.length_singleton]; omega), w64_succ (by rw [maxLen_val]; omega), ha]
      exact ih (i + 1) h (by omega)
    · rw [cf (df (by omega)), List.take_of_length_le (by rw [hul]; omega)]
end
theorem walk_ok {m : Int × Int × List Int} {ks : List Int} (h : (impl_walk.g m ks).2 = true) : dimK m = true ∧ m.2.1 = m.1 ∧ ks.length ≤ 40 ∧ WalkOk m (impl_walk.g m ks).1 ks := by
  have hf : ∀ (m : Int × Int × List Int) (k : Int), (impl_MutateMatrix.g m k).2 = true → dimK (impl_MutateMatrix.g m k).1 = true ∧ (impl_MutateMatrix.g m k).1.1 = m.1 ∧ (impl_MutateMatrix.g m k).1.2.1 = m.2.1 ∧ 0 ≤ k ∧ k < m.1 := by
    intro m k h
    obtain ⟨h1, h2⟩ := impl_walk.dim_f h
    refine ⟨h1, h2, ?_⟩
    unfold impl_MutateMatrix.g at h ⊢
    split
    · rename_i hc
      simp only [Bool.and_eq_true] at hc
      have := inK_iff.1 hc.2.1
      exact ⟨rfl, by omega, by omega⟩
    · rename_i hc
      rw [if_neg hc] at h; cases h
  obtain ⟨_, _, _, h4, h5⟩ := impl_walk.last h
  refine ⟨h5, ?_⟩
  unfold impl_walk.g at h ⊢
  split
  · rename_i hc
    rw [if_pos hc] at h
    rw [Bool.and_eq_true, decide_eq_true_eq] at hc
    obtain ⟨hc, hk⟩ := hc
    unfold impl_PrincipalMatrix.g at hc h ⊢
    split
    · rename_i hq
      rw [if_pos hq] at h
      simp only [Bool.and_eq_true, decide_eq_true_eq] at hq
      exact ⟨hq.2.1, h4, walk_all hf m ks (princK m) (dim_princ h5 hq.2.1 hq.2.2) rfl rfl h⟩
    · rename_i hq
      rw [if_neg hq] at hc; cases hc
  · rename_i hc
    rw [if_neg hc] at h; cases h
theorem ok : Spec := fun m ks hb hv => ⟨ks.length + 10, fun N hN => by
  have e0 : impl_walk.g (m.1, (m.2.1, m.2.2)) ks = impl_walk.g m ks := rfl
  simp only [Z0, Z1, Z2, Z3, e0, Z4, Z5, lk_eq]
  by_cases h : (impl_walk.g m ks).2 = true
  · obtain ⟨h1, h2, h3, h4⟩ := walk_ok h
    obtain ⟨n, rr, hn, hrr, hn1, hn5, hnr, hr8, hl⟩ := dim_nat h1
    rw [g, if_pos h, h]
    simp only [Bool.not_true, cond_false, Z6, Z7, Z8, Z9, Z10, Z11, Z12, Z13, Z14]
    have hu := fun k0 => units (ρ := Unit × List (List Int) × Bool × Unit) (N := N) (ws := (impl_walk.g m ks).1) (ks := ks) h1 k0 N 0 (by omega) (by omega)
    simp only [show ((0 : Nat) : Int) = 0 from rfl, List.take_zero] at hu
    rw [hu]
    simp only [Z16, Z17, Z18, Z19, Z20]
    have ho := fun k2 => outer (ρ := Unit × List (List Int) × Bool × Unit) (N := N) (by omega) h1 (by omega) h4 h3 k2 N 0 (unitG m.1.toNat) (sq_unit _) (by omega) (by omega)
    simp only [show ((0 : Nat) : Int) = 0 from rfl, List.drop_zero] at ho
    rw [ho]
    simp only [Z54]
  · have hf : (impl_walk.g m ks).2 = false := by
      cases hc : (impl_walk.g m ks).2
      · rfl
      · exact absurd hc h
    rw [g, hf]
    rfl⟩
end impl_GVectorsOf
end
end Go.Fw
namespace Go.Fw
noncomputable section
variable {ρ : Type}
namespace laws_eqIntS
def g (a b : List Int) : Bool := decide (a = b)
end laws_eqIntS
namespace laws_eqIntS
def Z1 {ρ : Type} (N : Nat) (v0 v1 : LI) (kn : LI → LI → Option ρ) : Option ρ :=
 kn v0 v1
def Z3 {ρ : Type} (N : Nat) (v0 v1 : LI) (kn : LI → LI → Option ρ) (kr : Bool → Option ρ) : Option ρ :=
 cond (lk N (!(decide ((v0.length : Int) = (v1.length : Int)))))
 (
  kr false)
 (
  kn v0 v1)
def Z6 {ρ : Type} (N : Nat) (v0 v1 : LI) (kn : LI → LI → Int → Option ρ) : Option ρ :=
 kn v0 v1 0
def Z9 {ρ : Type} (N : Nat) (v0 v1 : LI) (v5 : Int) (kn : LI → LI → Int → Option ρ) (k0 : Option ρ) (kr : Bool → Option ρ) : Option ρ :=
 cond (lk N (decide (v5 < (v0.length : Int))))
 (
  cond (lk N (inB v5 v0.length)) (
   cond (lk N (inB v5 v1.length)) (
    cond (lk N (!(decide ((v0.getD v5.toNat 0) = (v1.getD v5.toNat 0)))))
    (
     kr false)
    (
     kn v0 v1 (w64 (v5 + 1)))) none) none)
 (
  k0)
def Z8L {ρ : Type} (N : Nat) (k0 : Option ρ) (kr : Bool → Option ρ) : Nat → LI → LI → Int → Option ρ
  | 0, _, _, _ => none
  | M + 1, v0, v1, v5 => Z9 N v0 v1 v5 (fun v0 v1 v5 => Z8L N k0 kr M v0 v1 v5) k0 kr
def Z8 N v0 v1 v5 k0 kr := (Z8L N k0 kr N v0 v1 v5 : Option ρ)
def Z7 N v0 v1 v5 kn kr := (Z8 N v0 v1 v5 kn kr : Option ρ)
def Z5 N v0 v1 kn kr := (Z6 N v0 v1 (fun v0 v1 v5 => Z7 N v0 v1 v5 kn kr) : Option ρ)
def Z10 {ρ : Type} (N : Nat)  (kr : Bool → Option ρ) : Option ρ :=
 kr true
def Z4 N v0 v1 kr := (Z5 N v0 v1 (Z10 N kr) kr : Option ρ)
def Z2 N v0 v1 kr := (Z3 N v0 v1 (fun v0 v1 => Z4 N v0 v1 kr) kr : Option ρ)
def Z0 N v0 v1 kr := (Z1 N v0 v1 (fun v0 v1 => Z2 N v0 v1 kr) : Option ρ)
def Spec : Prop := ∀  (v0 v1 : LI), Ty.bd (.sl 0 (.int .i64)) v0 → Ty.bd (.sl 0 (.int .i64)) v1 → ∃ N0, ∀ N, N0 ≤ N → Z0 N v0 v1 (fun v4 => some ((), (v4, ()))) = some ((), ((g v0 v1), ()))
theorem loop {ρ : Type} (N : Nat) (k0 : Option ρ) (kr : Bool → Option ρ) (a b : List Int) (hl : a.length = b.length) (ha : a.length ≤ maxLen) : ∀ (M j : Nat), j ≤ a.length → a.length - j < M →
    Z8L N k0 kr M a b (j : Int) = if a.drop j = b.drop j then k0 else kr false := by
  intro M
  induction M with
  | zero => intro j _ h; omega
  | succ M ih =>
    intro j hj hM
    simp only [Z8L, Z9]
    by_cases h : j < a.length
    · rw [ct (dt (by omega)), ct (inB_nat h), ct (inB_nat (by omega)), Int.toNat_natCast, w64_succ (by omega), ih (j + 1) h (by omega), drop_getD 0 h, drop_getD (l := b) (j := j) 0 (by omega)]
      by_cases e : a.getD j 0 = b.getD j 0
      · rw [cf (nf e), e]
        simp only [List.cons.injEq, true_and]
      · rw [ct (nt e), if_neg (by simp only [List.cons.injEq]; exact fun h => e h.1)]
    · rw [cf (df (by omega)), if_pos (by rw [List.drop_of_length_le (by omega), List.drop_of_length_le (by omega)])]
theorem ok : Spec := fun a b ha hb => ⟨a.length + 1, fun N hN => by
  simp only [Z1, Z3, Z6, Z9, Z8, Z7, Z5, Z10, Z4, Z2, Z0]
  by_cases hl : a.length = b.length
  · rw [cf (nf (by omega))]
    rw [show (0 : Int) = ((0 : Nat) : Int) from rfl, loop _ _ _ a b hl ha.1 N 0 (by omega) (by omega)]
    by_cases e : a = b <;> simp [e, g]
  · rw [ct (nt (by omega))]
    have : a ≠ b := fun e => hl (by rw [e])
    simp [g, this]⟩
end laws_eqIntS
end
end Go.Fw
namespace Go.Fw
noncomputable section
variable {ρ : Type}
namespace laws_eqIntSS
def g (a b : List (List Int)) : Bool := decide (a = b)
end laws_eqIntSS
namespace laws_eqIntSS
def Z1 {ρ : Type} (N : Nat) (v0 v1 : LL) (kn : LL → LL → Option ρ) : Option ρ :=
 kn v0 v1
def Z3 {ρ : Type} (N : Nat) (v0 v1 : LL) (kn : LL → LL → Option ρ) (kr : Bool → Option ρ) : Option ρ :=
 cond (lk N (!(decide ((v0.length : Int) = (v1.length : Int)))))
 (
  kr false)
 (
  kn v0 v1)
def Z6 {ρ : Type} (N : Nat) (v0 v1 : LL) (kn : LL → LL → Int → Option ρ) : Option ρ :=
 kn v0 v1 0
def Z9 {ρ : Type} (N : Nat) (v0 v1 : LL) (v5 : Int) (kn : LL → LL → Int → Option ρ) (k0 : Option ρ) (kr : Bool → Option ρ) : Option ρ :=
 cond (lk N (decide (v5 < (v0.length : Int))))
 (
  cond (lk N (inB v5 v0.length)) (
   cond (lk N (inB v5 v1.length)) (
    cond (!(lk N ((laws_eqIntS.g (v0.getD v5.toNat []) (v1.getD v5.toNat [])))))
    (
     kr false)
    (
     kn v0 v1 (w64 (v5 + 1)))) none) none)
 (
  k0)
def Z8L {ρ : Type} (N : Nat) (k0 : Option ρ) (kr : Bool → Option ρ) : Nat → LL → LL → Int → Option ρ
  | 0, _, _, _ => none
  | M + 1, v0, v1, v5 => Z9 N v0 v1 v5 (fun v0 v1 v5 => Z8L N k0 kr M v0 v1 v5) k0 kr
def Z8 N v0 v1 v5 k0 kr := (Z8L N k0 kr N v0 v1 v5 : Option ρ)
def Z7 N v0 v1 v5 kn kr := (Z8 N v0 v1 v5 kn kr : Option ρ)
def Z5 N v0 v1 kn kr := (Z6 N v0 v1 (fun v0 v1 v5 => Z7 N v0 v1 v5 kn kr) : Option ρ)
def Z10 {ρ : Type} (N : Nat)  (kr : Bool → Option ρ) : Option ρ :=
 kr true
def Z4 N v0 v1 kr := (Z5 N v0 v1 (Z10 N kr) kr : Option ρ)
def Z2 N v0 v1 kr := (Z3 N v0 v1 (fun v0 v1 => Z4 N v0 v1 kr) kr : Option ρ)
def Z0 N v0 v1 kr := (Z1 N v0 v1 (fun v0 v1 => Z2 N v0 v1 kr) : Option ρ)
def Spec : Prop := ∀  (v0 v1 : LL), Ty.bd (.sl 0 (.sl 0 (.int .i64))) v0 → Ty.bd (.sl 0 (.sl 0 (.int .i64))) v1 → ∃ N0, ∀ N, N0 ≤ N → Z0 N v0 v1 (fun v4 => some ((), (v4, ()))) = some ((), ((g v0 v1), ()))
theorem loop {ρ : Type} (N : Nat) (k0 : Option ρ) (kr : Bool → Option ρ) (a b : List (List Int)) (hl : a.length = b.length) (ha : a.length ≤ maxLen) : ∀ (M j : Nat), j ≤ a.length → a.length - j < M →
    Z8L N k0 kr M a b (j : Int) = if a.drop j = b.drop j then k0 else kr false := by
  intro M
  induction M with
  | zero => intro j _ h; omega
  | succ M ih =>
    intro j hj hM
    simp only [Z8L, Z9]
    by_cases h : j < a.length
    · rw [ct (dt (by omega)), ct (inB_nat h), ct (inB_nat (by omega)), Int.toNat_natCast, w64_succ (by omega), ih (j + 1) h (by omega), drop_getD [] h, drop_getD (l := b) (j := j) [] (by omega)]
      by_cases e : a.getD j [] = b.getD j []
      · rw [cf' (by rw [lk_eq, laws_eqIntS.g, dt e]; rfl), e]
        simp only [List.cons.injEq, true_and]
      · rw [ct' (by rw [lk_eq, laws_eqIntS.g, df e]; rfl), if_neg (by simp only [List.cons.injEq]; exact fun h => e h.1)]
    · rw [cf (df (by omega)), if_pos (by rw [List.drop_of_length_le (by omega), List.drop_of_length_le (by omega)])]
theorem ok : Spec := fun a b ha hb => ⟨a.length + 1, fun N hN => by
  simp only [Z1, Z3, Z6, Z9, Z8, Z7, Z5, Z10, Z4, Z2, Z0]
  by_cases hl : a.length = b.length
  · rw [cf (nf (by omega))]
    rw [show (0 : Int) = ((0 : Nat) : Int) from rfl, loop _ _ _ a b hl ha.1 N 0 (by omega) (by omega)]
    by_cases e : a = b <;> simp [e, g]
  · rw [ct (nt (by omega))]
    have : a ≠ b := fun e => hl (by rw [e])
    simp [g, this]⟩
end laws_eqIntSS
end
end Go.Fw
namespace Go.Fw
noncomputable section
variable {ρ : Type}
namespace laws_eqMatrix
def g (a b : Int × Int × List Int) : Bool := decide (a = b)
end laws_eqMatrix
namespace laws_eqMatrix
def Z0 {ρ : Type} (N : Nat) (v0 v1 : MT) (kr : Bool → Option ρ) : Option ρ :=
 cond (lk N (!(decide (v0.1 = v1.1))))
 (
  kr false)
 (
  cond (lk N (!(decide (v0.2.1 = v1.2.1))))
  (
   kr false)
  (
   cond (!(lk N ((laws_eqIntS.g v0.2.2 v1.2.2))))
   (
    kr false)
   (
    kr true)))
def Spec : Prop := ∀  (v0 v1 : MT), Ty.bd (.pair (.int .i64) (.pair (.int .i64) (.sl 0 (.int .i64)))) v0 → Ty.bd (.pair (.int .i64) (.pair (.int .i64) (.sl 0 (.int .i64)))) v1 → ∃ N0, ∀ N, N0 ≤ N → Z0 N v0 v1 (fun v4 => some ((), (v4, ()))) = some ((), ((g v0 v1), ()))
theorem ok : Spec := fun a b ha hb => ⟨0, fun N hN => by
  obtain ⟨a1, a2, a3⟩ := a
  obtain ⟨b1, b2, b3⟩ := b
  simp only [Z0, lk_eq, g, laws_eqIntS.g, Prod.mk.injEq]
  by_cases h1 : a1 = b1 <;> by_cases h2 : a2 = b2 <;> by_cases h3 : a3 = b3 <;> simp [h1, h2, h3]⟩
end laws_eqMatrix
end
end Go.Fw
namespace Go.Fw
noncomputable section
variable {ρ : Type}
namespace laws_FnExactGVectorsOf
def g (_ : Int × Int × List Int) (_ : List Int) : Bool := true
end laws_FnExactGVectorsOf
namespace laws_FnExactGVectorsOf
def Z1 {ρ : Type} (N : Nat) (v0 : MT) (v1 : LI) (kn : LI → I2 (LI → Option ρ)) : Option ρ :=
 kn v1 v0.1 v0.2.1 v0.2.2
def Z3 {ρ : Type} (N : Nat) (v1 : LI) (v2_0 v2_1 : Int) (v2_2 : LI) (kn : LI → I2 (LI → Option ρ)) (kr : Bool → Option ρ) : Option ρ :=
 cond (lk N (decide (1048576 < (v1.length : Int))))
 (
  kr true)
 (
  kn v1 v2_0 v2_1 v2_2)
def Z5 {ρ : Type} (N : Nat) (v1 : LI) (v2_0 v2_1 : Int) (v2_2 : LI) (kn : LI → I3 (LI → Option ρ)) : Option ρ :=
 kn v1 1048576 v2_0 v2_1 v2_2
def Z7 {ρ : Type} (N : Nat) (v1 : LI) (v5 v2_0 v2_1 : Int) (v2_2 : LI) (kn : LI → I3 (LI → Option ρ)) : Option ρ :=
 kn v1 (laws_szMatrix.g (v2_0, (v2_1, v2_2)) v5) v2_0 v2_1 v2_2
def Z9 {ρ : Type} (N : Nat) (v1 : LI) (v5 v2_0 v2_1 : Int) (v2_2 : LI) (kn : LI → I2 (LI → Option ρ)) (kr : Bool → Option ρ) : Option ρ :=
 cond (lk N (decide (v5 < 0)))
 (
  kr true)
 (
  kn v1 v2_0 v2_1 v2_2)
def Z11 {ρ : Type} (N : Nat) (v1 : LI) (v2_0 v2_1 : Int) (v2_2 : LI) (kn : LL → LI → Bool → I2 (LI → Option ρ)) : Option ρ :=
 cond (lk N (laws_toMatrix.P (v2_0, (v2_1, v2_2)))) (
  cond (lk N (laws_toIntS.P v1)) (
   kn (spec_GVectorsOf.g (laws_toMatrix.g (v2_0, (v2_1, v2_2))) (laws_toIntS.g v1)).1 v1 (lk N ((spec_GVectorsOf.g (laws_toMatrix.g (v2_0, (v2_1, v2_2))) (laws_toIntS.g v1)).2)) v2_0 v2_1 v2_2) none) none
def Z13 {ρ : Type} (N : Nat) (v6 : LL) (v1 : LI) (v7 : Bool) (v2_0 v2_1 : Int) (v2_2 : LI) (kn : LL → LI → LI → Bool → I2 (LI → I2 (Option ρ))) : Option ρ :=
 cond (lk N (laws_toMatrix.P (v2_0, (v2_1, v2_2)))) (
  kn v6 (laws_toMatrix.g (v2_0, (v2_1, v2_2))).2.2 v1 v7 v2_0 v2_1 v2_2 (laws_toMatrix.g (v2_0, (v2_1, v2_2))).1 (laws_toMatrix.g (v2_0, (v2_1, v2_2))).2.1) none
def Z15 {ρ : Type} (N : Nat) (v6 : LL) (v8_2 v1 : LI) (v7 : Bool) (v2_0 v2_1 : Int) (v2_2 : LI) (v8_0 v8_1 : Int) (kn : LL → LI → LI → LI → Bool → I2 (LI → I2 (Option ρ))) : Option ρ :=
 cond (lk N (laws_toIntS.P v1)) (
  kn v6 (laws_toIntS.g v1) v8_2 v1 v7 v2_0 v2_1 v2_2 v8_0 v8_1) none
def Z17 {ρ : Type} (N : Nat) (v6 : LL) (v9 v8_2 v1 : LI) (v7 : Bool) (v2_0 v2_1 : Int) (v2_2 : LI) (v8_0 v8_1 : Int) (kn : LL → LI → LL → LI → LI → Bool → Bool → I2 (LI → I2 (Option ρ))) : Option ρ :=
 kn v6 v9 (impl_GVectorsOf.g (v8_0, (v8_1, v8_2)) v9).1 v8_2 v1 v7 (lk N ((impl_GVectorsOf.g (v8_0, (v8_1, v8_2)) v9).2)) v2_0 v2_1 v2_2 v8_0 v8_1
def Z19 {ρ : Type} (N : Nat) (v6 : LL) (v9 : LI) (v10 : LL) (v8_2 v1 : LI) (v7 v11 : Bool) (v2_0 v2_1 : Int) (v2_2 : LI) (v8_0 v8_1 : Int) (kn : LL → LI → LL → LI → LI → Bool → Bool → I2 (LI → I2 (Option ρ))) (kr : Bool → Option ρ) : Option ρ :=
 cond (!(lk N ((laws_eqIntSS.g v10 v6))))
 (
  kr false)
 (
  cond (lk N (!((v11 == v7))))
  (
   kr false)
  (
   kn v6 v9 v10 v8_2 v1 v7 v11 v2_0 v2_1 v2_2 v8_0 v8_1))
def Z21 {ρ : Type} (N : Nat) (v6 : LL) (v9 : LI) (v10 : LL) (v8_2 v1 : LI) (v7 v11 : Bool) (v2_0 v2_1 : Int) (v2_2 : LI) (v8_0 v8_1 : Int) (kn : LL → LI → LL → LI → LI → Bool → Bool → I2 (LI → I2 (Option ρ))) (kr : Bool → Option ρ) : Option ρ :=
 cond (lk N (laws_toMatrix.P (v2_0, (v2_1, v2_2)))) (
  cond (!(lk N ((laws_eqMatrix.g (v8_0, (v8_1, v8_2)) (laws_toMatrix.g (v2_0, (v2_1, v2_2)))))))
  (
   kr false)
  (
   kn v6 v9 v10 v8_2 v1 v7 v11 v2_0 v2_1 v2_2 v8_0 v8_1)) none
def Z23 {ρ : Type} (N : Nat) (v6 : LL) (v9 : LI) (v10 : LL) (v8_2 v1 : LI) (v7 v11 : Bool) (v2_0 v2_1 : Int) (v2_2 : LI) (v8_0 v8_1 : Int) (kn : LL → LI → LL → LI → LI → Bool → Bool → I2 (LI → I2 (Option ρ))) (kr : Bool → Option ρ) : Option ρ :=
 cond (lk N (laws_toIntS.P v1)) (
  cond (!(lk N ((laws_eqIntS.g v9 (laws_toIntS.g v1)))))
  (
   kr false)
  (
   kn v6 v9 v10 v8_2 v1 v7 v11 v2_0 v2_1 v2_2 v8_0 v8_1)) none
def Z25 {ρ : Type} (N : Nat) (v6 : LL) (v9 : LI) (v10 : LL) (v8_2 v1 : LI) (v7 v11 : Bool) (v2_0 v2_1 : Int) (v2_2 : LI) (v8_0 v8_1 : Int) (kn : LL → LI → LL → LI → LI → Bool → Bool → I3 (LI → I2 (Option ρ))) : Option ρ :=
 kn v6 v9 v10 v8_2 v1 v7 v11 1 v2_0 v2_1 v2_2 v8_0 v8_1
def Z27 {ρ : Type} (N : Nat) (v6 : LL) (v9 : LI) (v10 : LL) (v8_2 v1 : LI) (v7 v11 : Bool) (v12 v2_0 v2_1 : Int) (v2_2 : LI) (v8_0 v8_1 : Int) (kn : LL → LI → LL → LI → Bool → Bool → I3 (LI → Option ρ)) : Option ρ :=
 kn v6 v9 v10 v1 v7 v11 (laws_markMatrix.g (v8_0, (v8_1, v8_2)) v12).2 v2_0 v2_1 v2_2
def Z29 {ρ : Type} (N : Nat) (v6 : LL) (v9 : LI) (v10 : LL) (v1 : LI) (v7 v11 : Bool) (v12 v2_0 v2_1 : Int) (v2_2 : LI) (kn : LL → LL → LI → Bool → Bool → I3 (LI → Option ρ)) : Option ρ :=
 kn v6 v10 v1 v7 v11 (laws_markIntS.g v9 v12).2 v2_0 v2_1 v2_2
def Z31 {ρ : Type} (N : Nat) (v6 v10 : LL) (v1 : LI) (v7 v11 : Bool) (v12 v2_0 v2_1 : Int) (v2_2 : LI) (kn : LL → LL → LI → Bool → I2 (LI → Option ρ)) (kr : Bool → Option ρ) : Option ρ :=
 cond (lk N (decide (v12 < 0)))
 (
  kr false)
 (
  cond (!(lk N ((laws_eqIntSS.g v10 v6))))
  (
   kr false)
  (
   cond (lk N (!((v11 == v7))))
   (
    kr false)
   (
    kn v6 v10 v1 v7 v2_0 v2_1 v2_2)))
def Z32 {ρ : Type} (N : Nat) (v6 v10 : LL) (v1 : LI) (v7 : Bool) (v2_0 v2_1 : Int) (v2_2 : LI) (kr : Bool → Option ρ) : Option ρ :=
 cond (lk N (decide ((laws_heldIntSS.g (laws_markIntSS.g v10 1).1 1) < 0)))
 (
  kr false)
 (
  cond (lk N (!(decide ((laws_heldIntSS.g (laws_markIntSS.g v10 1).1 1) = (laws_markIntSS.g v10 1).2))))
  (
   kr false)
  (
   cond (lk N (laws_toMatrix.P (v2_0, (v2_1, v2_2)))) (
    cond (lk N (laws_toIntS.P v1)) (
     cond (!(lk N ((laws_eqIntSS.g (impl_GVectorsOf.g (laws_toMatrix.g (v2_0, (v2_1, v2_2))) (laws_toIntS.g v1)).1 v6))))
     (
      kr false)
     (
      cond (lk N (!(((lk N ((impl_GVectorsOf.g (laws_toMatrix.g (v2_0, (v2_1, v2_2))) (laws_toIntS.g v1)).2)) == v7))))
      (
       kr false)
      (
       cond (lk N (decide ((laws_heldIntSS.g (laws_markIntSS.g v10 1).1 1) < 0)))
       (
        kr false)
       (
        cond (lk N (!(decide ((laws_heldIntSS.g (laws_markIntSS.g v10 1).1 1) = (laws_markIntSS.g v10 1).2))))
        (
         kr false)
        (
         kr true))))) none) none))
def Z30 N v6 v10 v1 v7 v11 v12 v2_0 v2_1 v2_2 kr := (Z31 N v6 v10 v1 v7 v11 v12 v2_0 v2_1 v2_2 (fun v6 v10 v1 v7 v2_0 v2_1 v2_2 => Z32 N v6 v10 v1 v7 v2_0 v2_1 v2_2 kr) kr : Option ρ)
def Z28 N v6 v9 v10 v1 v7 v11 v12 v2_0 v2_1 v2_2 kr := (Z29 N v6 v9 v10 v1 v7 v11 v12 v2_0 v2_1 v2_2 (fun v6 v10 v1 v7 v11 v12 v2_0 v2_1 v2_2 => Z30 N v6 v10 v1 v7 v11 v12 v2_0 v2_1 v2_2 kr) : Option ρ)
def Z26 N v6 v9 v10 v8_2 v1 v7 v11 v12 v2_0 v2_1 v2_2 v8_0 v8_1 kr := (Z27 N v6 v9 v10 v8_2 v1 v7 v11 v12 v2_0 v2_1 v2_2 v8_0 v8_1 (fun v6 v9 v10 v1 v7 v11 v12 v2_0 v2_1 v2_2 => Z28 N v6 v9 v10 v1 v7 v11 v12 v2_0 v2_1 v2_2 kr) : Option ρ)
def Z24 N v6 v9 v10 v8_2 v1 v7 v11 v2_0 v2_1 v2_2 v8_0 v8_1 kr := (Z25 N v6 v9 v10 v8_2 v1 v7 v11 v2_0 v2_1 v2_2 v8_0 v8_1 (fun v6 v9 v10 v8_2 v1 v7 v11 v12 v2_0 v2_1 v2_2 v8_0 v8_1 => Z26 N v6 v9 v10 v8_2 v1 v7 v11 v12 v2_0 v2_1 v2_2 v8_0 v8_1 kr) : Option ρ)
def Z22 N v6 v9 v10 v8_2 v1 v7 v11 v2_0 v2_1 v2_2 v8_0 v8_1 kr := (Z23 N v6 v9 v10 v8_2 v1 v7 v11 v2_0 v2_1 v2_2 v8_0 v8_1 (fun v6 v9 v10 v8_2 v1 v7 v11 v2_0 v2_1 v2_2 v8_0 v8_1 => Z24 N v6 v9 v10 v8_2 v1 v7 v11 v2_0 v2_1 v2_2 v8_0 v8_1 kr) kr : Option ρ)
def Z20 N v6 v9 v10 v8_2 v1 v7 v11 v2_0 v2_1 v2_2 v8_0 v8_1 kr := (Z21 N v6 v9 v10 v8_2 v1 v7 v11 v2_0 v2_1 v2_2 v8_0 v8_1 (fun v6 v9 v10 v8_2 v1 v7 v11 v2_0 v2_1 v2_2 v8_0 v8_1 => Z22 N v6 v9 v10 v8_2 v1 v7 v11 v2_0 v2_1 v2_2 v8_0 v8_1 kr) kr : Option ρ)
def Z18 N v6 v9 v10 v8_2 v1 v7 v11 v2_0 v2_1 v2_2 v8_0 v8_1 kr := (Z19 N v6 v9 v10 v8_2 v1 v7 v11 v2_0 v2_1 v2_2 v8_0 v8_1 (fun v6 v9 v10 v8_2 v1 v7 v11 v2_0 v2_1 v2_2 v8_0 v8_1 => Z20 N v6 v9 v10 v8_2 v1 v7 v11 v2_0 v2_1 v2_2 v8_0 v8_1 kr) kr : Option ρ)
def Z16 N v6 v9 v8_2 v1 v7 v2_0 v2_1 v2_2 v8_0 v8_1 kr := (Z17 N v6 v9 v8_2 v1 v7 v2_0 v2_1 v2_2 v8_0 v8_1 (fun v6 v9 v10 v8_2 v1 v7 v11 v2_0 v2_1 v2_2 v8_0 v8_1 => Z18 N v6 v9 v10 v8_2 v1 v7 v11 v2_0 v2_1 v2_2 v8_0 v8_1 kr) : Option ρ)
def Z14 N v6 v8_2 v1 v7 v2_0 v2_1 v2_2 v8_0 v8_1 kr := (Z15 N v6 v8_2 v1 v7 v2_0 v2_1 v2_2 v8_0 v8_1 (fun v6 v9 v8_2 v1 v7 v2_0 v2_1 v2_2 v8_0 v8_1 => Z16 N v6 v9 v8_2 v1 v7 v2_0 v2_1 v2_2 v8_0 v8_1 kr) : Option ρ)
def Z12 N v6 v1 v7 v2_0 v2_1 v2_2 kr := (Z13 N v6 v1 v7 v2_0 v2_1 v2_2 (fun v6 v8_2 v1 v7 v2_0 v2_1 v2_2 v8_0 v8_1 => Z14 N v6 v8_2 v1 v7 v2_0 v2_1 v2_2 v8_0 v8_1 kr) : Option ρ)
def Z10 N v1 v2_0 v2_1 v2_2 kr := (Z11 N v1 v2_0 v2_1 v2_2 (fun v6 v1 v7 v2_0 v2_1 v2_2 => Z12 N v6 v1 v7 v2_0 v2_1 v2_2 kr) : Option ρ)
def Z8 N v1 v5 v2_0 v2_1 v2_2 kr := (Z9 N v1 v5 v2_0 v2_1 v2_2 (fun v1 v2_0 v2_1 v2_2 => Z10 N v1 v2_0 v2_1 v2_2 kr) kr : Option ρ)
def Z6 N v1 v5 v2_0 v2_1 v2_2 kr := (Z7 N v1 v5 v2_0 v2_1 v2_2 (fun v1 v5 v2_0 v2_1 v2_2 => Z8 N v1 v5 v2_0 v2_1 v2_2 kr) : Option ρ)
def Z4 N v1 v2_0 v2_1 v2_2 kr := (Z5 N v1 v2_0 v2_1 v2_2 (fun v1 v5 v2_0 v2_1 v2_2 => Z6 N v1 v5 v2_0 v2_1 v2_2 kr) : Option ρ)
def Z2 N v1 v2_0 v2_1 v2_2 kr := (Z3 N v1 v2_0 v2_1 v2_2 (fun v1 v2_0 v2_1 v2_2 => Z4 N v1 v2_0 v2_1 v2_2 kr) kr : Option ρ)
def Z0 N v0 v1 kr := (Z1 N v0 v1 (fun v1 v2_0 v2_1 v2_2 => Z2 N v1 v2_0 v2_1 v2_2 kr) : Option ρ)
def Spec : Prop := ∀  (v0 : MT) (v1 : LI), Ty.bd (.pair (.int .i64) (.pair (.int .i64) (.sl 0 (.int .i64)))) v0 → Ty.bd (.sl 0 (.int .i64)) v1 → ∃ N0, ∀ N, N0 ≤ N → Z0 N v0 v1 (fun v4 => some ((), (v4, ()))) = some ((), ((g v0 v1), ()))
theorem ok : Spec := fun m ks hb hv => ⟨0, fun N hN => by
  by_cases h0 : (1048576 : Int) < ks.length
  · simp only [Z1, Z3, Z5, Z7, Z9, Z11, Z13, Z15, Z17, Z19, Z21, Z23, Z25, Z27, Z29, Z31, Z32, Z30, Z28, Z26, Z24, Z22, Z20, Z18, Z16, Z14, Z12, Z10, Z8, Z6, Z4, Z2, Z0]
    rw [ct (dt h0)]
    rfl
  by_cases hl : laws_szMatrix.g m 1048576 < 0
  · simp only [Z1, Z3, Z5, Z7, Z9, Z11, Z13, Z15, Z17, Z19, Z21, Z23, Z25, Z27, Z29, Z31, Z32, Z30, Z28, Z26, Z24, Z22, Z20, Z18, Z16, Z14, Z12, Z10, Z8, Z6, Z4, Z2, Z0]
    rw [cf (df h0), ct (dt hl)]
    rfl
  obtain ⟨hP, hlen⟩ := szMat_P m hb.2.2.1 hl
  have hQ := toInt_P ks (by omega)
  have he : impl_GVectorsOf.g m ks = spec_GVectorsOf.g m ks := by
    unfold impl_GVectorsOf.g spec_GVectorsOf.g
    rw [walk_alike]
  have hs : szSS (spec_GVectorsOf.g m ks).1 < 4611686018427387904 := by
    cases hc : (spec_GVectorsOf.g m ks).2
    · unfold spec_GVectorsOf.g at hc ⊢
      split
      · rename_i h
        rw [if_pos h] at hc; cases hc
      · decide
    · obtain ⟨⟨h1, h2⟩, h3⟩ := spec_GVectorsOf.sq hc
      obtain ⟨n, r, hn, hr, hn1, hn5, hnr, hr8, hl⟩ := dim_nat h3
      generalize (spec_GVectorsOf.g m ks).1 = p at *
      have := szSS_le (l := p) (a := 5) (b := 5) (by omega) (fun x hx => by
        obtain ⟨i, hi, rfl⟩ := List.getElem_of_mem hx
        have := h2 i (by omega)
        rw [List.getD_eq_getElem?_getD, List.getElem?_eq_getElem hi, Option.getD_some] at this
        omega)
      omega
  obtain ⟨h1, h2⟩ := ss_mark _ hs
  have hm := mark_two m ks (by omega) (by omega)
  simp only [Z1, Z3, Z5, Z7, Z9, Z11, Z13, Z15, Z17, Z19, Z21, Z23, Z25, Z27, Z29, Z31, Z32, Z30, Z28, Z26, Z24, Z22, Z20, Z18, Z16, Z14, Z12, Z10, Z8, Z6, Z4, Z2, Z0, lk_eq, laws_toMatrix.g, laws_toIntS.g, hP, hQ, he, laws_eqMatrix.g, laws_eqIntS.g, laws_eqIntSS.g, h1, df h0, df hl, df hm, df h2, dt (rfl : m = _), dt (rfl : ks = _), dt (rfl : (spec_GVectorsOf.g m ks).1 = _), dt (rfl : (laws_markIntSS.g (spec_GVectorsOf.g m ks).1 1).2 = _), beq_self_eq_true]
  rfl⟩
end laws_FnExactGVectorsOf
end
end Go.Fw
