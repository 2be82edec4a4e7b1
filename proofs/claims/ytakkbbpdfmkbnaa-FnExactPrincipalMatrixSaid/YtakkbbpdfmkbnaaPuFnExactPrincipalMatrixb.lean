/- The plain part: what the functions compute, in lists and numbers. Nothing is assumed. -/
import Derived.Test.YtakkbbpdfmkbnaaFwb
import Derived.Test.YtakkbbpdfmkbnaaPuFnExactPrincipalMatrixa
set_option linter.unusedVariables false
set_option linter.unusedSimpArgs false
set_option maxRecDepth 100000
namespace Go.Fw
noncomputable section
namespace impl_PrincipalMatrix
def g (m : Int × Int × List Int) : (Int × Int × List Int) × Bool :=
  if ((shapedK m && !decide (facK m = [])) && (decide (m.2.1 = m.1) && decide (2 * m.1 ≤ 8))) = true then (princK m, true) else ((0, 0, []), false)
end impl_PrincipalMatrix
namespace impl_PrincipalMatrix
def Z1 {ρ : Type} (N : Nat) (m0 : Int × Int × List Int) (kn : Int → Int → List Int → Int → Int → Option ρ) : Option ρ :=
 kn m0.1 m0.2.1 m0.2.2 0 0
def Z3 {ρ : Type} (N : Nat) (m1_0 : Int) (m1_1 : Int) (m1_2 : List Int) (t2_0 : Int) (t2_1 : Int) (kn : Int → Int → List Int → Int → Int → Option ρ) (kr : List Int → Bool → Int → Int → Option ρ) : Option ρ :=
 cond (!(lk N ((impl_MatrixOk.g (m1_0, (m1_1, m1_2))))))
 (
  kr ([] : List Int) false 0 0)
 (
  cond (lk N (!(decide (m1_1 = m1_0))))
  (
   kr ([] : List Int) false 0 0)
  (
   cond (lk N (decide (8 < (w64 (2 * m1_0)))))
   (
    kr ([] : List Int) false 0 0)
   (
    kn m1_0 m1_1 m1_2 t2_0 t2_1)))
def Z5 {ρ : Type} (N : Nat) (m1_0 : Int) (m1_1 : Int) (m1_2 : List Int) (t2_0 : Int) (t2_1 : Int) (kn : List Int → Int → Int → List Int → Int → Int → Int → Int → Option ρ) : Option ρ :=
 both (
  cond (lk N (slices_Clone_int_int.P m1_2)) (
   both (
    kn (slices_Clone_int_int.g m1_2) m1_0 m1_1 m1_2 t2_0 t2_1 m1_0 (w64 (2 * m1_0)))
   (
    kn (slices_Clone_int_int.g m1_2) m1_0 m1_1 m1_2 t2_0 t2_1 m1_0 (w64 (2 * m1_0)))) none)
 (
  cond (lk N (slices_Clone_int_int.P m1_2)) (
   kn (slices_Clone_int_int.g m1_2) m1_0 m1_1 m1_2 t2_0 t2_1 m1_0 (w64 (2 * m1_0))) none)
def Z8 {ρ : Type} (N : Nat) (out4_2 : List Int) (m1_0 : Int) (m1_1 : Int) (m1_2 : List Int) (t2_0 : Int) (t2_1 : Int) (out4_0 : Int) (out4_1 : Int) (kn : List Int → Int → Int → Int → List Int → Int → Int → Int → Int → Option ρ) : Option ρ :=
 kn out4_2 0 m1_0 m1_1 m1_2 t2_0 t2_1 out4_0 out4_1
def Z12 {ρ : Type} (N : Nat) (out4_2 : List Int) (i5 : Int) (m1_0 : Int) (m1_1 : Int) (m1_2 : List Int) (t2_0 : Int) (t2_1 : Int) (out4_0 : Int) (out4_1 : Int) (kn : List Int → Int → Int → Int → List Int → Int → Int → Int → Int → Option ρ) (k0 : List Int → Int → Int → Int → Int → Option ρ) : Option ρ :=
 cond (lk N (decide (i5 < m1_0)))
 (
  kn out4_2 i5 m1_0 m1_1 m1_2 t2_0 t2_1 out4_0 out4_1)
 (
  k0 out4_2 t2_0 t2_1 out4_0 out4_1)
def Z16 {ρ : Type} (N : Nat) (out4_2 : List Int) (i5 : Int) (m1_0 : Int) (m1_1 : Int) (m1_2 : List Int) (t2_0 : Int) (t2_1 : Int) (out4_0 : Int) (out4_1 : Int) (kn : List Int → Int → Int → Int → Int → List Int → Int → Int → Int → Int → Option ρ) : Option ρ :=
 kn out4_2 i5 0 m1_0 m1_1 m1_2 t2_0 t2_1 out4_0 out4_1
def Z19 {ρ : Type} (N : Nat) (out4_2 : List Int) (i5 : Int) (j6 : Int) (m1_0 : Int) (m1_1 : Int) (m1_2 : List Int) (t2_0 : Int) (t2_1 : Int) (out4_0 : Int) (out4_1 : Int) (kn : List Int → Int → Int → Int → Int → List Int → Int → Int → Int → Int → Option ρ) (k2 : List Int → Int → Int → Int → List Int → Int → Int → Int → Int → Option ρ) : Option ρ :=
 cond (lk N (decide (j6 < m1_0)))
 (
  cond (lk N (decide (i5 = j6)))
  (
   cond (lk N (Nat.blt (out4_2.length + ([1] : List Int).length) 1099511627776)) (
    kn (out4_2 ++ ([1] : List Int)) i5 (w64 (j6 + 1)) m1_0 m1_1 m1_2 t2_0 t2_1 out4_0 out4_1) none)
  (
   cond (lk N (Nat.blt (out4_2.length + ([0] : List Int).length) 1099511627776)) (
    kn (out4_2 ++ ([0] : List Int)) i5 (w64 (j6 + 1)) m1_0 m1_1 m1_2 t2_0 t2_1 out4_0 out4_1) none))
 (
  k2 out4_2 i5 m1_0 m1_1 m1_2 t2_0 t2_1 out4_0 out4_1)
def Z18L {ρ : Type} (N : Nat) (k2 : List Int → Int → Int → Int → List Int → Int → Int → Int → Int → Option ρ) : Nat → List Int → Int → Int → Int → Int → List Int → Int → Int → Int → Int → Option ρ
  | 0, _, _, _, _, _, _, _, _, _, _ => none
  | M + 1, out4_2, i5, j6, m1_0, m1_1, m1_2, t2_0, t2_1, out4_0, out4_1 => Z19 N out4_2 i5 j6 m1_0 m1_1 m1_2 t2_0 t2_1 out4_0 out4_1 (fun out4_2 i5 j6 m1_0 m1_1 m1_2 t2_0 t2_1 out4_0 out4_1 => Z18L N k2 M out4_2 i5 j6 m1_0 m1_1 m1_2 t2_0 t2_1 out4_0 out4_1) k2
def Z18 {ρ : Type} (N : Nat) (out4_2 : List Int) (i5 : Int) (j6 : Int) (m1_0 : Int) (m1_1 : Int) (m1_2 : List Int) (t2_0 : Int) (t2_1 : Int) (out4_0 : Int) (out4_1 : Int) (k2 : List Int → Int → Int → Int → List Int → Int → Int → Int → Int → Option ρ) : Option ρ := Z18L N k2 N out4_2 i5 j6 m1_0 m1_1 m1_2 t2_0 t2_1 out4_0 out4_1
def Z17 {ρ : Type} (N : Nat) (out4_2 : List Int) (i5 : Int) (j6 : Int) (m1_0 : Int) (m1_1 : Int) (m1_2 : List Int) (t2_0 : Int) (t2_1 : Int) (out4_0 : Int) (out4_1 : Int) (kn : List Int → Int → Int → Int → List Int → Int → Int → Int → Int → Option ρ) : Option ρ := Z18 N out4_2 i5 j6 m1_0 m1_1 m1_2 t2_0 t2_1 out4_0 out4_1 kn
def Z15 {ρ : Type} (N : Nat) (out4_2 : List Int) (i5 : Int) (m1_0 : Int) (m1_1 : Int) (m1_2 : List Int) (t2_0 : Int) (t2_1 : Int) (out4_0 : Int) (out4_1 : Int) (kn : List Int → Int → Int → Int → List Int → Int → Int → Int → Int → Option ρ) : Option ρ := Z16 N out4_2 i5 m1_0 m1_1 m1_2 t2_0 t2_1 out4_0 out4_1 (fun out4_2 i5 j6 m1_0 m1_1 m1_2 t2_0 t2_1 out4_0 out4_1 => Z17 N out4_2 i5 j6 m1_0 m1_1 m1_2 t2_0 t2_1 out4_0 out4_1 kn)
def Z14 {ρ : Type} (N : Nat) (out4_2 : List Int) (i5 : Int) (m1_0 : Int) (m1_1 : Int) (m1_2 : List Int) (t2_0 : Int) (t2_1 : Int) (out4_0 : Int) (out4_1 : Int) (kn : List Int → Int → Int → Int → List Int → Int → Int → Int → Int → Option ρ) : Option ρ := Z15 N out4_2 i5 m1_0 m1_1 m1_2 t2_0 t2_1 out4_0 out4_1 kn
def Z20 {ρ : Type} (N : Nat) (out4_2 : List Int) (i5 : Int) (m1_0 : Int) (m1_1 : Int) (m1_2 : List Int) (t2_0 : Int) (t2_1 : Int) (out4_0 : Int) (out4_1 : Int) (kn : List Int → Int → Int → Int → List Int → Int → Int → Int → Int → Option ρ) : Option ρ :=
 kn out4_2 (w64 (i5 + 1)) m1_0 m1_1 m1_2 t2_0 t2_1 out4_0 out4_1
def Z13 {ρ : Type} (N : Nat) (out4_2 : List Int) (i5 : Int) (m1_0 : Int) (m1_1 : Int) (m1_2 : List Int) (t2_0 : Int) (t2_1 : Int) (out4_0 : Int) (out4_1 : Int) (kn : List Int → Int → Int → Int → List Int → Int → Int → Int → Int → Option ρ) : Option ρ := Z14 N out4_2 i5 m1_0 m1_1 m1_2 t2_0 t2_1 out4_0 out4_1 (fun out4_2 i5 m1_0 m1_1 m1_2 t2_0 t2_1 out4_0 out4_1 => Z20 N out4_2 i5 m1_0 m1_1 m1_2 t2_0 t2_1 out4_0 out4_1 kn)
def Z11 {ρ : Type} (N : Nat) (out4_2 : List Int) (i5 : Int) (m1_0 : Int) (m1_1 : Int) (m1_2 : List Int) (t2_0 : Int) (t2_1 : Int) (out4_0 : Int) (out4_1 : Int) (kn : List Int → Int → Int → Int → List Int → Int → Int → Int → Int → Option ρ) (k0 : List Int → Int → Int → Int → Int → Option ρ) : Option ρ := Z12 N out4_2 i5 m1_0 m1_1 m1_2 t2_0 t2_1 out4_0 out4_1 (fun out4_2 i5 m1_0 m1_1 m1_2 t2_0 t2_1 out4_0 out4_1 => Z13 N out4_2 i5 m1_0 m1_1 m1_2 t2_0 t2_1 out4_0 out4_1 kn) k0
def Z10L {ρ : Type} (N : Nat) (k0 : List Int → Int → Int → Int → Int → Option ρ) : Nat → List Int → Int → Int → Int → List Int → Int → Int → Int → Int → Option ρ
  | 0, _, _, _, _, _, _, _, _, _ => none
  | M + 1, out4_2, i5, m1_0, m1_1, m1_2, t2_0, t2_1, out4_0, out4_1 => Z11 N out4_2 i5 m1_0 m1_1 m1_2 t2_0 t2_1 out4_0 out4_1 (fun out4_2 i5 m1_0 m1_1 m1_2 t2_0 t2_1 out4_0 out4_1 => Z10L N k0 M out4_2 i5 m1_0 m1_1 m1_2 t2_0 t2_1 out4_0 out4_1) k0
def Z10 {ρ : Type} (N : Nat) (out4_2 : List Int) (i5 : Int) (m1_0 : Int) (m1_1 : Int) (m1_2 : List Int) (t2_0 : Int) (t2_1 : Int) (out4_0 : Int) (out4_1 : Int) (k0 : List Int → Int → Int → Int → Int → Option ρ) : Option ρ := Z10L N k0 N out4_2 i5 m1_0 m1_1 m1_2 t2_0 t2_1 out4_0 out4_1
def Z9 {ρ : Type} (N : Nat) (out4_2 : List Int) (i5 : Int) (m1_0 : Int) (m1_1 : Int) (m1_2 : List Int) (t2_0 : Int) (t2_1 : Int) (out4_0 : Int) (out4_1 : Int) (kn : List Int → Int → Int → Int → Int → Option ρ) : Option ρ := Z10 N out4_2 i5 m1_0 m1_1 m1_2 t2_0 t2_1 out4_0 out4_1 kn
def Z7 {ρ : Type} (N : Nat) (out4_2 : List Int) (m1_0 : Int) (m1_1 : Int) (m1_2 : List Int) (t2_0 : Int) (t2_1 : Int) (out4_0 : Int) (out4_1 : Int) (kn : List Int → Int → Int → Int → Int → Option ρ) : Option ρ := Z8 N out4_2 m1_0 m1_1 m1_2 t2_0 t2_1 out4_0 out4_1 (fun out4_2 i5 m1_0 m1_1 m1_2 t2_0 t2_1 out4_0 out4_1 => Z9 N out4_2 i5 m1_0 m1_1 m1_2 t2_0 t2_1 out4_0 out4_1 kn)
def Z21 {ρ : Type} (N : Nat) (out4_2 : List Int) (t2_0 : Int) (t2_1 : Int) (out4_0 : Int) (out4_1 : Int) (kr : List Int → Bool → Int → Int → Option ρ) : Option ρ :=
 kr out4_2 true out4_0 out4_1
def Z6 {ρ : Type} (N : Nat) (out4_2 : List Int) (m1_0 : Int) (m1_1 : Int) (m1_2 : List Int) (t2_0 : Int) (t2_1 : Int) (out4_0 : Int) (out4_1 : Int) (kr : List Int → Bool → Int → Int → Option ρ) : Option ρ := Z7 N out4_2 m1_0 m1_1 m1_2 t2_0 t2_1 out4_0 out4_1 (fun out4_2 t2_0 t2_1 out4_0 out4_1 => Z21 N out4_2 t2_0 t2_1 out4_0 out4_1 kr)
def Z4 {ρ : Type} (N : Nat) (m1_0 : Int) (m1_1 : Int) (m1_2 : List Int) (t2_0 : Int) (t2_1 : Int) (kr : List Int → Bool → Int → Int → Option ρ) : Option ρ := Z5 N m1_0 m1_1 m1_2 t2_0 t2_1 (fun out4_2 m1_0 m1_1 m1_2 t2_0 t2_1 out4_0 out4_1 => Z6 N out4_2 m1_0 m1_1 m1_2 t2_0 t2_1 out4_0 out4_1 kr)
def Z2 {ρ : Type} (N : Nat) (m1_0 : Int) (m1_1 : Int) (m1_2 : List Int) (t2_0 : Int) (t2_1 : Int) (kr : List Int → Bool → Int → Int → Option ρ) : Option ρ := Z3 N m1_0 m1_1 m1_2 t2_0 t2_1 (fun m1_0 m1_1 m1_2 t2_0 t2_1 => Z4 N m1_0 m1_1 m1_2 t2_0 t2_1 kr) kr
def Z0 {ρ : Type} (N : Nat) (m0 : Int × Int × List Int) (kr : List Int → Bool → Int → Int → Option ρ) : Option ρ := Z1 N m0 (fun m1_0 m1_1 m1_2 t2_0 t2_1 => Z2 N m1_0 m1_1 m1_2 t2_0 t2_1 kr)
def Spec : Prop := ∀  (m0 : Int × Int × List Int), Ty.bd (.pair (.int .i64) (.pair (.int .i64) (.sl 0 (.int .i64)))) m0 → ∃ N0, ∀ N, N0 ≤ N → Z0 N m0 (fun t2_2 t3 t2_0 t2_1 => some ((), ((t2_0, (t2_1, t2_2)), (t3, ())))) = some ((), ((g m0).1, ((g m0).2, ())))

theorem inner {ρ : Type} {N : Nat} {m : Int × Int × List Int} (hd : dimK m = true) (k2 : List Int → Int → Int → Int → List Int → Int → Int → Int → Int → Option ρ) (t0 t1 o0 o1 : Int) (base : List Int) (hb : base.length ≤ 65) {i : Nat} (hi : i < m.1.toNat) : ∀ (M j : Nat), j ≤ m.1.toNat → m.1.toNat - j < M →
    Z18L N k2 M (base ++ (rowU m.1.toNat i).take j) (i : Int) (j : Int) m.1 m.2.1 m.2.2 t0 t1 o0 o1 = k2 (base ++ rowU m.1.toNat i) (i : Int) m.1 m.2.1 m.2.2 t0 t1 o0 o1 := by
  obtain ⟨n, r, hn, hr, hn1, hn5, hnr, hr8, hl⟩ := dim_nat hd
  intro M
  induction M with
  | zero => intro j _ h; omega
  | succ M ih =>
    intro j hj hM
    simp only [Z18L, Z19]
    by_cases h : j < m.1.toNat
    · have hlen : ∀ x : Int, Nat.blt ((base ++ (rowU m.1.toNat i).take j).length + ([x]).length) 1099511627776 = true := fun x => by
        rw [Nat.blt_eq, List.length_append, List.length_take, rowU_len, List.length_singleton]; omega
      have ht := take_getD (l := rowU m.1.toNat i) (j := j) (0 : Int) (by rw [rowU_len]; exact h)
      rw [rowU_getD h] at ht
      have := ih (j + 1) h (by omega)
      rw [← ht, ← List.append_assoc] at this
      rw [ct (dt (by omega))]
      by_cases e : i = j
      · rw [if_pos e] at this
        rw [ct (dt (by omega)), ct (hlen _), w64_succ (by rw [maxLen_val]; omega)]
        exact this
      · rw [if_neg e] at this
        rw [cf (df (by omega)), ct (hlen _), w64_succ (by rw [maxLen_val]; omega)]
        exact this
    · rw [cf (df (by omega)), List.take_of_length_le (by rw [rowU_len]; omega)]
theorem loop {ρ : Type} {N : Nat} (hN : 10 ≤ N) {m : Int × Int × List Int} (hd : dimK m = true) (k0 : List Int → Int → Int → Int → Int → Option ρ) (t0 t1 o0 o1 : Int) : ∀ (M i : Nat), i ≤ m.1.toNat → m.1.toNat - i < M →
    Z10L N k0 M (m.2.2 ++ rowsU m.1.toNat i) (i : Int) m.1 m.2.1 m.2.2 t0 t1 o0 o1 = k0 (m.2.2 ++ rowsU m.1.toNat m.1.toNat) t0 t1 o0 o1 := by
  obtain ⟨n, r, hn, hr, hn1, hn5, hnr, hr8, hl⟩ := dim_nat hd
  intro M
  induction M with
  | zero => intro i _ h; omega
  | succ M ih =>
    intro i hi hM
    simp only [Z10L, Z11, Z12]
    by_cases h : i < m.1.toNat
    · rw [ct (dt (by omega))]
      simp only [Z13, Z14, Z15, Z16, Z17, Z18]
      have hin := inner (ρ := ρ) (N := N) hd (fun out4_2 i5 m1_0 m1_1 m1_2 t2_0 t2_1 out4_0 out4_1 => Z20 N out4_2 i5 m1_0 m1_1 m1_2 t2_0 t2_1 out4_0 out4_1 (fun out4_2 i5 m1_0 m1_1 m1_2 t2_0 t2_1 out4_0 out4_1 => Z10L N k0 M out4_2 i5 m1_0 m1_1 m1_2 t2_0 t2_1 out4_0 out4_1)) t0 t1 o0 o1 (m.2.2 ++ rowsU m.1.toNat i) (princ_len hd i (by omega)) h N 0 (by omega) (by omega)
      rw [List.take_zero, List.append_nil, show ((0 : Nat) : Int) = 0 from rfl] at hin
      rw [hin]
      simp only [Z20]
      rw [w64_succ (by rw [maxLen_val]; omega), List.append_assoc]
      exact ih (i + 1) h (by omega)
    · rw [cf (df (by omega)), show i = m.1.toNat by omega]
theorem ok : Spec := fun m hb => ⟨10, fun N hN => by
  have e0 : impl_MatrixOk.g (m.1, (m.2.1, m.2.2)) = (shapedK m && !decide (facK m = [])) := rfl
  simp only [Z0, Z1, Z2, Z3, e0, g, lk_eq]
  cases h1 : (shapedK m && !decide (facK m = []))
  · rfl
  have hs : shapedK m = true := by
    simp only [Bool.and_eq_true] at h1
    exact h1.1
  have hd := shaped_dim hs
  obtain ⟨n, r, hn, hr, hn1, hn5, hnr, hr8, hl⟩ := dim_nat hd
  have hlen := dim_len hd
  rw [w64_id (by omega) (by omega)]
  by_cases h2 : m.2.1 = m.1
  · rw [dt h2]
    by_cases h3 : 2 * m.1 ≤ 8
    · rw [dt h3, df (show ¬ 8 < 2 * m.1 by omega)]
      simp only [Z4, Z5]
      rw [ct (show slices_Clone_int_int.P m.2.2 = true from dt (by omega)), ct (show slices_Clone_int_int.P m.2.2 = true from dt (by omega)), both_self, both_self]
      simp only [Z6, Z7, Z8, Z9, Z10]
      have := loop (ρ := Unit × (Int × Int × List Int) × Bool × Unit) hN hd (fun out4_2 t2_0 t2_1 out4_0 out4_1 => Z21 N out4_2 t2_0 t2_1 out4_0 out4_1 (fun t2_2 t3 t2_0 t2_1 => some ((), ((t2_0, (t2_1, t2_2)), (t3, ()))))) 0 0 m.1 (w64 (2 * m.1)) N 0 (by omega) (by omega)
      rw [rowsU, List.append_nil] at this
      refine this.trans ?_
      simp only [Z21]
      rw [w64_id (by omega) (by omega)]
      rfl
    · rw [df h3, dt (show 8 < 2 * m.1 by omega)]; rfl
  · rw [df h2]; rfl⟩

end impl_PrincipalMatrix
end
end Go.Fw
set_option linter.unusedVariables false
set_option linter.unusedSimpArgs false
set_option maxRecDepth 100000
namespace Go.Fw
noncomputable section
namespace laws_eqIntS
def g (a b : List Int) : Bool := decide (a = b)
end laws_eqIntS
namespace laws_eqIntS
def Z1 {ρ : Type} (N : Nat) (a0 : List Int) (b1 : List Int) (kn : List Int → List Int → Option ρ) : Option ρ :=
 kn a0 b1
def Z3 {ρ : Type} (N : Nat) (a0 : List Int) (b1 : List Int) (kn : List Int → List Int → Option ρ) (kr : Bool → Option ρ) : Option ρ :=
 cond (lk N (!(decide ((a0.length : Int) = (b1.length : Int)))))
 (
  kr false)
 (
  kn a0 b1)
def Z6 {ρ : Type} (N : Nat) (a0 : List Int) (b1 : List Int) (kn : List Int → List Int → Int → Option ρ) : Option ρ :=
 kn a0 b1 0
def Z9 {ρ : Type} (N : Nat) (a0 : List Int) (b1 : List Int) (i5 : Int) (kn : List Int → List Int → Int → Option ρ) (k0 : Option ρ) (kr : Bool → Option ρ) : Option ρ :=
 cond (lk N (decide (i5 < (a0.length : Int))))
 (
  cond (lk N (inB i5 a0.length)) (
   cond (lk N (inB i5 b1.length)) (
    cond (lk N (!(decide ((a0.getD i5.toNat 0) = (b1.getD i5.toNat 0)))))
    (
     kr false)
    (
     kn a0 b1 (w64 (i5 + 1)))) none) none)
 (
  k0)
def Z8L {ρ : Type} (N : Nat) (k0 : Option ρ) (kr : Bool → Option ρ) : Nat → List Int → List Int → Int → Option ρ
  | 0, _, _, _ => none
  | M + 1, a0, b1, i5 => Z9 N a0 b1 i5 (fun a0 b1 i5 => Z8L N k0 kr M a0 b1 i5) k0 kr
def Z8 {ρ : Type} (N : Nat) (a0 : List Int) (b1 : List Int) (i5 : Int) (k0 : Option ρ) (kr : Bool → Option ρ) : Option ρ := Z8L N k0 kr N a0 b1 i5
def Z7 {ρ : Type} (N : Nat) (a0 : List Int) (b1 : List Int) (i5 : Int) (kn : Option ρ) (kr : Bool → Option ρ) : Option ρ := Z8 N a0 b1 i5 kn kr
def Z5 {ρ : Type} (N : Nat) (a0 : List Int) (b1 : List Int) (kn : Option ρ) (kr : Bool → Option ρ) : Option ρ := Z6 N a0 b1 (fun a0 b1 i5 => Z7 N a0 b1 i5 kn kr)
def Z10 {ρ : Type} (N : Nat)  (kr : Bool → Option ρ) : Option ρ :=
 kr true
def Z4 {ρ : Type} (N : Nat) (a0 : List Int) (b1 : List Int) (kr : Bool → Option ρ) : Option ρ := Z5 N a0 b1 (Z10 N kr) kr
def Z2 {ρ : Type} (N : Nat) (a0 : List Int) (b1 : List Int) (kr : Bool → Option ρ) : Option ρ := Z3 N a0 b1 (fun a0 b1 => Z4 N a0 b1 kr) kr
def Z0 {ρ : Type} (N : Nat) (a0 : List Int) (b1 : List Int) (kr : Bool → Option ρ) : Option ρ := Z1 N a0 b1 (fun a0 b1 => Z2 N a0 b1 kr)
def Spec : Prop := ∀  (a0 : List Int) (b1 : List Int), Ty.bd (.sl 0 (.int .i64)) a0 → Ty.bd (.sl 0 (.int .i64)) b1 → ∃ N0, ∀ N, N0 ≤ N → Z0 N a0 b1 (fun t4 => some ((), (t4, ()))) = some ((), ((g a0 b1), ()))

theorem loop {ρ : Type} (N : Nat) (k0 : Option ρ) (kr : Bool → Option ρ) (a b : List Int) (hl : a.length = b.length) (ha : a.length ≤ maxLen) : ∀ (M j : Nat), j ≤ a.length → a.length - j < M →
    Z8L N k0 kr M a b (j : Int) = if a.drop j = b.drop j then k0 else kr false := by
  intro M
  induction M with
  | zero => intro j _ h; omega
  | succ M ih =>
    intro j hj hM
    simp only [Z8L, Z9]
    by_cases h : j < a.length
    · rw [ct (dt (by omega)), ct (inB_nat h), ct (inB_nat (by omega)), Int.toNat_natCast, w64_succ (by omega), ih (j + 1) h (by omega), drop_getD 0 h, drop_getD (l := b) (j := j) 0 (by omega)]
      by_cases e : a.getD j 0 = b.getD j 0
      · rw [cf (nf e), e]
        simp only [List.cons.injEq, true_and]
      · rw [ct (nt e), if_neg (by simp only [List.cons.injEq]; exact fun h => e h.1)]
    · rw [cf (df (by omega)), if_pos (by rw [List.drop_of_length_le (by omega), List.drop_of_length_le (by omega)])]
theorem ok : Spec := fun a b ha hb => ⟨a.length + 1, fun N hN => by
  simp only [Z1, Z3, Z6, Z9, Z8, Z7, Z5, Z10, Z4, Z2, Z0]
  by_cases hl : a.length = b.length
  · rw [cf (nf (by omega))]
    rw [show (0 : Int) = ((0 : Nat) : Int) from rfl, loop _ _ _ a b hl ha.1 N 0 (by omega) (by omega)]
    by_cases e : a = b <;> simp [e, g]
  · rw [ct (nt (by omega))]
    have : a ≠ b := fun e => hl (by rw [e])
    simp [g, this]⟩

end laws_eqIntS
end
end Go.Fw
set_option linter.unusedVariables false
set_option linter.unusedSimpArgs false
set_option maxRecDepth 100000
namespace Go.Fw
noncomputable section
namespace laws_eqMatrix
def g (a b : Int × Int × List Int) : Bool := decide (a = b)
end laws_eqMatrix
namespace laws_eqMatrix
def Z0 {ρ : Type} (N : Nat) (a0 : Int × Int × List Int) (b1 : Int × Int × List Int) (kr : Bool → Option ρ) : Option ρ :=
 cond (lk N (!(decide (a0.1 = b1.1))))
 (
  kr false)
 (
  cond (lk N (!(decide (a0.2.1 = b1.2.1))))
  (
   kr false)
  (
   cond (!(lk N ((laws_eqIntS.g a0.2.2 b1.2.2))))
   (
    kr false)
   (
    kr true)))
def Spec : Prop := ∀  (a0 : Int × Int × List Int) (b1 : Int × Int × List Int), Ty.bd (.pair (.int .i64) (.pair (.int .i64) (.sl 0 (.int .i64)))) a0 → Ty.bd (.pair (.int .i64) (.pair (.int .i64) (.sl 0 (.int .i64)))) b1 → ∃ N0, ∀ N, N0 ≤ N → Z0 N a0 b1 (fun t4 => some ((), (t4, ()))) = some ((), ((g a0 b1), ()))

theorem ok : Spec := fun a b ha hb => ⟨0, fun N hN => by
  obtain ⟨a1, a2, a3⟩ := a
  obtain ⟨b1, b2, b3⟩ := b
  simp only [Z0, lk_eq, g, laws_eqIntS.g, Prod.mk.injEq]
  by_cases h1 : a1 = b1 <;> by_cases h2 : a2 = b2 <;> by_cases h3 : a3 = b3 <;> simp [h1, h2, h3]⟩

end laws_eqMatrix
end
end Go.Fw
set_option linter.unusedVariables false
set_option linter.unusedSimpArgs false
set_option maxRecDepth 100000
namespace Go.Fw
noncomputable section
namespace laws_FnExactPrincipalMatrix
def g (_ : Int × Int × List Int) : Bool := true
end laws_FnExactPrincipalMatrix
namespace laws_FnExactPrincipalMatrix
def Z1 {ρ : Type} (N : Nat) (aM0 : Int × Int × List Int) (kn : Int → Int → List Int → Option ρ) : Option ρ :=
 kn aM0.1 aM0.2.1 aM0.2.2
def Z3 {ρ : Type} (N : Nat) (aM1_0 : Int) (aM1_1 : Int) (aM1_2 : List Int) (kn : Int → Int → Int → List Int → Option ρ) : Option ρ :=
 kn 1048576 aM1_0 aM1_1 aM1_2
def Z5 {ρ : Type} (N : Nat) (left3 : Int) (aM1_0 : Int) (aM1_1 : Int) (aM1_2 : List Int) (kn : Int → Int → Int → List Int → Option ρ) : Option ρ :=
 kn (laws_szMatrix.g (aM1_0, (aM1_1, aM1_2)) left3) aM1_0 aM1_1 aM1_2
def Z7 {ρ : Type} (N : Nat) (left3 : Int) (aM1_0 : Int) (aM1_1 : Int) (aM1_2 : List Int) (kn : Int → Int → List Int → Option ρ) (kr : Bool → Option ρ) : Option ρ :=
 cond (lk N (decide (left3 < 0)))
 (
  kr true)
 (
  kn aM1_0 aM1_1 aM1_2)
def Z9 {ρ : Type} (N : Nat) (aM1_0 : Int) (aM1_1 : Int) (aM1_2 : List Int) (kn : List Int → Bool → Int → Int → List Int → Int → Int → Option ρ) : Option ρ :=
 cond (lk N (laws_toMatrix.P (aM1_0, (aM1_1, aM1_2)))) (
  kn (spec_PrincipalMatrix.g (laws_toMatrix.g (aM1_0, (aM1_1, aM1_2)))).1.2.2 (lk N ((spec_PrincipalMatrix.g (laws_toMatrix.g (aM1_0, (aM1_1, aM1_2)))).2)) aM1_0 aM1_1 aM1_2 (spec_PrincipalMatrix.g (laws_toMatrix.g (aM1_0, (aM1_1, aM1_2)))).1.1 (spec_PrincipalMatrix.g (laws_toMatrix.g (aM1_0, (aM1_1, aM1_2)))).1.2.1) none
def Z11 {ρ : Type} (N : Nat) (w04_2 : List Int) (w15 : Bool) (aM1_0 : Int) (aM1_1 : Int) (aM1_2 : List Int) (w04_0 : Int) (w04_1 : Int) (kn : List Int → List Int → Bool → Int → Int → List Int → Int → Int → Int → Int → Option ρ) : Option ρ :=
 cond (lk N (laws_toMatrix.P (aM1_0, (aM1_1, aM1_2)))) (
  kn w04_2 (laws_toMatrix.g (aM1_0, (aM1_1, aM1_2))).2.2 w15 aM1_0 aM1_1 aM1_2 w04_0 w04_1 (laws_toMatrix.g (aM1_0, (aM1_1, aM1_2))).1 (laws_toMatrix.g (aM1_0, (aM1_1, aM1_2))).2.1) none
def Z13 {ρ : Type} (N : Nat) (w04_2 : List Int) (x06_2 : List Int) (w15 : Bool) (aM1_0 : Int) (aM1_1 : Int) (aM1_2 : List Int) (w04_0 : Int) (w04_1 : Int) (x06_0 : Int) (x06_1 : Int) (kn : List Int → List Int → List Int → Bool → Bool → Int → Int → List Int → Int → Int → Int → Int → Int → Int → Option ρ) : Option ρ :=
 kn w04_2 x06_2 (impl_PrincipalMatrix.g (x06_0, (x06_1, x06_2))).1.2.2 w15 (lk N ((impl_PrincipalMatrix.g (x06_0, (x06_1, x06_2))).2)) aM1_0 aM1_1 aM1_2 w04_0 w04_1 x06_0 x06_1 (impl_PrincipalMatrix.g (x06_0, (x06_1, x06_2))).1.1 (impl_PrincipalMatrix.g (x06_0, (x06_1, x06_2))).1.2.1
def Z15 {ρ : Type} (N : Nat) (w04_2 : List Int) (x06_2 : List Int) (g07_2 : List Int) (w15 : Bool) (g18 : Bool) (aM1_0 : Int) (aM1_1 : Int) (aM1_2 : List Int) (w04_0 : Int) (w04_1 : Int) (x06_0 : Int) (x06_1 : Int) (g07_0 : Int) (g07_1 : Int) (kn : List Int → List Int → List Int → Bool → Bool → Int → Int → List Int → Int → Int → Int → Int → Int → Int → Option ρ) (kr : Bool → Option ρ) : Option ρ :=
 cond (!(lk N ((laws_eqMatrix.g (g07_0, (g07_1, g07_2)) (w04_0, (w04_1, w04_2))))))
 (
  kr false)
 (
  cond (lk N (!((g18 == w15))))
  (
   kr false)
  (
   kn w04_2 x06_2 g07_2 w15 g18 aM1_0 aM1_1 aM1_2 w04_0 w04_1 x06_0 x06_1 g07_0 g07_1))
def Z17 {ρ : Type} (N : Nat) (w04_2 : List Int) (x06_2 : List Int) (g07_2 : List Int) (w15 : Bool) (g18 : Bool) (aM1_0 : Int) (aM1_1 : Int) (aM1_2 : List Int) (w04_0 : Int) (w04_1 : Int) (x06_0 : Int) (x06_1 : Int) (g07_0 : Int) (g07_1 : Int) (kn : List Int → List Int → List Int → Bool → Bool → Int → Int → List Int → Int → Int → Int → Int → Int → Int → Option ρ) (kr : Bool → Option ρ) : Option ρ :=
 cond (lk N (laws_toMatrix.P (aM1_0, (aM1_1, aM1_2)))) (
  cond (!(lk N ((laws_eqMatrix.g (x06_0, (x06_1, x06_2)) (laws_toMatrix.g (aM1_0, (aM1_1, aM1_2)))))))
  (
   kr false)
  (
   kn w04_2 x06_2 g07_2 w15 g18 aM1_0 aM1_1 aM1_2 w04_0 w04_1 x06_0 x06_1 g07_0 g07_1)) none
def Z19 {ρ : Type} (N : Nat) (w04_2 : List Int) (x06_2 : List Int) (g07_2 : List Int) (w15 : Bool) (g18 : Bool) (aM1_0 : Int) (aM1_1 : Int) (aM1_2 : List Int) (w04_0 : Int) (w04_1 : Int) (x06_0 : Int) (x06_1 : Int) (g07_0 : Int) (g07_1 : Int) (kn : List Int → List Int → List Int → Bool → Bool → Int → Int → Int → List Int → Int → Int → Int → Int → Int → Int → Option ρ) : Option ρ :=
 kn w04_2 x06_2 g07_2 w15 g18 1 aM1_0 aM1_1 aM1_2 w04_0 w04_1 x06_0 x06_1 g07_0 g07_1
def Z21 {ρ : Type} (N : Nat) (w04_2 : List Int) (x06_2 : List Int) (g07_2 : List Int) (w15 : Bool) (g18 : Bool) (k9 : Int) (aM1_0 : Int) (aM1_1 : Int) (aM1_2 : List Int) (w04_0 : Int) (w04_1 : Int) (x06_0 : Int) (x06_1 : Int) (g07_0 : Int) (g07_1 : Int) (kn : List Int → List Int → Bool → Bool → Int → Int → Int → List Int → Int → Int → Int → Int → Option ρ) : Option ρ :=
 kn w04_2 g07_2 w15 g18 (laws_markMatrix.g (x06_0, (x06_1, x06_2)) k9).2 aM1_0 aM1_1 aM1_2 w04_0 w04_1 g07_0 g07_1
def Z23 {ρ : Type} (N : Nat) (w04_2 : List Int) (g07_2 : List Int) (w15 : Bool) (g18 : Bool) (k9 : Int) (aM1_0 : Int) (aM1_1 : Int) (aM1_2 : List Int) (w04_0 : Int) (w04_1 : Int) (g07_0 : Int) (g07_1 : Int) (kn : List Int → List Int → Bool → Int → Int → List Int → Int → Int → Int → Int → Option ρ) (kr : Bool → Option ρ) : Option ρ :=
 cond (lk N (decide (k9 < 0)))
 (
  kr false)
 (
  cond (!(lk N ((laws_eqMatrix.g (g07_0, (g07_1, g07_2)) (w04_0, (w04_1, w04_2))))))
  (
   kr false)
  (
   cond (lk N (!((g18 == w15))))
   (
    kr false)
   (
    kn w04_2 g07_2 w15 aM1_0 aM1_1 aM1_2 w04_0 w04_1 g07_0 g07_1)))
def Z24 {ρ : Type} (N : Nat) (w04_2 : List Int) (g07_2 : List Int) (w15 : Bool) (aM1_0 : Int) (aM1_1 : Int) (aM1_2 : List Int) (w04_0 : Int) (w04_1 : Int) (g07_0 : Int) (g07_1 : Int) (kr : Bool → Option ρ) : Option ρ :=
 cond (lk N (decide ((laws_heldMatrix.g (g07_0, (g07_1, (laws_markMatrix.g (g07_0, (g07_1, g07_2)) 1).1.2.2)) 1) < 0)))
 (
  kr false)
 (
  cond (lk N (!(decide ((laws_heldMatrix.g (g07_0, (g07_1, (laws_markMatrix.g (g07_0, (g07_1, g07_2)) 1).1.2.2)) 1) = (laws_markMatrix.g (g07_0, (g07_1, g07_2)) 1).2))))
  (
   kr false)
  (
   cond (lk N (laws_toMatrix.P (aM1_0, (aM1_1, aM1_2)))) (
    cond (!(lk N ((laws_eqMatrix.g (impl_PrincipalMatrix.g (laws_toMatrix.g (aM1_0, (aM1_1, aM1_2)))).1 (w04_0, (w04_1, w04_2))))))
    (
     kr false)
    (
     cond (lk N (!(((lk N ((impl_PrincipalMatrix.g (laws_toMatrix.g (aM1_0, (aM1_1, aM1_2)))).2)) == w15))))
     (
      kr false)
     (
      cond (lk N (decide ((laws_heldMatrix.g (g07_0, (g07_1, (laws_markMatrix.g (g07_0, (g07_1, g07_2)) 1).1.2.2)) 1) < 0)))
      (
       kr false)
      (
       cond (lk N (!(decide ((laws_heldMatrix.g (g07_0, (g07_1, (laws_markMatrix.g (g07_0, (g07_1, g07_2)) 1).1.2.2)) 1) = (laws_markMatrix.g (g07_0, (g07_1, g07_2)) 1).2))))
       (
        kr false)
       (
        kr true))))) none))
def Z22 {ρ : Type} (N : Nat) (w04_2 : List Int) (g07_2 : List Int) (w15 : Bool) (g18 : Bool) (k9 : Int) (aM1_0 : Int) (aM1_1 : Int) (aM1_2 : List Int) (w04_0 : Int) (w04_1 : Int) (g07_0 : Int) (g07_1 : Int) (kr : Bool → Option ρ) : Option ρ := Z23 N w04_2 g07_2 w15 g18 k9 aM1_0 aM1_1 aM1_2 w04_0 w04_1 g07_0 g07_1 (fun w04_2 g07_2 w15 aM1_0 aM1_1 aM1_2 w04_0 w04_1 g07_0 g07_1 => Z24 N w04_2 g07_2 w15 aM1_0 aM1_1 aM1_2 w04_0 w04_1 g07_0 g07_1 kr) kr
def Z20 {ρ : Type} (N : Nat) (w04_2 : List Int) (x06_2 : List Int) (g07_2 : List Int) (w15 : Bool) (g18 : Bool) (k9 : Int) (aM1_0 : Int) (aM1_1 : Int) (aM1_2 : List Int) (w04_0 : Int) (w04_1 : Int) (x06_0 : Int) (x06_1 : Int) (g07_0 : Int) (g07_1 : Int) (kr : Bool → Option ρ) : Option ρ := Z21 N w04_2 x06_2 g07_2 w15 g18 k9 aM1_0 aM1_1 aM1_2 w04_0 w04_1 x06_0 x06_1 g07_0 g07_1 (fun w04_2 g07_2 w15 g18 k9 aM1_0 aM1_1 aM1_2 w04_0 w04_1 g07_0 g07_1 => Z22 N w04_2 g07_2 w15 g18 k9 aM1_0 aM1_1 aM1_2 w04_0 w04_1 g07_0 g07_1 kr)
def Z18 {ρ : Type} (N : Nat) (w04_2 : List Int) (x06_2 : List Int) (g07_2 : List Int) (w15 : Bool) (g18 : Bool) (aM1_0 : Int) (aM1_1 : Int) (aM1_2 : List Int) (w04_0 : Int) (w04_1 : Int) (x06_0 : Int) (x06_1 : Int) (g07_0 : Int) (g07_1 : Int) (kr : Bool → Option ρ) : Option ρ := Z19 N w04_2 x06_2 g07_2 w15 g18 aM1_0 aM1_1 aM1_2 w04_0 w04_1 x06_0 x06_1 g07_0 g07_1 (fun w04_2 x06_2 g07_2 w15 g18 k9 aM1_0 aM1_1 aM1_2 w04_0 w04_1 x06_0 x06_1 g07_0 g07_1 => Z20 N w04_2 x06_2 g07_2 w15 g18 k9 aM1_0 aM1_1 aM1_2 w04_0 w04_1 x06_0 x06_1 g07_0 g07_1 kr)
def Z16 {ρ : Type} (N : Nat) (w04_2 : List Int) (x06_2 : List Int) (g07_2 : List Int) (w15 : Bool) (g18 : Bool) (aM1_0 : Int) (aM1_1 : Int) (aM1_2 : List Int) (w04_0 : Int) (w04_1 : Int) (x06_0 : Int) (x06_1 : Int) (g07_0 : Int) (g07_1 : Int) (kr : Bool → Option ρ) : Option ρ := Z17 N w04_2 x06_2 g07_2 w15 g18 aM1_0 aM1_1 aM1_2 w04_0 w04_1 x06_0 x06_1 g07_0 g07_1 (fun w04_2 x06_2 g07_2 w15 g18 aM1_0 aM1_1 aM1_2 w04_0 w04_1 x06_0 x06_1 g07_0 g07_1 => Z18 N w04_2 x06_2 g07_2 w15 g18 aM1_0 aM1_1 aM1_2 w04_0 w04_1 x06_0 x06_1 g07_0 g07_1 kr) kr
def Z14 {ρ : Type} (N : Nat) (w04_2 : List Int) (x06_2 : List Int) (g07_2 : List Int) (w15 : Bool) (g18 : Bool) (aM1_0 : Int) (aM1_1 : Int) (aM1_2 : List Int) (w04_0 : Int) (w04_1 : Int) (x06_0 : Int) (x06_1 : Int) (g07_0 : Int) (g07_1 : Int) (kr : Bool → Option ρ) : Option ρ := Z15 N w04_2 x06_2 g07_2 w15 g18 aM1_0 aM1_1 aM1_2 w04_0 w04_1 x06_0 x06_1 g07_0 g07_1 (fun w04_2 x06_2 g07_2 w15 g18 aM1_0 aM1_1 aM1_2 w04_0 w04_1 x06_0 x06_1 g07_0 g07_1 => Z16 N w04_2 x06_2 g07_2 w15 g18 aM1_0 aM1_1 aM1_2 w04_0 w04_1 x06_0 x06_1 g07_0 g07_1 kr) kr
def Z12 {ρ : Type} (N : Nat) (w04_2 : List Int) (x06_2 : List Int) (w15 : Bool) (aM1_0 : Int) (aM1_1 : Int) (aM1_2 : List Int) (w04_0 : Int) (w04_1 : Int) (x06_0 : Int) (x06_1 : Int) (kr : Bool → Option ρ) : Option ρ := Z13 N w04_2 x06_2 w15 aM1_0 aM1_1 aM1_2 w04_0 w04_1 x06_0 x06_1 (fun w04_2 x06_2 g07_2 w15 g18 aM1_0 aM1_1 aM1_2 w04_0 w04_1 x06_0 x06_1 g07_0 g07_1 => Z14 N w04_2 x06_2 g07_2 w15 g18 aM1_0 aM1_1 aM1_2 w04_0 w04_1 x06_0 x06_1 g07_0 g07_1 kr)
def Z10 {ρ : Type} (N : Nat) (w04_2 : List Int) (w15 : Bool) (aM1_0 : Int) (aM1_1 : Int) (aM1_2 : List Int) (w04_0 : Int) (w04_1 : Int) (kr : Bool → Option ρ) : Option ρ := Z11 N w04_2 w15 aM1_0 aM1_1 aM1_2 w04_0 w04_1 (fun w04_2 x06_2 w15 aM1_0 aM1_1 aM1_2 w04_0 w04_1 x06_0 x06_1 => Z12 N w04_2 x06_2 w15 aM1_0 aM1_1 aM1_2 w04_0 w04_1 x06_0 x06_1 kr)
def Z8 {ρ : Type} (N : Nat) (aM1_0 : Int) (aM1_1 : Int) (aM1_2 : List Int) (kr : Bool → Option ρ) : Option ρ := Z9 N aM1_0 aM1_1 aM1_2 (fun w04_2 w15 aM1_0 aM1_1 aM1_2 w04_0 w04_1 => Z10 N w04_2 w15 aM1_0 aM1_1 aM1_2 w04_0 w04_1 kr)
def Z6 {ρ : Type} (N : Nat) (left3 : Int) (aM1_0 : Int) (aM1_1 : Int) (aM1_2 : List Int) (kr : Bool → Option ρ) : Option ρ := Z7 N left3 aM1_0 aM1_1 aM1_2 (fun aM1_0 aM1_1 aM1_2 => Z8 N aM1_0 aM1_1 aM1_2 kr) kr
def Z4 {ρ : Type} (N : Nat) (left3 : Int) (aM1_0 : Int) (aM1_1 : Int) (aM1_2 : List Int) (kr : Bool → Option ρ) : Option ρ := Z5 N left3 aM1_0 aM1_1 aM1_2 (fun left3 aM1_0 aM1_1 aM1_2 => Z6 N left3 aM1_0 aM1_1 aM1_2 kr)
def Z2 {ρ : Type} (N : Nat) (aM1_0 : Int) (aM1_1 : Int) (aM1_2 : List Int) (kr : Bool → Option ρ) : Option ρ := Z3 N aM1_0 aM1_1 aM1_2 (fun left3 aM1_0 aM1_1 aM1_2 => Z4 N left3 aM1_0 aM1_1 aM1_2 kr)
def Z0 {ρ : Type} (N : Nat) (aM0 : Int × Int × List Int) (kr : Bool → Option ρ) : Option ρ := Z1 N aM0 (fun aM1_0 aM1_1 aM1_2 => Z2 N aM1_0 aM1_1 aM1_2 kr)
def Spec : Prop := ∀  (aM0 : Int × Int × List Int), Ty.bd (.pair (.int .i64) (.pair (.int .i64) (.sl 0 (.int .i64)))) aM0 → ∃ N0, ∀ N, N0 ≤ N → Z0 N aM0 (fun t2 => some ((), (t2, ()))) = some ((), ((g aM0), ()))

theorem ok : Spec := fun m hb => ⟨0, fun N hN => by
  by_cases hl : laws_szMatrix.g m 1048576 < 0
  · simp only [Z1, Z3, Z5, Z7, Z9, Z11, Z13, Z15, Z17, Z19, Z21, Z23, Z24, Z22, Z20, Z18, Z16, Z14, Z12, Z10, Z8, Z6, Z4, Z2, Z0]
    rw [ct (dt hl)]
    rfl
  obtain ⟨hP, hlen⟩ := szMat_P m hb.2.2.1 hl
  have he : impl_PrincipalMatrix.g m = spec_PrincipalMatrix.g m := by
    unfold impl_PrincipalMatrix.g spec_PrincipalMatrix.g
    rw [ok_alike]
  have hs : (spec_PrincipalMatrix.g m).1.2.2.length < 4611686018427387904 := by
    unfold spec_PrincipalMatrix.g
    split
    · rename_i h
      simp only [Bool.and_eq_true] at h
      have := princ_len (shaped_dim (sizes_shaped h.1.1)) m.1.toNat (Nat.le_refl _)
      show (m.2.2 ++ rowsU m.1.toNat m.1.toNat).length < _
      omega
    · decide
  obtain ⟨h1, h2⟩ := mat_mark _ hs
  have hm : ¬ (laws_markMatrix.g m 1).2 < 0 := (mat_mark m (by omega)).2
  simp only [Z1, Z3, Z5, Z7, Z9, Z11, Z13, Z15, Z17, Z19, Z21, Z23, Z24, Z22, Z20, Z18, Z16, Z14, Z12, Z10, Z8, Z6, Z4, Z2, Z0, lk_eq, laws_toMatrix.g, hP, he, laws_eqMatrix.g, h1, df hl, df hm, df h2, dt (rfl : m = _), dt (rfl : (spec_PrincipalMatrix.g m).1 = _), dt (rfl : (laws_markMatrix.g (spec_PrincipalMatrix.g m).1 1).2 = _), beq_self_eq_true]
  rfl⟩

end laws_FnExactPrincipalMatrix
end
end Go.Fw
