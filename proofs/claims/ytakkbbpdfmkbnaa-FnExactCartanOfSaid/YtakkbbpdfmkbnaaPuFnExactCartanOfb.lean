/- The plain part: what the functions compute, in lists and numbers. Nothing is assumed. -/
import Derived.Test.YtakkbbpdfmkbnaaFwb
import Derived.Test.YtakkbbpdfmkbnaaPuFnExactCartanOfa
set_option linter.unusedVariables false
set_option linter.unusedSimpArgs false
set_option maxRecDepth 100000
namespace Go.Fw
noncomputable section
namespace impl_CartanOf
def g (m : Int × Int × List Int) : List (List Int) := if (shapedK m && !decide (facK m = [])) = true then carK m else []
end impl_CartanOf
namespace impl_CartanOf
def Z1 {ρ : Type} (N : Nat) (m0 : Int × Int × List Int) (kn : Int → Int → List Int → Option ρ) : Option ρ :=
 kn m0.1 m0.2.1 m0.2.2
def Z3 {ρ : Type} (N : Nat) (m1_0 : Int) (m1_1 : Int) (m1_2 : List Int) (kn : Int → Int → List Int → Option ρ) (kr : List (List Int) → Option ρ) : Option ρ :=
 cond (!(lk N ((impl_MatrixOk.g (m1_0, (m1_1, m1_2))))))
 (
  kr ([] : List (List Int)))
 (
  kn m1_0 m1_1 m1_2)
def Z5 {ρ : Type} (N : Nat) (m1_0 : Int) (m1_1 : Int) (m1_2 : List Int) (kn : Int → Int → List Int → Option ρ) : Option ρ :=
 kn m1_0 m1_1 m1_2
def Z8 {ρ : Type} (N : Nat) (m1_0 : Int) (m1_1 : Int) (m1_2 : List Int) (kn : Int → Int → Int → List Int → Option ρ) : Option ρ :=
 kn 0 m1_0 m1_1 m1_2
def Z12 {ρ : Type} (N : Nat) (out3 : List (List Int)) (i4 : Int) (m1_0 : Int) (m1_1 : Int) (m1_2 : List Int) (kn : List (List Int) → Int → Int → Int → List Int → Option ρ) (k0 : List (List Int) → Option ρ) : Option ρ :=
 cond (lk N (decide (i4 < m1_0)))
 (
  kn out3 i4 m1_0 m1_1 m1_2)
 (
  k0 out3)
def Z16 {ρ : Type} (N : Nat) (out3 : List (List Int)) (i4 : Int) (m1_0 : Int) (m1_1 : Int) (m1_2 : List Int) (kn : List (List Int) → Int → Int → Int → List Int → Option ρ) : Option ρ :=
 kn out3 i4 m1_0 m1_1 m1_2
def Z19 {ρ : Type} (N : Nat) (out3 : List (List Int)) (i4 : Int) (m1_0 : Int) (m1_1 : Int) (m1_2 : List Int) (kn : List (List Int) → Int → Int → Int → Int → List Int → Option ρ) : Option ρ :=
 kn out3 i4 0 m1_0 m1_1 m1_2
def Z22 {ρ : Type} (N : Nat) (out3 : List (List Int)) (row5 : List Int) (i4 : Int) (j6 : Int) (m1_0 : Int) (m1_1 : Int) (m1_2 : List Int) (kn : List (List Int) → List Int → Int → Int → Int → Int → List Int → Option ρ) (k2 : List (List Int) → List Int → Int → Int → Int → List Int → Option ρ) : Option ρ :=
 cond (lk N (decide (j6 < m1_0)))
 (
  cond (lk N (impl_Matrix_at.P (m1_0, (m1_1, m1_2)) i4 j6)) (
   cond (lk N (decide (i4 = j6)))
   (
    cond (lk N (Nat.blt (row5.length + ([2] : List Int).length) 1099511627776)) (
     kn out3 (row5 ++ ([2] : List Int)) i4 (w64 (j6 + 1)) m1_0 m1_1 m1_2) none)
   (
    cond (lk N (Nat.blt (row5.length + ([(w64 (0 - (mx (impl_Matrix_at.g (m1_0, (m1_1, m1_2)) i4 j6) (w64 (0 - (impl_Matrix_at.g (m1_0, (m1_1, m1_2)) i4 j6))))))] : List Int).length) 1099511627776)) (
     kn out3 (row5 ++ ([(w64 (0 - (mx (impl_Matrix_at.g (m1_0, (m1_1, m1_2)) i4 j6) (w64 (0 - (impl_Matrix_at.g (m1_0, (m1_1, m1_2)) i4 j6))))))] : List Int)) i4 (w64 (j6 + 1)) m1_0 m1_1 m1_2) none)) none)
 (
  k2 out3 row5 i4 m1_0 m1_1 m1_2)
def Z21L {ρ : Type} (N : Nat) (k2 : List (List Int) → List Int → Int → Int → Int → List Int → Option ρ) : Nat → List (List Int) → List Int → Int → Int → Int → Int → List Int → Option ρ
  | 0, _, _, _, _, _, _, _ => none
  | M + 1, out3, row5, i4, j6, m1_0, m1_1, m1_2 => Z22 N out3 row5 i4 j6 m1_0 m1_1 m1_2 (fun out3 row5 i4 j6 m1_0 m1_1 m1_2 => Z21L N k2 M out3 row5 i4 j6 m1_0 m1_1 m1_2) k2
def Z21 {ρ : Type} (N : Nat) (out3 : List (List Int)) (i4 : Int) (j6 : Int) (m1_0 : Int) (m1_1 : Int) (m1_2 : List Int) (k2 : List (List Int) → List Int → Int → Int → Int → List Int → Option ρ) : Option ρ := Z21L N k2 N out3 ([] : List Int) i4 j6 m1_0 m1_1 m1_2
def Z20 {ρ : Type} (N : Nat) (out3 : List (List Int)) (i4 : Int) (j6 : Int) (m1_0 : Int) (m1_1 : Int) (m1_2 : List Int) (kn : List (List Int) → List Int → Int → Int → Int → List Int → Option ρ) : Option ρ := Z21 N out3 i4 j6 m1_0 m1_1 m1_2 kn
def Z18 {ρ : Type} (N : Nat) (out3 : List (List Int)) (i4 : Int) (m1_0 : Int) (m1_1 : Int) (m1_2 : List Int) (kn : List (List Int) → List Int → Int → Int → Int → List Int → Option ρ) : Option ρ := Z19 N out3 i4 m1_0 m1_1 m1_2 (fun out3 i4 j6 m1_0 m1_1 m1_2 => Z20 N out3 i4 j6 m1_0 m1_1 m1_2 kn)
def Z23 {ρ : Type} (N : Nat) (out3 : List (List Int)) (row5 : List Int) (i4 : Int) (m1_0 : Int) (m1_1 : Int) (m1_2 : List Int) (kn : List (List Int) → Int → Int → Int → List Int → Option ρ) : Option ρ :=
 cond (lk N (Nat.blt (out3.length + ([row5] : List (List Int)).length) 1099511627776)) (
  kn (out3 ++ ([row5] : List (List Int))) i4 m1_0 m1_1 m1_2) none
def Z17 {ρ : Type} (N : Nat) (out3 : List (List Int)) (i4 : Int) (m1_0 : Int) (m1_1 : Int) (m1_2 : List Int) (kn : List (List Int) → Int → Int → Int → List Int → Option ρ) : Option ρ := Z18 N out3 i4 m1_0 m1_1 m1_2 (fun out3 row5 i4 m1_0 m1_1 m1_2 => Z23 N out3 row5 i4 m1_0 m1_1 m1_2 kn)
def Z15 {ρ : Type} (N : Nat) (out3 : List (List Int)) (i4 : Int) (m1_0 : Int) (m1_1 : Int) (m1_2 : List Int) (kn : List (List Int) → Int → Int → Int → List Int → Option ρ) : Option ρ := Z16 N out3 i4 m1_0 m1_1 m1_2 (fun out3 i4 m1_0 m1_1 m1_2 => Z17 N out3 i4 m1_0 m1_1 m1_2 kn)
def Z14 {ρ : Type} (N : Nat) (out3 : List (List Int)) (i4 : Int) (m1_0 : Int) (m1_1 : Int) (m1_2 : List Int) (kn : List (List Int) → Int → Int → Int → List Int → Option ρ) : Option ρ := Z15 N out3 i4 m1_0 m1_1 m1_2 kn
def Z24 {ρ : Type} (N : Nat) (out3 : List (List Int)) (i4 : Int) (m1_0 : Int) (m1_1 : Int) (m1_2 : List Int) (kn : List (List Int) → Int → Int → Int → List Int → Option ρ) : Option ρ :=
 kn out3 (w64 (i4 + 1)) m1_0 m1_1 m1_2
def Z13 {ρ : Type} (N : Nat) (out3 : List (List Int)) (i4 : Int) (m1_0 : Int) (m1_1 : Int) (m1_2 : List Int) (kn : List (List Int) → Int → Int → Int → List Int → Option ρ) : Option ρ := Z14 N out3 i4 m1_0 m1_1 m1_2 (fun out3 i4 m1_0 m1_1 m1_2 => Z24 N out3 i4 m1_0 m1_1 m1_2 kn)
def Z11 {ρ : Type} (N : Nat) (out3 : List (List Int)) (i4 : Int) (m1_0 : Int) (m1_1 : Int) (m1_2 : List Int) (kn : List (List Int) → Int → Int → Int → List Int → Option ρ) (k0 : List (List Int) → Option ρ) : Option ρ := Z12 N out3 i4 m1_0 m1_1 m1_2 (fun out3 i4 m1_0 m1_1 m1_2 => Z13 N out3 i4 m1_0 m1_1 m1_2 kn) k0
def Z10L {ρ : Type} (N : Nat) (k0 : List (List Int) → Option ρ) : Nat → List (List Int) → Int → Int → Int → List Int → Option ρ
  | 0, _, _, _, _, _ => none
  | M + 1, out3, i4, m1_0, m1_1, m1_2 => Z11 N out3 i4 m1_0 m1_1 m1_2 (fun out3 i4 m1_0 m1_1 m1_2 => Z10L N k0 M out3 i4 m1_0 m1_1 m1_2) k0
def Z10 {ρ : Type} (N : Nat) (i4 : Int) (m1_0 : Int) (m1_1 : Int) (m1_2 : List Int) (k0 : List (List Int) → Option ρ) : Option ρ := Z10L N k0 N ([] : List (List Int)) i4 m1_0 m1_1 m1_2
def Z9 {ρ : Type} (N : Nat) (i4 : Int) (m1_0 : Int) (m1_1 : Int) (m1_2 : List Int) (kn : List (List Int) → Option ρ) : Option ρ := Z10 N i4 m1_0 m1_1 m1_2 kn
def Z7 {ρ : Type} (N : Nat) (m1_0 : Int) (m1_1 : Int) (m1_2 : List Int) (kn : List (List Int) → Option ρ) : Option ρ := Z8 N m1_0 m1_1 m1_2 (fun i4 m1_0 m1_1 m1_2 => Z9 N i4 m1_0 m1_1 m1_2 kn)
def Z25 {ρ : Type} (N : Nat) (out3 : List (List Int)) (kr : List (List Int) → Option ρ) : Option ρ :=
 kr out3
def Z6 {ρ : Type} (N : Nat) (m1_0 : Int) (m1_1 : Int) (m1_2 : List Int) (kr : List (List Int) → Option ρ) : Option ρ := Z7 N m1_0 m1_1 m1_2 (fun out3 => Z25 N out3 kr)
def Z4 {ρ : Type} (N : Nat) (m1_0 : Int) (m1_1 : Int) (m1_2 : List Int) (kr : List (List Int) → Option ρ) : Option ρ := Z5 N m1_0 m1_1 m1_2 (fun m1_0 m1_1 m1_2 => Z6 N m1_0 m1_1 m1_2 kr)
def Z2 {ρ : Type} (N : Nat) (m1_0 : Int) (m1_1 : Int) (m1_2 : List Int) (kr : List (List Int) → Option ρ) : Option ρ := Z3 N m1_0 m1_1 m1_2 (fun m1_0 m1_1 m1_2 => Z4 N m1_0 m1_1 m1_2 kr) kr
def Z0 {ρ : Type} (N : Nat) (m0 : Int × Int × List Int) (kr : List (List Int) → Option ρ) : Option ρ := Z1 N m0 (fun m1_0 m1_1 m1_2 => Z2 N m1_0 m1_1 m1_2 kr)
def Spec : Prop := ∀  (m0 : Int × Int × List Int), Ty.bd (.pair (.int .i64) (.pair (.int .i64) (.sl 0 (.int .i64)))) m0 → ∃ N0, ∀ N, N0 ≤ N → Z0 N m0 (fun t2 => some ((), (t2, ()))) = some ((), ((g m0), ()))

theorem at_g {m : Int × Int × List Int} (hd : 0 ≤ m.1) (a b : Nat) : impl_Matrix_at.g (m.1, (m.2.1, m.2.2)) (a : Int) (b : Int) = ent m a b := atK_nat hd a b
theorem at_p {m : Int × Int × List Int} (hd : dimK m = true) {a b : Nat} (ha : a < m.1.toNat) (hb : b < m.1.toNat) : impl_Matrix_at.P (m.1, (m.2.1, m.2.2)) (a : Int) (b : Int) = true := by
  obtain ⟨n, r, hn, hr, hn1, hn5, hnr, hr8, hl⟩ := dim_nat hd
  exact at_ok hd (by omega) hb
theorem inner {ρ : Type} {N : Nat} {m : Int × Int × List Int} (hs : shapedK m = true) (k2 : List (List Int) → List Int → Int → Int → Int → List Int → Option ρ) (out : List (List Int)) {i : Nat} (hi : i < m.1.toNat) : ∀ (M j : Nat), j ≤ m.1.toNat → m.1.toNat - j < M →
    Z21L N k2 M out ((carRow m i).take j) (i : Int) (j : Int) m.1 m.2.1 m.2.2 = k2 out (carRow m i) (i : Int) m.1 m.2.1 m.2.2 := by
  have hd := shaped_dim hs
  obtain ⟨n, r, hn, hr, hn1, hn5, hnr, hr8, hl⟩ := dim_nat hd
  intro M
  induction M with
  | zero => intro j _ h; omega
  | succ M ih =>
    intro j hj hM
    simp only [Z21L, Z22]
    have hrl : (carRow m i).length = m.1.toNat := by simp [carRow]
    by_cases h : j < m.1.toNat
    · have hlen : ∀ x : Int, Nat.blt (((carRow m i).take j).length + ([x] : List Int).length) 1099511627776 = true := fun x => by
        rw [Nat.blt_eq, List.length_take, hrl, List.length_singleton]; omega
      have ht : (carRow m i).take j ++ [carE m i j] = (carRow m i).take (j + 1) := car_take (carE m i) h
      have := ih (j + 1) h (by omega)
      rw [← ht] at this
      have hb := ent_bound hs i j
      have hA := at_g (m := m) (by omega) i j
      rw [ct (dt (by omega))]
      have ha : mx (ent m i j) (w64 (0 - ent m i j)) = absK (ent m i j) := by
        rw [w64_id (by omega) (by omega), mx_eq]
        unfold absK
        omega
      have hab := absK_le hb
      have hw : w64 (0 - absK (ent m i j)) = -(absK (ent m i j)) := by
        have : 0 ≤ absK (ent m i j) := by unfold absK; omega
        rw [w64_id (by omega) (by omega)]; omega
      rw [ct (at_p hd hi h), hA, ha, hw]
      by_cases e : i = j
      · rw [carE, if_pos e] at this
        rw [ct (dt (by omega)), ct (hlen _), w64_succ (by rw [maxLen_val]; omega)]
        exact this
      · rw [carE, if_neg e] at this
        rw [cf (df (by omega)), ct (hlen _), w64_succ (by rw [maxLen_val]; omega)]
        exact this
    · rw [cf (df (by omega)), List.take_of_length_le (by rw [hrl]; omega)]
theorem loop {ρ : Type} {N : Nat} (hN : 10 ≤ N) {m : Int × Int × List Int} (hs : shapedK m = true) (k0 : List (List Int) → Option ρ) : ∀ (M i : Nat), i ≤ m.1.toNat → m.1.toNat - i < M →
    Z10L N k0 M ((carK m).take i) (i : Int) m.1 m.2.1 m.2.2 = k0 (carK m) := by
  have hd := shaped_dim hs
  obtain ⟨n, r, hn, hr, hn1, hn5, hnr, hr8, hl⟩ := dim_nat hd
  have hcl : (carK m).length = m.1.toNat := by simp [carK]
  intro M
  induction M with
  | zero => intro i _ h; omega
  | succ M ih =>
    intro i hi hM
    simp only [Z10L, Z11, Z12]
    by_cases h : i < m.1.toNat
    · have ht : (carK m).take i ++ [carRow m i] = (carK m).take (i + 1) := car_take (carRow m) h
      rw [ct (dt (by omega))]
      simp only [Z13, Z14, Z15, Z16, Z17, Z18, Z19, Z20, Z21]
      have hin := inner (ρ := ρ) (N := N) hs (fun out3 row5 i4 m1_0 m1_1 m1_2 => Z23 N out3 row5 i4 m1_0 m1_1 m1_2 (fun out3 i4 m1_0 m1_1 m1_2 => Z24 N out3 i4 m1_0 m1_1 m1_2 (fun out3 i4 m1_0 m1_1 m1_2 => Z10L N k0 M out3 i4 m1_0 m1_1 m1_2))) ((carK m).take i) h N 0 (by omega) (by omega)
      rw [List.take_zero, show ((0 : Nat) : Int) = 0 from rfl] at hin
      rw [hin]
      simp only [Z23, Z24]
      rw [ct (by rw [Nat.blt_eq, List.length_take, hcl, List.length_singleton]; omega), w64_succ (by rw [maxLen_val]; omega), ht]
      exact ih (i + 1) h (by omega)
    · rw [cf (df (by omega)), List.take_of_length_le (by rw [hcl]; omega)]
theorem ok : Spec := fun m hb => ⟨10, fun N hN => by
  have e0 : impl_MatrixOk.g (m.1, (m.2.1, m.2.2)) = (shapedK m && !decide (facK m = [])) := rfl
  simp only [Z0, Z1, Z2, Z3, e0, g, lk_eq]
  cases h1 : (shapedK m && !decide (facK m = []))
  · rfl
  have hs : shapedK m = true := by
    simp only [Bool.and_eq_true] at h1
    first | exact sizes_shaped h1.1 | exact h1.1
  obtain ⟨n, r, hn, hr, hn1, hn5, hnr, hr8, hl⟩ := dim_nat (shaped_dim hs)
  simp only [Z4, Z5, Z6, Z7, Z8, Z9, Z10]
  have := loop (ρ := Unit × List (List Int) × Unit) hN hs (fun out3 => Z25 N out3 (fun t2 => some ((), (t2, ())))) N 0 (by omega) (by omega)
  exact this⟩

end impl_CartanOf
end
end Go.Fw
set_option linter.unusedVariables false
set_option linter.unusedSimpArgs false
set_option maxRecDepth 100000
namespace Go.Fw
noncomputable section
namespace laws_eqIntS
def g (a b : List Int) : Bool := decide (a = b)
end laws_eqIntS
namespace laws_eqIntS
def Z1 {ρ : Type} (N : Nat) (a0 : List Int) (b1 : List Int) (kn : List Int → List Int → Option ρ) : Option ρ :=
 kn a0 b1
def Z3 {ρ : Type} (N : Nat) (a0 : List Int) (b1 : List Int) (kn : List Int → List Int → Option ρ) (kr : Bool → Option ρ) : Option ρ :=
 cond (lk N (!(decide ((a0.length : Int) = (b1.length : Int)))))
 (
  kr false)
 (
  kn a0 b1)
def Z6 {ρ : Type} (N : Nat) (a0 : List Int) (b1 : List Int) (kn : List Int → List Int → Int → Option ρ) : Option ρ :=
 kn a0 b1 0
def Z9 {ρ : Type} (N : Nat) (a0 : List Int) (b1 : List Int) (i5 : Int) (kn : List Int → List Int → Int → Option ρ) (k0 : Option ρ) (kr : Bool → Option ρ) : Option ρ :=
 cond (lk N (decide (i5 < (a0.length : Int))))
 (
  cond (lk N (inB i5 a0.length)) (
   cond (lk N (inB i5 b1.length)) (
    cond (lk N (!(decide ((a0.getD i5.toNat 0) = (b1.getD i5.toNat 0)))))
    (
     kr false)
    (
     kn a0 b1 (w64 (i5 + 1)))) none) none)
 (
  k0)
def Z8L {ρ : Type} (N : Nat) (k0 : Option ρ) (kr : Bool → Option ρ) : Nat → List Int → List Int → Int → Option ρ
  | 0, _, _, _ => none
  | M + 1, a0, b1, i5 => Z9 N a0 b1 i5 (fun a0 b1 i5 => Z8L N k0 kr M a0 b1 i5) k0 kr
def Z8 {ρ : Type} (N : Nat) (a0 : List Int) (b1 : List Int) (i5 : Int) (k0 : Option ρ) (kr : Bool → Option ρ) : Option ρ := Z8L N k0 kr N a0 b1 i5
def Z7 {ρ : Type} (N : Nat) (a0 : List Int) (b1 : List Int) (i5 : Int) (kn : Option ρ) (kr : Bool → Option ρ) : Option ρ := Z8 N a0 b1 i5 kn kr
def Z5 {ρ : Type} (N : Nat) (a0 : List Int) (b1 : List Int) (kn : Option ρ) (kr : Bool → Option ρ) : Option ρ := Z6 N a0 b1 (fun a0 b1 i5 => Z7 N a0 b1 i5 kn kr)
def Z10 {ρ : Type} (N : Nat)  (kr : Bool → Option ρ) : Option ρ :=
 kr true
def Z4 {ρ : Type} (N : Nat) (a0 : List Int) (b1 : List Int) (kr : Bool → Option ρ) : Option ρ := Z5 N a0 b1 (Z10 N kr) kr
def Z2 {ρ : Type} (N : Nat) (a0 : List Int) (b1 : List Int) (kr : Bool → Option ρ) : Option ρ := Z3 N a0 b1 (fun a0 b1 => Z4 N a0 b1 kr) kr
def Z0 {ρ : Type} (N : Nat) (a0 : List Int) (b1 : List Int) (kr : Bool → Option ρ) : Option ρ := Z1 N a0 b1 (fun a0 b1 => Z2 N a0 b1 kr)
def Spec : Prop := ∀  (a0 : List Int) (b1 : List Int), Ty.bd (.sl 0 (.int .i64)) a0 → Ty.bd (.sl 0 (.int .i64)) b1 → ∃ N0, ∀ N, N0 ≤ N → Z0 N a0 b1 (fun t4 => some ((), (t4, ()))) = some ((), ((g a0 b1), ()))

theorem loop {ρ : Type} (N : Nat) (k0 : Option ρ) (kr : Bool → Option ρ) (a b : List Int) (hl : a.length = b.length) (ha : a.length ≤ maxLen) : ∀ (M j : Nat), j ≤ a.length → a.length - j < M →
    Z8L N k0 kr M a b (j : Int) = if a.drop j = b.drop j then k0 else kr false := by
  intro M
  induction M with
  | zero => intro j _ h; omega
  | succ M ih =>
    intro j hj hM
    simp only [Z8L, Z9]
    by_cases h : j < a.length
    · rw [ct (dt (by omega)), ct (inB_nat h), ct (inB_nat (by omega)), Int.toNat_natCast, w64_succ (by omega), ih (j + 1) h (by omega), drop_getD 0 h, drop_getD (l := b) (j := j) 0 (by omega)]
      by_cases e : a.getD j 0 = b.getD j 0
      · rw [cf (nf e), e]
        simp only [List.cons.injEq, true_and]
      · rw [ct (nt e), if_neg (by simp only [List.cons.injEq]; exact fun h => e h.1)]
    · rw [cf (df (by omega)), if_pos (by rw [List.drop_of_length_le (by omega), List.drop_of_length_le (by omega)])]
theorem ok : Spec := fun a b ha hb => ⟨a.length + 1, fun N hN => by
  simp only [Z1, Z3, Z6, Z9, Z8, Z7, Z5, Z10, Z4, Z2, Z0]
  by_cases hl : a.length = b.length
  · rw [cf (nf (by omega))]
    rw [show (0 : Int) = ((0 : Nat) : Int) from rfl, loop _ _ _ a b hl ha.1 N 0 (by omega) (by omega)]
    by_cases e : a = b <;> simp [e, g]
  · rw [ct (nt (by omega))]
    have : a ≠ b := fun e => hl (by rw [e])
    simp [g, this]⟩

end laws_eqIntS
end
end Go.Fw
set_option linter.unusedVariables false
set_option linter.unusedSimpArgs false
set_option maxRecDepth 100000
namespace Go.Fw
noncomputable section
namespace laws_eqIntSS
def g (a b : List (List Int)) : Bool := decide (a = b)
end laws_eqIntSS
namespace laws_eqIntSS
def Z1 {ρ : Type} (N : Nat) (a0 : List (List Int)) (b1 : List (List Int)) (kn : List (List Int) → List (List Int) → Option ρ) : Option ρ :=
 kn a0 b1
def Z3 {ρ : Type} (N : Nat) (a0 : List (List Int)) (b1 : List (List Int)) (kn : List (List Int) → List (List Int) → Option ρ) (kr : Bool → Option ρ) : Option ρ :=
 cond (lk N (!(decide ((a0.length : Int) = (b1.length : Int)))))
 (
  kr false)
 (
  kn a0 b1)
def Z6 {ρ : Type} (N : Nat) (a0 : List (List Int)) (b1 : List (List Int)) (kn : List (List Int) → List (List Int) → Int → Option ρ) : Option ρ :=
 kn a0 b1 0
def Z9 {ρ : Type} (N : Nat) (a0 : List (List Int)) (b1 : List (List Int)) (i5 : Int) (kn : List (List Int) → List (List Int) → Int → Option ρ) (k0 : Option ρ) (kr : Bool → Option ρ) : Option ρ :=
 cond (lk N (decide (i5 < (a0.length : Int))))
 (
  cond (lk N (inB i5 a0.length)) (
   cond (lk N (inB i5 b1.length)) (
    cond (!(lk N ((laws_eqIntS.g (a0.getD i5.toNat []) (b1.getD i5.toNat [])))))
    (
     kr false)
    (
     kn a0 b1 (w64 (i5 + 1)))) none) none)
 (
  k0)
def Z8L {ρ : Type} (N : Nat) (k0 : Option ρ) (kr : Bool → Option ρ) : Nat → List (List Int) → List (List Int) → Int → Option ρ
  | 0, _, _, _ => none
  | M + 1, a0, b1, i5 => Z9 N a0 b1 i5 (fun a0 b1 i5 => Z8L N k0 kr M a0 b1 i5) k0 kr
def Z8 {ρ : Type} (N : Nat) (a0 : List (List Int)) (b1 : List (List Int)) (i5 : Int) (k0 : Option ρ) (kr : Bool → Option ρ) : Option ρ := Z8L N k0 kr N a0 b1 i5
def Z7 {ρ : Type} (N : Nat) (a0 : List (List Int)) (b1 : List (List Int)) (i5 : Int) (kn : Option ρ) (kr : Bool → Option ρ) : Option ρ := Z8 N a0 b1 i5 kn kr
def Z5 {ρ : Type} (N : Nat) (a0 : List (List Int)) (b1 : List (List Int)) (kn : Option ρ) (kr : Bool → Option ρ) : Option ρ := Z6 N a0 b1 (fun a0 b1 i5 => Z7 N a0 b1 i5 kn kr)
def Z10 {ρ : Type} (N : Nat)  (kr : Bool → Option ρ) : Option ρ :=
 kr true
def Z4 {ρ : Type} (N : Nat) (a0 : List (List Int)) (b1 : List (List Int)) (kr : Bool → Option ρ) : Option ρ := Z5 N a0 b1 (Z10 N kr) kr
def Z2 {ρ : Type} (N : Nat) (a0 : List (List Int)) (b1 : List (List Int)) (kr : Bool → Option ρ) : Option ρ := Z3 N a0 b1 (fun a0 b1 => Z4 N a0 b1 kr) kr
def Z0 {ρ : Type} (N : Nat) (a0 : List (List Int)) (b1 : List (List Int)) (kr : Bool → Option ρ) : Option ρ := Z1 N a0 b1 (fun a0 b1 => Z2 N a0 b1 kr)
def Spec : Prop := ∀  (a0 : List (List Int)) (b1 : List (List Int)), Ty.bd (.sl 0 (.sl 0 (.int .i64))) a0 → Ty.bd (.sl 0 (.sl 0 (.int .i64))) b1 → ∃ N0, ∀ N, N0 ≤ N → Z0 N a0 b1 (fun t4 => some ((), (t4, ()))) = some ((), ((g a0 b1), ()))

theorem loop {ρ : Type} (N : Nat) (k0 : Option ρ) (kr : Bool → Option ρ) (a b : List (List Int)) (hl : a.length = b.length) (ha : a.length ≤ maxLen) : ∀ (M j : Nat), j ≤ a.length → a.length - j < M →
    Z8L N k0 kr M a b (j : Int) = if a.drop j = b.drop j then k0 else kr false := by
  intro M
  induction M with
  | zero => intro j _ h; omega
  | succ M ih =>
    intro j hj hM
    simp only [Z8L, Z9]
    by_cases h : j < a.length
    · rw [ct (dt (by omega)), ct (inB_nat h), ct (inB_nat (by omega)), Int.toNat_natCast, w64_succ (by omega), ih (j + 1) h (by omega), drop_getD [] h, drop_getD (l := b) (j := j) [] (by omega)]
      by_cases e : a.getD j [] = b.getD j []
      · rw [cf' (by rw [lk_eq, laws_eqIntS.g, dt e]; rfl), e]
        simp only [List.cons.injEq, true_and]
      · rw [ct' (by rw [lk_eq, laws_eqIntS.g, df e]; rfl), if_neg (by simp only [List.cons.injEq]; exact fun h => e h.1)]
    · rw [cf (df (by omega)), if_pos (by rw [List.drop_of_length_le (by omega), List.drop_of_length_le (by omega)])]
theorem ok : Spec := fun a b ha hb => ⟨a.length + 1, fun N hN => by
  simp only [Z1, Z3, Z6, Z9, Z8, Z7, Z5, Z10, Z4, Z2, Z0]
  by_cases hl : a.length = b.length
  · rw [cf (nf (by omega))]
    rw [show (0 : Int) = ((0 : Nat) : Int) from rfl, loop _ _ _ a b hl ha.1 N 0 (by omega) (by omega)]
    by_cases e : a = b <;> simp [e, g]
  · rw [ct (nt (by omega))]
    have : a ≠ b := fun e => hl (by rw [e])
    simp [g, this]⟩

end laws_eqIntSS
end
end Go.Fw
set_option linter.unusedVariables false
set_option linter.unusedSimpArgs false
set_option maxRecDepth 100000
namespace Go.Fw
noncomputable section
namespace laws_eqMatrix
def g (a b : Int × Int × List Int) : Bool := decide (a = b)
end laws_eqMatrix
namespace laws_eqMatrix
def Z0 {ρ : Type} (N : Nat) (a0 : Int × Int × List Int) (b1 : Int × Int × List Int) (kr : Bool → Option ρ) : Option ρ :=
 cond (lk N (!(decide (a0.1 = b1.1))))
 (
  kr false)
 (
  cond (lk N (!(decide (a0.2.1 = b1.2.1))))
  (
   kr false)
  (
   cond (!(lk N ((laws_eqIntS.g a0.2.2 b1.2.2))))
   (
    kr false)
   (
    kr true)))
def Spec : Prop := ∀  (a0 : Int × Int × List Int) (b1 : Int × Int × List Int), Ty.bd (.pair (.int .i64) (.pair (.int .i64) (.sl 0 (.int .i64)))) a0 → Ty.bd (.pair (.int .i64) (.pair (.int .i64) (.sl 0 (.int .i64)))) b1 → ∃ N0, ∀ N, N0 ≤ N → Z0 N a0 b1 (fun t4 => some ((), (t4, ()))) = some ((), ((g a0 b1), ()))

theorem ok : Spec := fun a b ha hb => ⟨0, fun N hN => by
  obtain ⟨a1, a2, a3⟩ := a
  obtain ⟨b1, b2, b3⟩ := b
  simp only [Z0, lk_eq, g, laws_eqIntS.g, Prod.mk.injEq]
  by_cases h1 : a1 = b1 <;> by_cases h2 : a2 = b2 <;> by_cases h3 : a3 = b3 <;> simp [h1, h2, h3]⟩

end laws_eqMatrix
end
end Go.Fw
set_option linter.unusedVariables false
set_option linter.unusedSimpArgs false
set_option maxRecDepth 100000
namespace Go.Fw
noncomputable section
namespace laws_markMatrix
def g (a : Int × Int × List Int) (k : Int) : (Int × Int × List Int) × Int := ((a.1, a.2.1, (laws_markIntS.g a.2.2 k).1), (laws_markIntS.g a.2.2 k).2)
end laws_markMatrix
namespace laws_markMatrix
def Z0 {ρ : Type} (N : Nat) (a0 : Int × Int × List Int) (k1 : Int) (kr : List Int → Int → Int → Int → Option ρ) : Option ρ :=
 kr (laws_markIntS.g a0.2.2 k1).1 (laws_markIntS.g a0.2.2 k1).2 a0.1 a0.2.1
def Spec : Prop := ∀  (a0 : Int × Int × List Int) (k1 : Int), Ty.bd (.pair (.int .i64) (.pair (.int .i64) (.sl 0 (.int .i64)))) a0 → ∃ N0, ∀ N, N0 ≤ N → Z0 N a0 k1 (fun io100000_2 t4 io100000_0 io100000_1 => some ((io100000_0, (io100000_1, io100000_2)), (t4, ()))) = some ((g a0 k1).1, ((g a0 k1).2, ()))

theorem ok : Spec := fun a k ha => ⟨0, fun N hN => by simp only [Z0, g]⟩

end laws_markMatrix
end
end Go.Fw
set_option linter.unusedVariables false
set_option linter.unusedSimpArgs false
set_option maxRecDepth 100000
namespace Go.Fw
noncomputable section
namespace laws_FnExactCartanOf
def g (_ : Int × Int × List Int) : Bool := true
end laws_FnExactCartanOf
namespace laws_FnExactCartanOf
def Z0 {ρ : Type} (N : Nat) (aM0 : Int × Int × List Int) (kr : Bool → Option ρ) : Option ρ :=
 cond (lk N (decide ((laws_szMatrix.g aM0 1048576) < 0)))
 (
  kr true)
 (
  cond (lk N (laws_toMatrix.P aM0)) (
   cond (lk N (laws_toMatrix.P aM0)) (
    cond (!(lk N ((laws_eqIntSS.g (impl_CartanOf.g (laws_toMatrix.g aM0)) (spec_CartanOf.g (laws_toMatrix.g aM0))))))
    (
     kr false)
    (
     cond (lk N (laws_toMatrix.P aM0)) (
      cond (!(lk N ((laws_eqMatrix.g (laws_toMatrix.g aM0) (laws_toMatrix.g aM0)))))
      (
       kr false)
      (
       cond (lk N (decide ((laws_markMatrix.g (laws_toMatrix.g aM0) 1).2 < 0)))
       (
        kr false)
       (
        cond (!(lk N ((laws_eqIntSS.g (impl_CartanOf.g (laws_toMatrix.g aM0)) (spec_CartanOf.g (laws_toMatrix.g aM0))))))
        (
         kr false)
        (
         cond (lk N (decide ((laws_heldIntSS.g (laws_markIntSS.g (impl_CartanOf.g (laws_toMatrix.g aM0)) 1).1 1) < 0)))
         (
          kr false)
         (
          cond (lk N (!(decide ((laws_heldIntSS.g (laws_markIntSS.g (impl_CartanOf.g (laws_toMatrix.g aM0)) 1).1 1) = (laws_markIntSS.g (impl_CartanOf.g (laws_toMatrix.g aM0)) 1).2))))
          (
           kr false)
          (
           cond (lk N (laws_toMatrix.P aM0)) (
            cond (!(lk N ((laws_eqIntSS.g (impl_CartanOf.g (laws_toMatrix.g aM0)) (spec_CartanOf.g (laws_toMatrix.g aM0))))))
            (
             kr false)
            (
             cond (lk N (decide ((laws_heldIntSS.g (laws_markIntSS.g (impl_CartanOf.g (laws_toMatrix.g aM0)) 1).1 1) < 0)))
             (
              kr false)
             (
              cond (lk N (!(decide ((laws_heldIntSS.g (laws_markIntSS.g (impl_CartanOf.g (laws_toMatrix.g aM0)) 1).1 1) = (laws_markIntSS.g (impl_CartanOf.g (laws_toMatrix.g aM0)) 1).2))))
              (
               kr false)
              (
               kr true)))) none)))))) none)) none) none)
def Spec : Prop := ∀  (aM0 : Int × Int × List Int), Ty.bd (.pair (.int .i64) (.pair (.int .i64) (.sl 0 (.int .i64)))) aM0 → ∃ N0, ∀ N, N0 ≤ N → Z0 N aM0 (fun t2 => some ((), (t2, ()))) = some ((), ((g aM0), ()))

theorem ok : Spec := fun m hb => ⟨0, fun N hN => by
  by_cases hl : laws_szMatrix.g m 1048576 < 0
  · simp only [Z0]
    rw [ct (dt hl)]
    rfl
  obtain ⟨hP, hlen⟩ := szMat_P m hb.2.2.1 hl
  have he : impl_CartanOf.g m = spec_CartanOf.g m := by
    unfold impl_CartanOf.g spec_CartanOf.g
    rw [ok_alike]
  have hs : szSS (spec_CartanOf.g m) < 4611686018427387904 := by
    unfold spec_CartanOf.g
    split
    · rename_i h
      simp only [Bool.and_eq_true] at h
      obtain ⟨n, r, hn, hr, hn1, hn5, hnr, hr8, hl⟩ := dim_nat (shaped_dim (sizes_shaped h.1))
      have := szSS_le (l := carK m) (a := 5) (b := 5) (by simp [carK]; omega) (fun x hx => by
        simp only [carK, List.mem_map] at hx
        obtain ⟨i, _, rfl⟩ := hx
        simp [carRow]; omega)
      omega
    · decide
  obtain ⟨h1, h2⟩ := ss_mark _ hs
  have hm : ¬ (laws_markMatrix.g m 1).2 < 0 := by
    have := (int_mark m.2.2 (by omega)).2
    show ¬ (laws_markIntS.g m.2.2 1).2 < 0
    omega
  simp only [Z0, lk_eq, laws_toMatrix.g, hP, he, laws_eqMatrix.g, laws_eqIntSS.g, h1, df hl, df hm, df h2, dt (rfl : m = _), dt (rfl : spec_CartanOf.g m = _), dt (rfl : (laws_markIntSS.g (spec_CartanOf.g m) 1).2 = _)]
  rfl⟩

end laws_FnExactCartanOf
end
end Go.Fw
