/- The plain part: what the functions compute, in lists and numbers. Nothing is assumed. -/
import Derived.Test.YtakkbbpdfmkbnaaFwb
import Derived.Test.YtakkbbpdfmkbnaaPuFnExactMutateAlonga
set_option linter.unusedVariables false
set_option linter.unusedSimpArgs false
set_option maxRecDepth 100000
namespace Go.Fw
noncomputable section
namespace spec_l1Sizes
def g (m : Int × Int × List Int) : Bool := sizesK m
end spec_l1Sizes
namespace spec_l1Sizes
def Z1 {ρ : Type} (N : Nat) (m0 : Int × Int × List Int) (kn : Int → Int → List Int → Option ρ) : Option ρ :=
 kn m0.1 m0.2.1 m0.2.2
def Z3 {ρ : Type} (N : Nat) (m1_0 : Int) (m1_1 : Int) (m1_2 : List Int) (kn : Int → Int → List Int → Option ρ) (kr : Bool → Option ρ) : Option ρ :=
 cond (!(lk N ((spec_l1In.g m1_0 1 5))))
 (
  kr false)
 (
  cond (!(lk N ((spec_l1In.g m1_1 m1_0 8))))
  (
   kr false)
  (
   cond (lk N (!(decide ((m1_2.length : Int) = (w64 (m1_0 * m1_1))))))
   (
    kr false)
   (
    kn m1_0 m1_1 m1_2)))
def Z6 {ρ : Type} (N : Nat) (m1_0 : Int) (m1_1 : Int) (m1_2 : List Int) (kn : Int → Int → Int → List Int → Option ρ) : Option ρ :=
 kn 0 m1_0 m1_1 m1_2
def Z9 {ρ : Type} (N : Nat) (i3 : Int) (m1_0 : Int) (m1_1 : Int) (m1_2 : List Int) (kn : Int → Int → Int → List Int → Option ρ) (k0 : Int → Int → List Int → Option ρ) (kr : Bool → Option ρ) : Option ρ :=
 cond (lk N (decide (i3 < (m1_2.length : Int))))
 (
  cond (lk N (inB i3 m1_2.length)) (
   cond (!(lk N ((spec_l1In.g (m1_2.getD i3.toNat 0) (-99) 99))))
   (
    kr false)
   (
    kn (w64 (i3 + 1)) m1_0 m1_1 m1_2)) none)
 (
  k0 m1_0 m1_1 m1_2)
def Z8L {ρ : Type} (N : Nat) (k0 : Int → Int → List Int → Option ρ) (kr : Bool → Option ρ) : Nat → Int → Int → Int → List Int → Option ρ
  | 0, _, _, _, _ => none
  | M + 1, i3, m1_0, m1_1, m1_2 => Z9 N i3 m1_0 m1_1 m1_2 (fun i3 m1_0 m1_1 m1_2 => Z8L N k0 kr M i3 m1_0 m1_1 m1_2) k0 kr
def Z8 {ρ : Type} (N : Nat) (i3 : Int) (m1_0 : Int) (m1_1 : Int) (m1_2 : List Int) (k0 : Int → Int → List Int → Option ρ) (kr : Bool → Option ρ) : Option ρ := Z8L N k0 kr N i3 m1_0 m1_1 m1_2
def Z7 {ρ : Type} (N : Nat) (i3 : Int) (m1_0 : Int) (m1_1 : Int) (m1_2 : List Int) (kn : Int → Int → List Int → Option ρ) (kr : Bool → Option ρ) : Option ρ := Z8 N i3 m1_0 m1_1 m1_2 kn kr
def Z5 {ρ : Type} (N : Nat) (m1_0 : Int) (m1_1 : Int) (m1_2 : List Int) (kn : Int → Int → List Int → Option ρ) (kr : Bool → Option ρ) : Option ρ := Z6 N m1_0 m1_1 m1_2 (fun i3 m1_0 m1_1 m1_2 => Z7 N i3 m1_0 m1_1 m1_2 kn kr)
def Z12 {ρ : Type} (N : Nat) (m1_0 : Int) (m1_1 : Int) (m1_2 : List Int) (kn : Int → Int → Int → List Int → Option ρ) : Option ρ :=
 kn 0 m1_0 m1_1 m1_2
def Z16 {ρ : Type} (N : Nat) (i4 : Int) (m1_0 : Int) (m1_1 : Int) (m1_2 : List Int) (kn : Int → Int → Int → List Int → Option ρ) (k2 : Option ρ) : Option ρ :=
 cond (lk N (decide (i4 < m1_0)))
 (
  kn i4 m1_0 m1_1 m1_2)
 (
  k2)
def Z20 {ρ : Type} (N : Nat) (i4 : Int) (m1_0 : Int) (m1_1 : Int) (m1_2 : List Int) (kn : Int → Int → Int → Int → List Int → Option ρ) : Option ρ :=
 kn i4 0 m1_0 m1_1 m1_2
def Z23 {ρ : Type} (N : Nat) (i4 : Int) (j5 : Int) (m1_0 : Int) (m1_1 : Int) (m1_2 : List Int) (kn : Int → Int → Int → Int → List Int → Option ρ) (k4 : Int → Int → Int → List Int → Option ρ) (kr : Bool → Option ρ) : Option ρ :=
 cond (lk N (decide (j5 < m1_0)))
 (
  cond (lk N (spec_l1At.P (m1_0, (m1_1, m1_2)) i4 j5)) (
   cond (lk N (spec_l1At.P (m1_0, (m1_1, m1_2)) j5 i4)) (
    cond (lk N (!(((lk N (decide (0 < (spec_l1At.g (m1_0, (m1_1, m1_2)) i4 j5)))) == (lk N (decide ((spec_l1At.g (m1_0, (m1_1, m1_2)) j5 i4) < 0)))))))
    (
     kr false)
    (
     cond (lk N (!(((lk N (decide ((spec_l1At.g (m1_0, (m1_1, m1_2)) i4 j5) = 0))) == (lk N (decide ((spec_l1At.g (m1_0, (m1_1, m1_2)) j5 i4) = 0)))))))
     (
      kr false)
     (
      kn i4 (w64 (j5 + 1)) m1_0 m1_1 m1_2))) none) none)
 (
  k4 i4 m1_0 m1_1 m1_2)
def Z22L {ρ : Type} (N : Nat) (k4 : Int → Int → Int → List Int → Option ρ) (kr : Bool → Option ρ) : Nat → Int → Int → Int → Int → List Int → Option ρ
  | 0, _, _, _, _, _ => none
  | M + 1, i4, j5, m1_0, m1_1, m1_2 => Z23 N i4 j5 m1_0 m1_1 m1_2 (fun i4 j5 m1_0 m1_1 m1_2 => Z22L N k4 kr M i4 j5 m1_0 m1_1 m1_2) k4 kr
def Z22 {ρ : Type} (N : Nat) (i4 : Int) (j5 : Int) (m1_0 : Int) (m1_1 : Int) (m1_2 : List Int) (k4 : Int → Int → Int → List Int → Option ρ) (kr : Bool → Option ρ) : Option ρ := Z22L N k4 kr N i4 j5 m1_0 m1_1 m1_2
def Z21 {ρ : Type} (N : Nat) (i4 : Int) (j5 : Int) (m1_0 : Int) (m1_1 : Int) (m1_2 : List Int) (kn : Int → Int → Int → List Int → Option ρ) (kr : Bool → Option ρ) : Option ρ := Z22 N i4 j5 m1_0 m1_1 m1_2 kn kr
def Z19 {ρ : Type} (N : Nat) (i4 : Int) (m1_0 : Int) (m1_1 : Int) (m1_2 : List Int) (kn : Int → Int → Int → List Int → Option ρ) (kr : Bool → Option ρ) : Option ρ := Z20 N i4 m1_0 m1_1 m1_2 (fun i4 j5 m1_0 m1_1 m1_2 => Z21 N i4 j5 m1_0 m1_1 m1_2 kn kr)
def Z18 {ρ : Type} (N : Nat) (i4 : Int) (m1_0 : Int) (m1_1 : Int) (m1_2 : List Int) (kn : Int → Int → Int → List Int → Option ρ) (kr : Bool → Option ρ) : Option ρ := Z19 N i4 m1_0 m1_1 m1_2 kn kr
def Z24 {ρ : Type} (N : Nat) (i4 : Int) (m1_0 : Int) (m1_1 : Int) (m1_2 : List Int) (kn : Int → Int → Int → List Int → Option ρ) : Option ρ :=
 kn (w64 (i4 + 1)) m1_0 m1_1 m1_2
def Z17 {ρ : Type} (N : Nat) (i4 : Int) (m1_0 : Int) (m1_1 : Int) (m1_2 : List Int) (kn : Int → Int → Int → List Int → Option ρ) (kr : Bool → Option ρ) : Option ρ := Z18 N i4 m1_0 m1_1 m1_2 (fun i4 m1_0 m1_1 m1_2 => Z24 N i4 m1_0 m1_1 m1_2 kn) kr
def Z15 {ρ : Type} (N : Nat) (i4 : Int) (m1_0 : Int) (m1_1 : Int) (m1_2 : List Int) (kn : Int → Int → Int → List Int → Option ρ) (k2 : Option ρ) (kr : Bool → Option ρ) : Option ρ := Z16 N i4 m1_0 m1_1 m1_2 (fun i4 m1_0 m1_1 m1_2 => Z17 N i4 m1_0 m1_1 m1_2 kn kr) k2
def Z14L {ρ : Type} (N : Nat) (k2 : Option ρ) (kr : Bool → Option ρ) : Nat → Int → Int → Int → List Int → Option ρ
  | 0, _, _, _, _ => none
  | M + 1, i4, m1_0, m1_1, m1_2 => Z15 N i4 m1_0 m1_1 m1_2 (fun i4 m1_0 m1_1 m1_2 => Z14L N k2 kr M i4 m1_0 m1_1 m1_2) k2 kr
def Z14 {ρ : Type} (N : Nat) (i4 : Int) (m1_0 : Int) (m1_1 : Int) (m1_2 : List Int) (k2 : Option ρ) (kr : Bool → Option ρ) : Option ρ := Z14L N k2 kr N i4 m1_0 m1_1 m1_2
def Z13 {ρ : Type} (N : Nat) (i4 : Int) (m1_0 : Int) (m1_1 : Int) (m1_2 : List Int) (kn : Option ρ) (kr : Bool → Option ρ) : Option ρ := Z14 N i4 m1_0 m1_1 m1_2 kn kr
def Z11 {ρ : Type} (N : Nat) (m1_0 : Int) (m1_1 : Int) (m1_2 : List Int) (kn : Option ρ) (kr : Bool → Option ρ) : Option ρ := Z12 N m1_0 m1_1 m1_2 (fun i4 m1_0 m1_1 m1_2 => Z13 N i4 m1_0 m1_1 m1_2 kn kr)
def Z25 {ρ : Type} (N : Nat)  (kr : Bool → Option ρ) : Option ρ :=
 kr true
def Z10 {ρ : Type} (N : Nat) (m1_0 : Int) (m1_1 : Int) (m1_2 : List Int) (kr : Bool → Option ρ) : Option ρ := Z11 N m1_0 m1_1 m1_2 (Z25 N kr) kr
def Z4 {ρ : Type} (N : Nat) (m1_0 : Int) (m1_1 : Int) (m1_2 : List Int) (kr : Bool → Option ρ) : Option ρ := Z5 N m1_0 m1_1 m1_2 (fun m1_0 m1_1 m1_2 => Z10 N m1_0 m1_1 m1_2 kr) kr
def Z2 {ρ : Type} (N : Nat) (m1_0 : Int) (m1_1 : Int) (m1_2 : List Int) (kr : Bool → Option ρ) : Option ρ := Z3 N m1_0 m1_1 m1_2 (fun m1_0 m1_1 m1_2 => Z4 N m1_0 m1_1 m1_2 kr) kr
def Z0 {ρ : Type} (N : Nat) (m0 : Int × Int × List Int) (kr : Bool → Option ρ) : Option ρ := Z1 N m0 (fun m1_0 m1_1 m1_2 => Z2 N m1_0 m1_1 m1_2 kr)
def Spec : Prop := ∀  (m0 : Int × Int × List Int), Ty.bd (.pair (.int .i64) (.pair (.int .i64) (.sl 0 (.int .i64)))) m0 → ∃ N0, ∀ N, N0 ≤ N → Z0 N m0 (fun t2 => some ((), (t2, ()))) = some ((), ((g m0), ()))

section
variable {ρ : Type} {N : Nat} {m : Int × Int × List Int}
theorem at_g (hd : 0 ≤ m.1) (a b : Nat) : spec_l1At.g (m.1, (m.2.1, m.2.2)) (a : Int) (b : Int) = ent m a b := atK_nat hd a b
theorem at_p (hd : dimK m = true) {a b : Nat} (ha : a < m.1.toNat) (hb : b < m.1.toNat) : spec_l1At.P (m.1, (m.2.1, m.2.2)) (a : Int) (b : Int) = true := by
  obtain ⟨n, r, hn, hr, hn1, hn5, hnr, hr8, hl⟩ := dim_nat hd
  exact at_ok hd (by omega) hb
theorem loop1 (hl : m.2.2.length ≤ maxLen) (k0 : Int → Int → List Int → Option ρ) (kr : Bool → Option ρ) : ∀ (M j : Nat), j ≤ m.2.2.length → m.2.2.length - j < M →
    Z8L N k0 kr M (j : Int) m.1 m.2.1 m.2.2 = cond (entK (m.2.2.drop j)) (k0 m.1 m.2.1 m.2.2) (kr false) := by
  intro M
  induction M with
  | zero => intro j _ h; omega
  | succ M ih =>
    intro j hj hM
    simp only [Z8L, Z9]
    by_cases h : j < m.2.2.length
    · rw [ct (dt (by omega)), ct (inB_nat h), Int.toNat_natCast, w64_succ (by omega), drop_getD 0 h, entK, List.all_cons, ih (j + 1) h (by omega)]
      simp only [lk_eq, spec_l1In.g]
      cases inK (m.2.2.getD j 0) (-99) 99 <;> rfl
    · rw [cf (df (by omega)), List.drop_of_length_le (by omega)]; rfl
theorem loop3 (hd : dimK m = true) (k4 : Int → Int → Int → List Int → Option ρ) (kr : Bool → Option ρ) {i : Nat} (hi : i < m.1.toNat) : ∀ (M j : Nat), j ≤ m.1.toNat → m.1.toNat - j < M →
    Z22L N k4 kr M (i : Int) (j : Int) m.1 m.2.1 m.2.2 = cond (((List.range m.1.toNat).drop j).all fun j => signK (ent m i j) (ent m j i)) (k4 (i : Int) m.1 m.2.1 m.2.2) (kr false) := by
  obtain ⟨n, r, hn, hr, hn1, hn5, hnr, hr8, hl⟩ := dim_nat hd
  intro M
  induction M with
  | zero => intro j _ h; omega
  | succ M ih =>
    intro j hj hM
    simp only [Z22L, Z23]
    by_cases h : j < m.1.toNat
    · rw [ct (dt (by omega)), ct (at_p hd hi h), ct (at_p hd h hi), range_drop h, List.all_cons, w64_succ (by rw [maxLen_val]; omega), ih (j + 1) h (by omega)]
      have hA : spec_l1At.g (m.1, (m.2.1, m.2.2)) (i : Int) (j : Int) = ent m i j := at_g (by omega) _ _
      have hB : spec_l1At.g (m.1, (m.2.1, m.2.2)) (j : Int) (i : Int) = ent m j i := at_g (by omega) _ _
      simp only [lk_eq, hA, hB, signK]
      cases (decide (0 < ent m i j) == decide (ent m j i < 0)) <;> cases (decide (ent m i j = 0) == decide (ent m j i = 0)) <;> rfl
    · rw [cf (df (by omega)), List.drop_of_length_le (by simp; omega)]; rfl
theorem loop2 (hN : 10 ≤ N) (hd : dimK m = true) (k2 : Option ρ) (kr : Bool → Option ρ) : ∀ (M i : Nat), i ≤ m.1.toNat → m.1.toNat - i < M →
    Z14L N k2 kr M (i : Int) m.1 m.2.1 m.2.2 = cond (((List.range m.1.toNat).drop i).all fun i => (List.range m.1.toNat).all fun j => signK (ent m i j) (ent m j i)) k2 (kr false) := by
  obtain ⟨n, r, hn, hr, hn1, hn5, hnr, hr8, hl⟩ := dim_nat hd
  intro M
  induction M with
  | zero => intro i _ h; omega
  | succ M ih =>
    intro i hi hM
    simp only [Z14L, Z15, Z16]
    by_cases h : i < m.1.toNat
    · rw [ct (dt (by omega))]
      simp only [Z17, Z18, Z19, Z20, Z21, Z22]
      have h3 := loop3 (ρ := ρ) (N := N) hd (fun a b c d => Z24 N a b c d (fun a b c d => Z14L N k2 kr M a b c d)) kr h N 0 (by omega) (by omega)
      rw [show ((0 : Nat) : Int) = 0 from rfl] at h3
      rw [h3, range_drop h, List.all_cons, List.drop_zero]
      simp only [Z24]
      rw [w64_succ (by rw [maxLen_val]; omega), ih (i + 1) h (by omega)]
      cases ((List.range m.1.toNat).all fun j => signK (ent m i j) (ent m j i)) <;> rfl
    · rw [cf (df (by omega)), List.drop_of_length_le (by simp; omega)]; rfl
end
theorem ok : Spec := fun m hb => ⟨m.2.2.length + 10, fun N hN => by
  have hlen : m.2.2.length ≤ maxLen := hb.2.2.1
  simp only [Z0, Z1, Z2, Z3, spec_l1In.g, g, sizesK, shapedK]
  have main : dimK m = true → Z4 N m.1 m.2.1 m.2.2 (fun t => some ((), (t, ()))) = some ((), ((entK m.2.2 && (List.range m.1.toNat).all fun i => (List.range m.1.toNat).all fun j => signK (ent m i j) (ent m j i)), ())) := by
    intro hd
    obtain ⟨n, r, hn, hr, hn1, hn5, hnr, hr8, hl⟩ := dim_nat hd
    simp only [Z4, Z5, Z6, Z7, Z8]
    have h1 := loop1 (N := N) hlen (fun a b c => Z10 N a b c (fun t => some ((), (t, ())))) (fun t => some ((), (t, ()))) N 0 (by omega) (by omega)
    rw [show ((0 : Nat) : Int) = 0 from rfl] at h1
    rw [h1, List.drop_zero]
    simp only [Z10, Z11, Z12, Z13, Z14, Z25]
    have h2 := loop2 (N := N) (by omega) hd (some ((), (true, ()))) (fun t => some ((), (t, ()))) N 0 (by omega) (by omega)
    rw [show ((0 : Nat) : Int) = 0 from rfl] at h2
    rw [h2, List.drop_zero]
    cases entK m.2.2 <;> cases ((List.range m.1.toNat).all fun i => (List.range m.1.toNat).all fun j => signK (ent m i j) (ent m j i)) <;> rfl
  cases h1 : inK m.1 1 5
  · rw [dimK, h1]; simp [lk_eq]
  cases h2 : inK m.2.1 m.1 8
  · rw [dimK, h1, h2]; simp [lk_eq]
  have e1 := inK_iff.1 h1
  have e2 := inK_iff.1 h2
  have e3 : 0 ≤ m.1 * m.2.1 := Int.mul_nonneg (by omega) (by omega)
  have e4 : m.1 * m.2.1 ≤ 5 * 8 := Int.mul_le_mul (by omega) (by omega) (by omega) (by omega)
  rw [w64_id (by omega) (by omega)]
  by_cases h3 : (m.2.2.length : Int) = m.1 * m.2.1
  · have hd : dimK m = true := by rw [dimK, h1, h2, dt h3]; rfl
    rw [cf' (by simp [lk_eq]), cf' (by simp [lk_eq]), cf (nf h3), main hd, hd]
    rfl
  · have hd : dimK m = false := by rw [dimK, h1, h2, df h3]; rfl
    rw [cf' (by simp [lk_eq]), cf' (by simp [lk_eq]), ct (nt h3), hd]
    rfl⟩

end spec_l1Sizes
end
end Go.Fw
set_option linter.unusedVariables false
set_option linter.unusedSimpArgs false
set_option maxRecDepth 100000
namespace Go.Fw
noncomputable section
namespace spec_MatrixOk
def g (m : Int × Int × List Int) : Bool := sizesK m && !decide (facK m = [])
end spec_MatrixOk
namespace spec_MatrixOk
def Z0 {ρ : Type} (N : Nat) (m0 : Int × Int × List Int) (kr : Bool → Option ρ) : Option ρ :=
 cond (!(lk N ((spec_l1Sizes.g m0))))
 (
  kr false)
 (
  cond (lk N (spec_l1Factors.P m0)) (
   kr (lk N ((spec_l1Factors.g m0).2))) none)
def Spec : Prop := ∀  (m0 : Int × Int × List Int), Ty.bd (.pair (.int .i64) (.pair (.int .i64) (.sl 0 (.int .i64)))) m0 → ∃ N0, ∀ N, N0 ≤ N → Z0 N m0 (fun t2 => some ((), (t2, ()))) = some ((), ((g m0), ()))

theorem ok : Spec := fun m hb => ⟨0, fun N hN => by
  simp only [Z0, lk_eq, g, spec_l1Sizes.g, spec_l1Factors.P, spec_l1Factors.g]
  cases sizesK m <;> rfl⟩

end spec_MatrixOk
end
end Go.Fw
set_option linter.unusedVariables false
set_option linter.unusedSimpArgs false
set_option maxRecDepth 100000
namespace Go.Fw
noncomputable section
namespace spec_l1Ints
def P (a : List Int) : Bool := decide (a.length < 1099511627776)
abbrev g (a : List Int) : List Int := a
end spec_l1Ints
namespace spec_l1Ints
def Z0 {ρ : Type} (N : Nat) (l0 : List Int) (kr : List Int → Option ρ) : Option ρ :=
 cond (lk N (Nat.blt (([] : List Int).length + l0.length) 1099511627776)) (
  kr (([] : List Int) ++ l0)) none
def Spec : Prop := ∀  (l0 : List Int), Ty.bd (.sl 0 (.int .i64)) l0 → P l0 = true → ∃ N0, ∀ N, N0 ≤ N → Z0 N l0 (fun t2 => some ((), (t2, ()))) = some ((), ((g l0), ()))

theorem ok : Spec := fun a hb hp => ⟨0, fun N hN => by
  have hl : a.length < 1099511627776 := by simpa [P] using hp
  have hc : Nat.blt (([] : List Int).length + a.length) 1099511627776 = true := by simpa using hl
  simp only [Z0, lk_eq, g, hc, cond_true, List.nil_append]⟩

end spec_l1Ints
end
end Go.Fw
set_option linter.unusedVariables false
set_option linter.unusedSimpArgs false
set_option maxRecDepth 100000
namespace Go.Fw
noncomputable section
namespace spec_l1CopyMatrix
def P (m : Int × Int × List Int) : Bool := spec_l1Ints.P m.2.2
abbrev g (m : Int × Int × List Int) : Int × Int × List Int := m
end spec_l1CopyMatrix
namespace spec_l1CopyMatrix
def Z0 {ρ : Type} (N : Nat) (m0 : Int × Int × List Int) (kr : List Int → Int → Int → Option ρ) : Option ρ :=
 cond (lk N (spec_l1Ints.P m0.2.2)) (
  kr (spec_l1Ints.g m0.2.2) m0.1 m0.2.1) none
def Spec : Prop := ∀  (m0 : Int × Int × List Int), Ty.bd (.pair (.int .i64) (.pair (.int .i64) (.sl 0 (.int .i64)))) m0 → P m0 = true → ∃ N0, ∀ N, N0 ≤ N → Z0 N m0 (fun t2_2 t2_0 t2_1 => some ((), ((t2_0, (t2_1, t2_2)), ()))) = some ((), ((g m0), ()))

theorem ok : Spec := fun m hb hp => ⟨0, fun N hN => by
  simp only [Z0]
  exact ct (show spec_l1Ints.P m.2.2 = true from hp)⟩

end spec_l1CopyMatrix
end
end Go.Fw
set_option linter.unusedVariables false
set_option linter.unusedSimpArgs false
set_option maxRecDepth 100000
namespace Go.Fw
noncomputable section
namespace spec_l1Mutate
def P (m : Int × Int × List Int) (k : Int) : Bool := shapedK m && (decide (0 ≤ k) && decide (k < m.1))
def g (m : Int × Int × List Int) (k : Int) : Int × Int × List Int := mutK m k.toNat
end spec_l1Mutate
namespace spec_l1Mutate
def Z1 {ρ : Type} (N : Nat) (m0 : Int × Int × List Int) (k1 : Int) (kn : Int → Int → Int → List Int → Int → Int → Option ρ) : Option ρ :=
 kn k1 m0.1 m0.2.1 m0.2.2 0 0
def Z3 {ρ : Type} (N : Nat) (k1 : Int) (m2_0 : Int) (m2_1 : Int) (m2_2 : List Int) (t4_0 : Int) (t4_1 : Int) (kn : List Int → Int → Int → Int → List Int → Int → Int → Int → Int → Option ρ) : Option ρ :=
 cond (lk N (spec_l1CopyMatrix.P (m2_0, (m2_1, m2_2)))) (
  kn (spec_l1CopyMatrix.g (m2_0, (m2_1, m2_2))).2.2 k1 m2_0 m2_1 m2_2 t4_0 t4_1 (spec_l1CopyMatrix.g (m2_0, (m2_1, m2_2))).1 (spec_l1CopyMatrix.g (m2_0, (m2_1, m2_2))).2.1) none
def Z6 {ρ : Type} (N : Nat) (out5_2 : List Int) (k1 : Int) (m2_0 : Int) (m2_1 : Int) (m2_2 : List Int) (t4_0 : Int) (t4_1 : Int) (out5_0 : Int) (out5_1 : Int) (kn : List Int → Int → Int → Int → Int → List Int → Int → Int → Int → Int → Option ρ) : Option ρ :=
 kn out5_2 k1 0 m2_0 m2_1 m2_2 t4_0 t4_1 out5_0 out5_1
def Z10 {ρ : Type} (N : Nat) (out5_2 : List Int) (k1 : Int) (i6 : Int) (m2_0 : Int) (m2_1 : Int) (m2_2 : List Int) (t4_0 : Int) (t4_1 : Int) (out5_0 : Int) (out5_1 : Int) (kn : List Int → Int → Int → Int → Int → List Int → Int → Int → Int → Int → Option ρ) (k0 : List Int → Int → Int → Int → Int → Option ρ) : Option ρ :=
 cond (lk N (decide (i6 < m2_1)))
 (
  kn out5_2 k1 i6 m2_0 m2_1 m2_2 t4_0 t4_1 out5_0 out5_1)
 (
  k0 out5_2 t4_0 t4_1 out5_0 out5_1)
def Z14 {ρ : Type} (N : Nat) (out5_2 : List Int) (k1 : Int) (i6 : Int) (m2_0 : Int) (m2_1 : Int) (m2_2 : List Int) (t4_0 : Int) (t4_1 : Int) (out5_0 : Int) (out5_1 : Int) (kn : List Int → Int → Int → Int → Int → Int → List Int → Int → Int → Int → Int → Option ρ) : Option ρ :=
 kn out5_2 k1 i6 0 m2_0 m2_1 m2_2 t4_0 t4_1 out5_0 out5_1
def Z18 {ρ : Type} (N : Nat) (out5_2 : List Int) (k1 : Int) (i6 : Int) (j7 : Int) (m2_0 : Int) (m2_1 : Int) (m2_2 : List Int) (t4_0 : Int) (t4_1 : Int) (out5_0 : Int) (out5_1 : Int) (kn : List Int → Int → Int → Int → Int → Int → List Int → Int → Int → Int → Int → Option ρ) (k2 : List Int → Int → Int → Int → Int → List Int → Int → Int → Int → Int → Option ρ) : Option ρ :=
 cond (lk N (decide (j7 < m2_0)))
 (
  kn out5_2 k1 i6 j7 m2_0 m2_1 m2_2 t4_0 t4_1 out5_0 out5_1)
 (
  k2 out5_2 k1 i6 m2_0 m2_1 m2_2 t4_0 t4_1 out5_0 out5_1)
def Z22 {ρ : Type} (N : Nat) (out5_2 : List Int) (k1 : Int) (i6 : Int) (j7 : Int) (m2_0 : Int) (m2_1 : Int) (m2_2 : List Int) (t4_0 : Int) (t4_1 : Int) (out5_0 : Int) (out5_1 : Int) (kn : List Int → Int → Int → Int → Int → Int → Int → List Int → Int → Int → Int → Int → Option ρ) : Option ρ :=
 cond (lk N (spec_l1At.P (m2_0, (m2_1, m2_2)) i6 k1)) (
  kn out5_2 k1 i6 j7 (spec_l1At.g (m2_0, (m2_1, m2_2)) i6 k1) m2_0 m2_1 m2_2 t4_0 t4_1 out5_0 out5_1) none
def Z24 {ρ : Type} (N : Nat) (out5_2 : List Int) (k1 : Int) (i6 : Int) (j7 : Int) (a8 : Int) (m2_0 : Int) (m2_1 : Int) (m2_2 : List Int) (t4_0 : Int) (t4_1 : Int) (out5_0 : Int) (out5_1 : Int) (kn : List Int → Int → Int → Int → Int → Int → Int → Int → List Int → Int → Int → Int → Int → Option ρ) : Option ρ :=
 cond (lk N (spec_l1At.P (m2_0, (m2_1, m2_2)) k1 j7)) (
  kn out5_2 k1 i6 j7 a8 (spec_l1At.g (m2_0, (m2_1, m2_2)) k1 j7) m2_0 m2_1 m2_2 t4_0 t4_1 out5_0 out5_1) none
def Z27 {ρ : Type} (N : Nat) (out5_2 : List Int) (k1 : Int) (i6 : Int) (j7 : Int) (a8 : Int) (b9 : Int) (m2_0 : Int) (m2_1 : Int) (m2_2 : List Int) (t4_0 : Int) (t4_1 : Int) (out5_0 : Int) (out5_1 : Int) (kn : List Int → Int → Int → Int → Int → Int → Bool → Int → Int → List Int → Int → Int → Int → Int → Option ρ) : Option ρ :=
 cond (lk N (decide (i6 = k1)))
 (
  kn out5_2 k1 i6 j7 a8 b9 true m2_0 m2_1 m2_2 t4_0 t4_1 out5_0 out5_1)
 (
  kn out5_2 k1 i6 j7 a8 b9 (lk N (decide (j7 = k1))) m2_0 m2_1 m2_2 t4_0 t4_1 out5_0 out5_1)
def Z28 {ρ : Type} (N : Nat) (out5_2 : List Int) (k1 : Int) (i6 : Int) (j7 : Int) (a8 : Int) (b9 : Int) (t32 : Bool) (m2_0 : Int) (m2_1 : Int) (m2_2 : List Int) (t4_0 : Int) (t4_1 : Int) (out5_0 : Int) (out5_1 : Int) (kn : List Int → Int → Int → Int → Int → Int → List Int → Int → Int → Int → Int → Option ρ) : Option ρ :=
 cond (t32)
 (
  cond (lk N (spec_l1At.P (m2_0, (m2_1, m2_2)) i6 j7)) (
   cond (lk N (inB (w64 ((w64 (i6 * m2_0)) + j7)) out5_2.length)) (
    kn (out5_2.set (w64 ((w64 (i6 * m2_0)) + j7)).toNat (w64 (0 - (spec_l1At.g (m2_0, (m2_1, m2_2)) i6 j7)))) k1 i6 j7 m2_0 m2_1 m2_2 t4_0 t4_1 out5_0 out5_1) none) none)
 (
  cond (lk N (decide (0 < a8)))
  (
   cond (lk N (decide (0 < b9)))
   (
    cond (lk N (spec_l1At.P (m2_0, (m2_1, m2_2)) i6 j7)) (
     cond (lk N (inB (w64 ((w64 (i6 * m2_0)) + j7)) out5_2.length)) (
      kn (out5_2.set (w64 ((w64 (i6 * m2_0)) + j7)).toNat (w64 ((spec_l1At.g (m2_0, (m2_1, m2_2)) i6 j7) + (w64 (a8 * b9))))) k1 i6 j7 m2_0 m2_1 m2_2 t4_0 t4_1 out5_0 out5_1) none) none)
   (
    cond (lk N (decide (a8 < 0)))
    (
     cond (lk N (decide (b9 < 0)))
     (
      cond (lk N (spec_l1At.P (m2_0, (m2_1, m2_2)) i6 j7)) (
       cond (lk N (inB (w64 ((w64 (i6 * m2_0)) + j7)) out5_2.length)) (
        kn (out5_2.set (w64 ((w64 (i6 * m2_0)) + j7)).toNat (w64 ((spec_l1At.g (m2_0, (m2_1, m2_2)) i6 j7) - (w64 (a8 * b9))))) k1 i6 j7 m2_0 m2_1 m2_2 t4_0 t4_1 out5_0 out5_1) none) none)
     (
      kn out5_2 k1 i6 j7 m2_0 m2_1 m2_2 t4_0 t4_1 out5_0 out5_1))
    (
     kn out5_2 k1 i6 j7 m2_0 m2_1 m2_2 t4_0 t4_1 out5_0 out5_1)))
  (
   cond (lk N (decide (a8 < 0)))
   (
    cond (lk N (decide (b9 < 0)))
    (
     cond (lk N (spec_l1At.P (m2_0, (m2_1, m2_2)) i6 j7)) (
      cond (lk N (inB (w64 ((w64 (i6 * m2_0)) + j7)) out5_2.length)) (
       kn (out5_2.set (w64 ((w64 (i6 * m2_0)) + j7)).toNat (w64 ((spec_l1At.g (m2_0, (m2_1, m2_2)) i6 j7) - (w64 (a8 * b9))))) k1 i6 j7 m2_0 m2_1 m2_2 t4_0 t4_1 out5_0 out5_1) none) none)
    (
     kn out5_2 k1 i6 j7 m2_0 m2_1 m2_2 t4_0 t4_1 out5_0 out5_1))
   (
    kn out5_2 k1 i6 j7 m2_0 m2_1 m2_2 t4_0 t4_1 out5_0 out5_1)))
def Z26 {ρ : Type} (N : Nat) (out5_2 : List Int) (k1 : Int) (i6 : Int) (j7 : Int) (a8 : Int) (b9 : Int) (m2_0 : Int) (m2_1 : Int) (m2_2 : List Int) (t4_0 : Int) (t4_1 : Int) (out5_0 : Int) (out5_1 : Int) (kn : List Int → Int → Int → Int → Int → Int → List Int → Int → Int → Int → Int → Option ρ) : Option ρ := Z27 N out5_2 k1 i6 j7 a8 b9 m2_0 m2_1 m2_2 t4_0 t4_1 out5_0 out5_1 (fun out5_2 k1 i6 j7 a8 b9 t32 m2_0 m2_1 m2_2 t4_0 t4_1 out5_0 out5_1 => Z28 N out5_2 k1 i6 j7 a8 b9 t32 m2_0 m2_1 m2_2 t4_0 t4_1 out5_0 out5_1 kn)
def Z25 {ρ : Type} (N : Nat) (out5_2 : List Int) (k1 : Int) (i6 : Int) (j7 : Int) (a8 : Int) (b9 : Int) (m2_0 : Int) (m2_1 : Int) (m2_2 : List Int) (t4_0 : Int) (t4_1 : Int) (out5_0 : Int) (out5_1 : Int) (kn : List Int → Int → Int → Int → Int → Int → List Int → Int → Int → Int → Int → Option ρ) : Option ρ := Z26 N out5_2 k1 i6 j7 a8 b9 m2_0 m2_1 m2_2 t4_0 t4_1 out5_0 out5_1 kn
def Z23 {ρ : Type} (N : Nat) (out5_2 : List Int) (k1 : Int) (i6 : Int) (j7 : Int) (a8 : Int) (m2_0 : Int) (m2_1 : Int) (m2_2 : List Int) (t4_0 : Int) (t4_1 : Int) (out5_0 : Int) (out5_1 : Int) (kn : List Int → Int → Int → Int → Int → Int → List Int → Int → Int → Int → Int → Option ρ) : Option ρ := Z24 N out5_2 k1 i6 j7 a8 m2_0 m2_1 m2_2 t4_0 t4_1 out5_0 out5_1 (fun out5_2 k1 i6 j7 a8 b9 m2_0 m2_1 m2_2 t4_0 t4_1 out5_0 out5_1 => Z25 N out5_2 k1 i6 j7 a8 b9 m2_0 m2_1 m2_2 t4_0 t4_1 out5_0 out5_1 kn)
def Z21 {ρ : Type} (N : Nat) (out5_2 : List Int) (k1 : Int) (i6 : Int) (j7 : Int) (m2_0 : Int) (m2_1 : Int) (m2_2 : List Int) (t4_0 : Int) (t4_1 : Int) (out5_0 : Int) (out5_1 : Int) (kn : List Int → Int → Int → Int → Int → Int → List Int → Int → Int → Int → Int → Option ρ) : Option ρ := Z22 N out5_2 k1 i6 j7 m2_0 m2_1 m2_2 t4_0 t4_1 out5_0 out5_1 (fun out5_2 k1 i6 j7 a8 m2_0 m2_1 m2_2 t4_0 t4_1 out5_0 out5_1 => Z23 N out5_2 k1 i6 j7 a8 m2_0 m2_1 m2_2 t4_0 t4_1 out5_0 out5_1 kn)
def Z20 {ρ : Type} (N : Nat) (out5_2 : List Int) (k1 : Int) (i6 : Int) (j7 : Int) (m2_0 : Int) (m2_1 : Int) (m2_2 : List Int) (t4_0 : Int) (t4_1 : Int) (out5_0 : Int) (out5_1 : Int) (kn : List Int → Int → Int → Int → Int → Int → List Int → Int → Int → Int → Int → Option ρ) : Option ρ := Z21 N out5_2 k1 i6 j7 m2_0 m2_1 m2_2 t4_0 t4_1 out5_0 out5_1 kn
def Z29 {ρ : Type} (N : Nat) (out5_2 : List Int) (k1 : Int) (i6 : Int) (j7 : Int) (m2_0 : Int) (m2_1 : Int) (m2_2 : List Int) (t4_0 : Int) (t4_1 : Int) (out5_0 : Int) (out5_1 : Int) (kn : List Int → Int → Int → Int → Int → Int → List Int → Int → Int → Int → Int → Option ρ) : Option ρ :=
 kn out5_2 k1 i6 (w64 (j7 + 1)) m2_0 m2_1 m2_2 t4_0 t4_1 out5_0 out5_1
def Z19 {ρ : Type} (N : Nat) (out5_2 : List Int) (k1 : Int) (i6 : Int) (j7 : Int) (m2_0 : Int) (m2_1 : Int) (m2_2 : List Int) (t4_0 : Int) (t4_1 : Int) (out5_0 : Int) (out5_1 : Int) (kn : List Int → Int → Int → Int → Int → Int → List Int → Int → Int → Int → Int → Option ρ) : Option ρ := Z20 N out5_2 k1 i6 j7 m2_0 m2_1 m2_2 t4_0 t4_1 out5_0 out5_1 (fun out5_2 k1 i6 j7 m2_0 m2_1 m2_2 t4_0 t4_1 out5_0 out5_1 => Z29 N out5_2 k1 i6 j7 m2_0 m2_1 m2_2 t4_0 t4_1 out5_0 out5_1 kn)
def Z17 {ρ : Type} (N : Nat) (out5_2 : List Int) (k1 : Int) (i6 : Int) (j7 : Int) (m2_0 : Int) (m2_1 : Int) (m2_2 : List Int) (t4_0 : Int) (t4_1 : Int) (out5_0 : Int) (out5_1 : Int) (kn : List Int → Int → Int → Int → Int → Int → List Int → Int → Int → Int → Int → Option ρ) (k2 : List Int → Int → Int → Int → Int → List Int → Int → Int → Int → Int → Option ρ) : Option ρ := Z18 N out5_2 k1 i6 j7 m2_0 m2_1 m2_2 t4_0 t4_1 out5_0 out5_1 (fun out5_2 k1 i6 j7 m2_0 m2_1 m2_2 t4_0 t4_1 out5_0 out5_1 => Z19 N out5_2 k1 i6 j7 m2_0 m2_1 m2_2 t4_0 t4_1 out5_0 out5_1 kn) k2
def Z16L {ρ : Type} (N : Nat) (k2 : List Int → Int → Int → Int → Int → List Int → Int → Int → Int → Int → Option ρ) : Nat → List Int → Int → Int → Int → Int → Int → List Int → Int → Int → Int → Int → Option ρ
  | 0, _, _, _, _, _, _, _, _, _, _, _ => none
  | M + 1, out5_2, k1, i6, j7, m2_0, m2_1, m2_2, t4_0, t4_1, out5_0, out5_1 => Z17 N out5_2 k1 i6 j7 m2_0 m2_1 m2_2 t4_0 t4_1 out5_0 out5_1 (fun out5_2 k1 i6 j7 m2_0 m2_1 m2_2 t4_0 t4_1 out5_0 out5_1 => Z16L N k2 M out5_2 k1 i6 j7 m2_0 m2_1 m2_2 t4_0 t4_1 out5_0 out5_1) k2
def Z16 {ρ : Type} (N : Nat) (out5_2 : List Int) (k1 : Int) (i6 : Int) (j7 : Int) (m2_0 : Int) (m2_1 : Int) (m2_2 : List Int) (t4_0 : Int) (t4_1 : Int) (out5_0 : Int) (out5_1 : Int) (k2 : List Int → Int → Int → Int → Int → List Int → Int → Int → Int → Int → Option ρ) : Option ρ := Z16L N k2 N out5_2 k1 i6 j7 m2_0 m2_1 m2_2 t4_0 t4_1 out5_0 out5_1
def Z15 {ρ : Type} (N : Nat) (out5_2 : List Int) (k1 : Int) (i6 : Int) (j7 : Int) (m2_0 : Int) (m2_1 : Int) (m2_2 : List Int) (t4_0 : Int) (t4_1 : Int) (out5_0 : Int) (out5_1 : Int) (kn : List Int → Int → Int → Int → Int → List Int → Int → Int → Int → Int → Option ρ) : Option ρ := Z16 N out5_2 k1 i6 j7 m2_0 m2_1 m2_2 t4_0 t4_1 out5_0 out5_1 kn
def Z13 {ρ : Type} (N : Nat) (out5_2 : List Int) (k1 : Int) (i6 : Int) (m2_0 : Int) (m2_1 : Int) (m2_2 : List Int) (t4_0 : Int) (t4_1 : Int) (out5_0 : Int) (out5_1 : Int) (kn : List Int → Int → Int → Int → Int → List Int → Int → Int → Int → Int → Option ρ) : Option ρ := Z14 N out5_2 k1 i6 m2_0 m2_1 m2_2 t4_0 t4_1 out5_0 out5_1 (fun out5_2 k1 i6 j7 m2_0 m2_1 m2_2 t4_0 t4_1 out5_0 out5_1 => Z15 N out5_2 k1 i6 j7 m2_0 m2_1 m2_2 t4_0 t4_1 out5_0 out5_1 kn)
def Z12 {ρ : Type} (N : Nat) (out5_2 : List Int) (k1 : Int) (i6 : Int) (m2_0 : Int) (m2_1 : Int) (m2_2 : List Int) (t4_0 : Int) (t4_1 : Int) (out5_0 : Int) (out5_1 : Int) (kn : List Int → Int → Int → Int → Int → List Int → Int → Int → Int → Int → Option ρ) : Option ρ := Z13 N out5_2 k1 i6 m2_0 m2_1 m2_2 t4_0 t4_1 out5_0 out5_1 kn
def Z30 {ρ : Type} (N : Nat) (out5_2 : List Int) (k1 : Int) (i6 : Int) (m2_0 : Int) (m2_1 : Int) (m2_2 : List Int) (t4_0 : Int) (t4_1 : Int) (out5_0 : Int) (out5_1 : Int) (kn : List Int → Int → Int → Int → Int → List Int → Int → Int → Int → Int → Option ρ) : Option ρ :=
 kn out5_2 k1 (w64 (i6 + 1)) m2_0 m2_1 m2_2 t4_0 t4_1 out5_0 out5_1
def Z11 {ρ : Type} (N : Nat) (out5_2 : List Int) (k1 : Int) (i6 : Int) (m2_0 : Int) (m2_1 : Int) (m2_2 : List Int) (t4_0 : Int) (t4_1 : Int) (out5_0 : Int) (out5_1 : Int) (kn : List Int → Int → Int → Int → Int → List Int → Int → Int → Int → Int → Option ρ) : Option ρ := Z12 N out5_2 k1 i6 m2_0 m2_1 m2_2 t4_0 t4_1 out5_0 out5_1 (fun out5_2 k1 i6 m2_0 m2_1 m2_2 t4_0 t4_1 out5_0 out5_1 => Z30 N out5_2 k1 i6 m2_0 m2_1 m2_2 t4_0 t4_1 out5_0 out5_1 kn)
def Z9 {ρ : Type} (N : Nat) (out5_2 : List Int) (k1 : Int) (i6 : Int) (m2_0 : Int) (m2_1 : Int) (m2_2 : List Int) (t4_0 : Int) (t4_1 : Int) (out5_0 : Int) (out5_1 : Int) (kn : List Int → Int → Int → Int → Int → List Int → Int → Int → Int → Int → Option ρ) (k0 : List Int → Int → Int → Int → Int → Option ρ) : Option ρ := Z10 N out5_2 k1 i6 m2_0 m2_1 m2_2 t4_0 t4_1 out5_0 out5_1 (fun out5_2 k1 i6 m2_0 m2_1 m2_2 t4_0 t4_1 out5_0 out5_1 => Z11 N out5_2 k1 i6 m2_0 m2_1 m2_2 t4_0 t4_1 out5_0 out5_1 kn) k0
def Z8L {ρ : Type} (N : Nat) (k0 : List Int → Int → Int → Int → Int → Option ρ) : Nat → List Int → Int → Int → Int → Int → List Int → Int → Int → Int → Int → Option ρ
  | 0, _, _, _, _, _, _, _, _, _, _ => none
  | M + 1, out5_2, k1, i6, m2_0, m2_1, m2_2, t4_0, t4_1, out5_0, out5_1 => Z9 N out5_2 k1 i6 m2_0 m2_1 m2_2 t4_0 t4_1 out5_0 out5_1 (fun out5_2 k1 i6 m2_0 m2_1 m2_2 t4_0 t4_1 out5_0 out5_1 => Z8L N k0 M out5_2 k1 i6 m2_0 m2_1 m2_2 t4_0 t4_1 out5_0 out5_1) k0
def Z8 {ρ : Type} (N : Nat) (out5_2 : List Int) (k1 : Int) (i6 : Int) (m2_0 : Int) (m2_1 : Int) (m2_2 : List Int) (t4_0 : Int) (t4_1 : Int) (out5_0 : Int) (out5_1 : Int) (k0 : List Int → Int → Int → Int → Int → Option ρ) : Option ρ := Z8L N k0 N out5_2 k1 i6 m2_0 m2_1 m2_2 t4_0 t4_1 out5_0 out5_1
def Z7 {ρ : Type} (N : Nat) (out5_2 : List Int) (k1 : Int) (i6 : Int) (m2_0 : Int) (m2_1 : Int) (m2_2 : List Int) (t4_0 : Int) (t4_1 : Int) (out5_0 : Int) (out5_1 : Int) (kn : List Int → Int → Int → Int → Int → Option ρ) : Option ρ := Z8 N out5_2 k1 i6 m2_0 m2_1 m2_2 t4_0 t4_1 out5_0 out5_1 kn
def Z5 {ρ : Type} (N : Nat) (out5_2 : List Int) (k1 : Int) (m2_0 : Int) (m2_1 : Int) (m2_2 : List Int) (t4_0 : Int) (t4_1 : Int) (out5_0 : Int) (out5_1 : Int) (kn : List Int → Int → Int → Int → Int → Option ρ) : Option ρ := Z6 N out5_2 k1 m2_0 m2_1 m2_2 t4_0 t4_1 out5_0 out5_1 (fun out5_2 k1 i6 m2_0 m2_1 m2_2 t4_0 t4_1 out5_0 out5_1 => Z7 N out5_2 k1 i6 m2_0 m2_1 m2_2 t4_0 t4_1 out5_0 out5_1 kn)
def Z31 {ρ : Type} (N : Nat) (out5_2 : List Int) (t4_0 : Int) (t4_1 : Int) (out5_0 : Int) (out5_1 : Int) (kr : List Int → Int → Int → Option ρ) : Option ρ :=
 kr out5_2 out5_0 out5_1
def Z4 {ρ : Type} (N : Nat) (out5_2 : List Int) (k1 : Int) (m2_0 : Int) (m2_1 : Int) (m2_2 : List Int) (t4_0 : Int) (t4_1 : Int) (out5_0 : Int) (out5_1 : Int) (kr : List Int → Int → Int → Option ρ) : Option ρ := Z5 N out5_2 k1 m2_0 m2_1 m2_2 t4_0 t4_1 out5_0 out5_1 (fun out5_2 t4_0 t4_1 out5_0 out5_1 => Z31 N out5_2 t4_0 t4_1 out5_0 out5_1 kr)
def Z2 {ρ : Type} (N : Nat) (k1 : Int) (m2_0 : Int) (m2_1 : Int) (m2_2 : List Int) (t4_0 : Int) (t4_1 : Int) (kr : List Int → Int → Int → Option ρ) : Option ρ := Z3 N k1 m2_0 m2_1 m2_2 t4_0 t4_1 (fun out5_2 k1 m2_0 m2_1 m2_2 t4_0 t4_1 out5_0 out5_1 => Z4 N out5_2 k1 m2_0 m2_1 m2_2 t4_0 t4_1 out5_0 out5_1 kr)
def Z0 {ρ : Type} (N : Nat) (m0 : Int × Int × List Int) (k1 : Int) (kr : List Int → Int → Int → Option ρ) : Option ρ := Z1 N m0 k1 (fun k1 m2_0 m2_1 m2_2 t4_0 t4_1 => Z2 N k1 m2_0 m2_1 m2_2 t4_0 t4_1 kr)
def Spec : Prop := ∀  (m0 : Int × Int × List Int) (k1 : Int), Ty.bd (.pair (.int .i64) (.pair (.int .i64) (.sl 0 (.int .i64)))) m0 → P m0 k1 = true → ∃ N0, ∀ N, N0 ≤ N → Z0 N m0 k1 (fun t4_2 t4_0 t4_1 => some ((), ((t4_0, (t4_1, t4_2)), ()))) = some ((), ((g m0 k1), ()))

section
variable {ρ : Type} {N : Nat} {m : Int × Int × List Int} {k : Nat}
theorem at_g (hd : 0 ≤ m.1) (a b : Nat) : spec_l1At.g (m.1, (m.2.1, m.2.2)) (a : Int) (b : Int) = ent m a b := atK_nat hd a b
theorem at_p (hd : dimK m = true) {a b : Nat} (ha : a < m.2.1.toNat) (hb : b < m.1.toNat) : spec_l1At.P (m.1, (m.2.1, m.2.2)) (a : Int) (b : Int) = true := at_ok hd ha hb
def cur (m : Int × Int × List Int) (k p : Nat) : List Int := upto m.2.2.length p (mutF m k) (fun p => m.2.2.getD p 0)
theorem inner (hs : shapedK m = true) (hk : k < m.1.toNat) (k2 : List Int → Int → Int → Int → Int → List Int → Int → Int → Int → Int → Option ρ) (t0 t1 o0 o1 : Int) {i : Nat} (hi : i < m.2.1.toNat) : ∀ (M j : Nat), j ≤ m.1.toNat → m.1.toNat - j < M →
    Z16L N k2 M (cur m k (i * m.1.toNat + j)) (k : Int) (i : Int) (j : Int) m.1 m.2.1 m.2.2 t0 t1 o0 o1 = k2 (cur m k (i * m.1.toNat + m.1.toNat)) (k : Int) (i : Int) m.1 m.2.1 m.2.2 t0 t1 o0 o1 := by
  have hd := shaped_dim hs
  obtain ⟨n, r, hn, hr, hn1, hn5, hnr, hr8, hl⟩ := dim_nat hd
  intro M
  induction M with
  | zero => intro j _ h; omega
  | succ M ih =>
    intro j hj hM
    simp only [Z16L, Z17, Z18]
    by_cases h : j < m.1.toNat
    · have hlt : i * m.1.toNat + j < m.2.2.length := by
        have := ent_lt (n := n) (r := r) (i := i) (j := j) (by omega) (by omega)
        rw [hl, hn]; exact this
      have hidx : w64 (w64 ((i : Int) * m.1) + (j : Int)) = ((i * m.1.toNat + j : Nat) : Int) := by
        have e : (i : Int) * m.1 = ((i * m.1.toNat : Nat) : Int) := by rw [hn, Int.natCast_mul]; simp
        have hb : i * m.1.toNat ≤ 8 * 5 := Nat.mul_le_mul (by omega) (by omega)
        have e2 : w64 (((i * m.1.toNat : Nat) : Int)) = ((i * m.1.toNat : Nat) : Int) := w64_id (by omega) (by omega)
        rw [e, e2, w64_id (by omega) (by omega)]
        omega
      have b1 := ent_bound hs i j
      have b2 := ent_bound hs i k
      have b3 := ent_bound hs k j
      have hbc := mutE_bound (f := false) b1 b2 b3
      have hF := mutF_at (m := m) (k := k) (i := i) h
      have hcl : (cur m k (i * m.1.toNat + j)).length = m.2.2.length := upto_len
      have hset : ∀ v, v = mutF m k (i * m.1.toNat + j) → (cur m k (i * m.1.toNat + j)).set (i * m.1.toNat + j) v = cur m k (i * m.1.toNat + (j + 1)) := fun v hv => by
        subst hv
        exact upto_set hlt
      have hsame : mutF m k (i * m.1.toNat + j) = ent m i j → cur m k (i * m.1.toNat + j) = cur m k (i * m.1.toNat + (j + 1)) := fun hv => (upto_same hv).symm
      have iB : inB (((i * m.1.toNat + j : Nat) : Int)) (cur m k (i * m.1.toNat + j)).length = true := inB_nat (by rw [hcl]; exact hlt)
      have pij := at_p hd hi h
      rw [ct (dt (by omega))]
      simp only [Z19, Z20, Z21, Z22, Z23, Z24, Z25]
      rw [ct (at_p hd hi hk), ct (at_p hd (show k < m.2.1.toNat by omega) h), at_g (by omega), at_g (by omega)]
      have fin : ∀ c, c = cur m k (i * m.1.toNat + (j + 1)) → Z29 N c (k : Int) (i : Int) (j : Int) m.1 m.2.1 m.2.2 t0 t1 o0 o1 (fun out5_2 k1 i6 j7 m2_0 m2_1 m2_2 t4_0 t4_1 out5_0 out5_1 => Z16L N k2 M out5_2 k1 i6 j7 m2_0 m2_1 m2_2 t4_0 t4_1 out5_0 out5_1) = k2 (cur m k (i * m.1.toNat + m.1.toNat)) (k : Int) (i : Int) m.1 m.2.1 m.2.2 t0 t1 o0 o1 := by
        intro c hc
        subst hc
        simp only [Z29]
        rw [w64_succ (by rw [maxLen_val]; omega)]
        exact ih (j + 1) h (by omega)
      simp only [Z26, Z27, Z28, hidx, Int.toNat_natCast, at_g (show 0 ≤ m.1 by omega)]
      by_cases hik : i = k
      · rw [ct (dt (by omega)), ct' rfl, ct pij, ct iB, w64_id (by omega) (by omega)]
        refine fin _ (hset _ ?_)
        rw [hF, dt hik, Int.zero_sub]; rfl
      · rw [cf (df (by omega))]
        by_cases hjk : j = k
        · rw [ct' (by rw [lk_eq]; exact dt (by omega)), ct pij, ct iB, w64_id (by omega) (by omega)]
          refine fin _ (hset _ ?_)
          rw [hF, df hik, dt hjk, Int.zero_sub]; rfl
        · rw [cf' (by rw [lk_eq]; exact df (by omega))]
          rw [df hik, df hjk] at hF
          simp only [mutE, Bool.or_self, Bool.false_eq_true, if_false] at hF
          have wbc : w64 (ent m i k * ent m k j) = ent m i k * ent m k j := w64_id (by omega) (by omega)
          rw [wbc]
          by_cases a1 : 0 < ent m i k
          · rw [ct (dt a1)]
            by_cases a2 : 0 < ent m k j
            · rw [ct (dt a2), ct pij, ct iB, w64_id (by omega) (by omega)]
              refine fin _ (hset _ ?_)
              rw [hF, if_pos ⟨a1, a2⟩]
            · rw [cf (df a2), cf (df (by omega))]
              refine fin _ (hsame ?_)
              rw [hF, if_neg (by omega), if_neg (by omega)]
          · rw [cf (df a1)]
            by_cases a2 : ent m i k < 0
            · rw [ct (dt a2)]
              by_cases a3 : ent m k j < 0
              · rw [ct (dt a3), ct pij, ct iB, w64_id (by omega) (by omega)]
                refine fin _ (hset _ ?_)
                rw [hF, if_neg (by omega), if_pos ⟨a2, a3⟩]
              · rw [cf (df a3)]
                refine fin _ (hsame ?_)
                rw [hF, if_neg (by omega), if_neg (by omega)]
            · rw [cf (df a2)]
              refine fin _ (hsame ?_)
              rw [hF, if_neg (by omega), if_neg (by omega)]
    · rw [cf (df (by omega)), show j = m.1.toNat by omega]
theorem outer (hN : 10 ≤ N) (hs : shapedK m = true) (hk : k < m.1.toNat) (k0 : List Int → Int → Int → Int → Int → Option ρ) (t0 t1 o0 o1 : Int) : ∀ (M i : Nat), i ≤ m.2.1.toNat → m.2.1.toNat - i < M →
    Z8L N k0 M (cur m k (i * m.1.toNat)) (k : Int) (i : Int) m.1 m.2.1 m.2.2 t0 t1 o0 o1 = k0 (cur m k (m.2.1.toNat * m.1.toNat)) t0 t1 o0 o1 := by
  have hd := shaped_dim hs
  obtain ⟨n, r, hn, hr, hn1, hn5, hnr, hr8, hl⟩ := dim_nat hd
  intro M
  induction M with
  | zero => intro i _ h; omega
  | succ M ih =>
    intro i hi hM
    simp only [Z8L, Z9, Z10]
    by_cases h : i < m.2.1.toNat
    · rw [ct (dt (by omega))]
      simp only [Z11, Z12, Z13, Z14, Z15, Z16]
      have hin := inner (ρ := ρ) (N := N) hs hk (fun out5_2 k1 i6 m2_0 m2_1 m2_2 t4_0 t4_1 out5_0 out5_1 => Z30 N out5_2 k1 i6 m2_0 m2_1 m2_2 t4_0 t4_1 out5_0 out5_1 (fun out5_2 k1 i6 m2_0 m2_1 m2_2 t4_0 t4_1 out5_0 out5_1 => Z8L N k0 M out5_2 k1 i6 m2_0 m2_1 m2_2 t4_0 t4_1 out5_0 out5_1)) t0 t1 o0 o1 h N 0 (by omega) (by omega)
      rw [show ((0 : Nat) : Int) = 0 from rfl, Nat.add_zero] at hin
      rw [hin]
      simp only [Z30]
      rw [w64_succ (by rw [maxLen_val]; omega)]
      have := ih (i + 1) h (by omega)
      rw [Nat.add_mul, Nat.one_mul] at this
      exact this
    · rw [cf (df (by omega)), show i = m.2.1.toNat by omega]
end
theorem ok : Spec := fun m k hb hp => ⟨10, fun N hN => by
  simp only [P, Bool.and_eq_true, decide_eq_true_eq] at hp
  obtain ⟨hs, h0, h1⟩ := hp
  obtain ⟨x, rfl⟩ := Int.eq_ofNat_of_zero_le h0
  have hd := shaped_dim hs
  obtain ⟨n, r, hn, hr, hn1, hn5, hnr, hr8, hl⟩ := dim_nat hd
  have hlen : m.2.2.length ≤ 8 * 5 := by rw [hl]; exact Nat.mul_le_mul hr8 hn5
  simp only [Z0, Z1, Z2, Z3]
  rw [ct (show spec_l1CopyMatrix.P (m.1, (m.2.1, m.2.2)) = true from dt (show m.2.2.length < 1099511627776 by omega))]
  simp only [Z4, Z5, Z6, Z7, Z8]
  have hstart : cur m x 0 = m.2.2 := by
    unfold cur
    rw [upto_zero]
    exact list_map 0 rfl
  have hend : cur m x (m.2.1.toNat * m.1.toNat) = (mutK m x).2.2 := by
    have e : m.2.1.toNat * m.1.toNat = m.2.2.length := by rw [hl, hn, hr]; simp
    rw [e]
    exact upto_full
  have := outer (ρ := Unit × (Int × Int × List Int) × Unit) hN hs (show x < m.1.toNat by omega) (fun out5_2 t4_0 t4_1 out5_0 out5_1 => Z31 N out5_2 t4_0 t4_1 out5_0 out5_1 (fun t4_2 t4_0 t4_1 => some ((), ((t4_0, (t4_1, t4_2)), ())))) 0 0 m.1 m.2.1 N 0 (by omega) (by omega)
  rw [Nat.zero_mul, hstart, hend] at this
  exact this⟩

end spec_l1Mutate
end
end Go.Fw
set_option linter.unusedVariables false
set_option linter.unusedSimpArgs false
set_option maxRecDepth 100000
namespace Go.Fw
noncomputable section
namespace spec_MutateMatrix
def g (m : Int × Int × List Int) (k : Int) : (Int × Int × List Int) × Bool :=
  if ((sizesK m && !decide (facK m = [])) && (inK k 0 (m.1 - 1) && sizesK (mutK m k.toNat))) = true then (mutK m k.toNat, true) else ((0, 0, []), false)
end spec_MutateMatrix
namespace spec_MutateMatrix
def Z0 {ρ : Type} (N : Nat) (m0 : Int × Int × List Int) (k1 : Int) (kr : List Int → Bool → Int → Int → Option ρ) : Option ρ :=
 cond (!(lk N ((spec_MatrixOk.g m0))))
 (
  kr ([] : List Int) false 0 0)
 (
  cond (!(lk N ((spec_l1In.g k1 0 (w64 (m0.1 - 1))))))
  (
   kr ([] : List Int) false 0 0)
  (
   cond (lk N (spec_l1Mutate.P m0 k1)) (
    cond (!(lk N ((spec_l1Sizes.g (spec_l1Mutate.g m0 k1)))))
    (
     kr ([] : List Int) false 0 0)
    (
     kr (spec_l1Mutate.g m0 k1).2.2 true (spec_l1Mutate.g m0 k1).1 (spec_l1Mutate.g m0 k1).2.1)) none))
def Spec : Prop := ∀  (m0 : Int × Int × List Int) (k1 : Int), Ty.bd (.pair (.int .i64) (.pair (.int .i64) (.sl 0 (.int .i64)))) m0 → ∃ N0, ∀ N, N0 ≤ N → Z0 N m0 k1 (fun t4_2 t5 t4_0 t4_1 => some ((), ((t4_0, (t4_1, t4_2)), (t5, ())))) = some ((), ((g m0 k1).1, ((g m0 k1).2, ())))

theorem ok : Spec := fun m k hb => ⟨0, fun N hN => by
  simp only [Z0, lk_eq, g, spec_MatrixOk.g, spec_l1In.g, spec_l1Sizes.g]
  cases h1 : (sizesK m && !decide (facK m = []))
  · rfl
  have hs : sizesK m = true := by
    simp only [Bool.and_eq_true] at h1
    exact h1.1
  have hd := shaped_dim (sizes_shaped hs)
  obtain ⟨n, r, hn, hr, hn1, hn5, hnr, hr8, hl⟩ := dim_nat hd
  rw [w64_id (by omega) (by omega)]
  cases h2 : inK k 0 (m.1 - 1)
  · rfl
  have h3 := inK_iff.1 h2
  have hP : spec_l1Mutate.P m k = true := by
    simp only [spec_l1Mutate.P, Bool.and_eq_true, decide_eq_true_eq]
    exact ⟨sizes_shaped hs, by omega, by omega⟩
  rw [hP]
  have hg : spec_l1Mutate.g m k = mutK m k.toNat := rfl
  rw [hg]
  cases sizesK (mutK m k.toNat) <;> rfl⟩

end spec_MutateMatrix
end
end Go.Fw
/-! Both programs mutate alike. -/
set_option linter.unusedVariables false
namespace Go.Fw
theorem spec_mutG : spec_MutateMatrix.g = mutG := rfl
theorem impl_mutG : impl_MutateMatrix.g = mutG := by
  funext m k
  unfold impl_MutateMatrix.g mutG
  rw [ok_alike]
  cases h1 : (sizesK m && !decide (facK m = []))
  · rfl
  cases h2 : inK k 0 (m.1 - 1)
  · rfl
  have h3 := inK_iff.1 h2
  rw [mut_alike h1 (by omega)]
end Go.Fw
set_option linter.unusedVariables false
set_option linter.unusedSimpArgs false
set_option maxRecDepth 100000
namespace Go.Fw
noncomputable section
namespace spec_MutateAlong
def g (m : Int × Int × List Int) (ks : List Int) : (Int × Int × List Int) × Bool :=
  if ((sizesK m && !decide (facK m = [])) && decide ((ks.length : Int) ≤ 40)) = true then alongK mutG m ks else noMat
end spec_MutateAlong
namespace spec_MutateAlong
def Z1 {ρ : Type} (N : Nat) (m0 : Int × Int × List Int) (ks1 : List Int) (kn : List Int → Int → Int → List Int → Int → Int → Option ρ) : Option ρ :=
 kn ks1 m0.1 m0.2.1 m0.2.2 0 0
def Z3 {ρ : Type} (N : Nat) (ks1 : List Int) (m2_0 : Int) (m2_1 : Int) (m2_2 : List Int) (t4_0 : Int) (t4_1 : Int) (kn : List Int → Int → Int → List Int → Int → Int → Option ρ) (kr : List Int → Bool → Int → Int → Option ρ) : Option ρ :=
 cond (!(lk N ((spec_MatrixOk.g (m2_0, (m2_1, m2_2))))))
 (
  kr ([] : List Int) false 0 0)
 (
  cond (lk N (decide (40 < (ks1.length : Int))))
  (
   kr ([] : List Int) false 0 0)
  (
   kn ks1 m2_0 m2_1 m2_2 t4_0 t4_1))
def Z5 {ρ : Type} (N : Nat) (ks1 : List Int) (m2_0 : Int) (m2_1 : Int) (m2_2 : List Int) (t4_0 : Int) (t4_1 : Int) (kn : List Int → List Int → Int → Int → Int → Int → Option ρ) : Option ρ :=
 cond (lk N (spec_l1CopyMatrix.P (m2_0, (m2_1, m2_2)))) (
  kn (spec_l1CopyMatrix.g (m2_0, (m2_1, m2_2))).2.2 ks1 t4_0 t4_1 (spec_l1CopyMatrix.g (m2_0, (m2_1, m2_2))).1 (spec_l1CopyMatrix.g (m2_0, (m2_1, m2_2))).2.1) none
def Z8 {ρ : Type} (N : Nat) (out6_2 : List Int) (ks1 : List Int) (t4_0 : Int) (t4_1 : Int) (out6_0 : Int) (out6_1 : Int) (kn : List Int → List Int → Int → Int → Int → Int → Int → Option ρ) : Option ρ :=
 kn out6_2 ks1 0 t4_0 t4_1 out6_0 out6_1
def Z11 {ρ : Type} (N : Nat) (out6_2 : List Int) (ks1 : List Int) (i7 : Int) (t4_0 : Int) (t4_1 : Int) (out6_0 : Int) (out6_1 : Int) (kn : List Int → List Int → Int → Int → Int → Int → Int → Option ρ) (k0 : List Int → Int → Int → Int → Int → Option ρ) (kr : List Int → Bool → Int → Int → Option ρ) : Option ρ :=
 cond (lk N (decide (i7 < (ks1.length : Int))))
 (
  cond (lk N (inB i7 ks1.length)) (
   both (
    cond (!(lk N ((spec_MutateMatrix.g (out6_0, (out6_1, out6_2)) (ks1.getD i7.toNat 0)).2)))
    (
     kr ([] : List Int) false 0 0)
    (
     kn (spec_MutateMatrix.g (out6_0, (out6_1, out6_2)) (ks1.getD i7.toNat 0)).1.2.2 ks1 (w64 (i7 + 1)) t4_0 t4_1 (spec_MutateMatrix.g (out6_0, (out6_1, out6_2)) (ks1.getD i7.toNat 0)).1.1 (spec_MutateMatrix.g (out6_0, (out6_1, out6_2)) (ks1.getD i7.toNat 0)).1.2.1))
   (
    cond (!(lk N ((spec_MutateMatrix.g (out6_0, (out6_1, out6_2)) (ks1.getD i7.toNat 0)).2)))
    (
     kr ([] : List Int) false 0 0)
    (
     kn (spec_MutateMatrix.g (out6_0, (out6_1, out6_2)) (ks1.getD i7.toNat 0)).1.2.2 ks1 (w64 (i7 + 1)) t4_0 t4_1 (spec_MutateMatrix.g (out6_0, (out6_1, out6_2)) (ks1.getD i7.toNat 0)).1.1 (spec_MutateMatrix.g (out6_0, (out6_1, out6_2)) (ks1.getD i7.toNat 0)).1.2.1))) none)
 (
  k0 out6_2 t4_0 t4_1 out6_0 out6_1)
def Z10L {ρ : Type} (N : Nat) (k0 : List Int → Int → Int → Int → Int → Option ρ) (kr : List Int → Bool → Int → Int → Option ρ) : Nat → List Int → List Int → Int → Int → Int → Int → Int → Option ρ
  | 0, _, _, _, _, _, _, _ => none
  | M + 1, out6_2, ks1, i7, t4_0, t4_1, out6_0, out6_1 => Z11 N out6_2 ks1 i7 t4_0 t4_1 out6_0 out6_1 (fun out6_2 ks1 i7 t4_0 t4_1 out6_0 out6_1 => Z10L N k0 kr M out6_2 ks1 i7 t4_0 t4_1 out6_0 out6_1) k0 kr
def Z10 {ρ : Type} (N : Nat) (out6_2 : List Int) (ks1 : List Int) (i7 : Int) (t4_0 : Int) (t4_1 : Int) (out6_0 : Int) (out6_1 : Int) (k0 : List Int → Int → Int → Int → Int → Option ρ) (kr : List Int → Bool → Int → Int → Option ρ) : Option ρ := Z10L N k0 kr N out6_2 ks1 i7 t4_0 t4_1 out6_0 out6_1
def Z9 {ρ : Type} (N : Nat) (out6_2 : List Int) (ks1 : List Int) (i7 : Int) (t4_0 : Int) (t4_1 : Int) (out6_0 : Int) (out6_1 : Int) (kn : List Int → Int → Int → Int → Int → Option ρ) (kr : List Int → Bool → Int → Int → Option ρ) : Option ρ := Z10 N out6_2 ks1 i7 t4_0 t4_1 out6_0 out6_1 kn kr
def Z7 {ρ : Type} (N : Nat) (out6_2 : List Int) (ks1 : List Int) (t4_0 : Int) (t4_1 : Int) (out6_0 : Int) (out6_1 : Int) (kn : List Int → Int → Int → Int → Int → Option ρ) (kr : List Int → Bool → Int → Int → Option ρ) : Option ρ := Z8 N out6_2 ks1 t4_0 t4_1 out6_0 out6_1 (fun out6_2 ks1 i7 t4_0 t4_1 out6_0 out6_1 => Z9 N out6_2 ks1 i7 t4_0 t4_1 out6_0 out6_1 kn kr)
def Z12 {ρ : Type} (N : Nat) (out6_2 : List Int) (t4_0 : Int) (t4_1 : Int) (out6_0 : Int) (out6_1 : Int) (kr : List Int → Bool → Int → Int → Option ρ) : Option ρ :=
 kr out6_2 true out6_0 out6_1
def Z6 {ρ : Type} (N : Nat) (out6_2 : List Int) (ks1 : List Int) (t4_0 : Int) (t4_1 : Int) (out6_0 : Int) (out6_1 : Int) (kr : List Int → Bool → Int → Int → Option ρ) : Option ρ := Z7 N out6_2 ks1 t4_0 t4_1 out6_0 out6_1 (fun out6_2 t4_0 t4_1 out6_0 out6_1 => Z12 N out6_2 t4_0 t4_1 out6_0 out6_1 kr) kr
def Z4 {ρ : Type} (N : Nat) (ks1 : List Int) (m2_0 : Int) (m2_1 : Int) (m2_2 : List Int) (t4_0 : Int) (t4_1 : Int) (kr : List Int → Bool → Int → Int → Option ρ) : Option ρ := Z5 N ks1 m2_0 m2_1 m2_2 t4_0 t4_1 (fun out6_2 ks1 t4_0 t4_1 out6_0 out6_1 => Z6 N out6_2 ks1 t4_0 t4_1 out6_0 out6_1 kr)
def Z2 {ρ : Type} (N : Nat) (ks1 : List Int) (m2_0 : Int) (m2_1 : Int) (m2_2 : List Int) (t4_0 : Int) (t4_1 : Int) (kr : List Int → Bool → Int → Int → Option ρ) : Option ρ := Z3 N ks1 m2_0 m2_1 m2_2 t4_0 t4_1 (fun ks1 m2_0 m2_1 m2_2 t4_0 t4_1 => Z4 N ks1 m2_0 m2_1 m2_2 t4_0 t4_1 kr) kr
def Z0 {ρ : Type} (N : Nat) (m0 : Int × Int × List Int) (ks1 : List Int) (kr : List Int → Bool → Int → Int → Option ρ) : Option ρ := Z1 N m0 ks1 (fun ks1 m2_0 m2_1 m2_2 t4_0 t4_1 => Z2 N ks1 m2_0 m2_1 m2_2 t4_0 t4_1 kr)
def Spec : Prop := ∀  (m0 : Int × Int × List Int) (ks1 : List Int), Ty.bd (.pair (.int .i64) (.pair (.int .i64) (.sl 0 (.int .i64)))) m0 → Ty.bd (.sl 0 (.int .i64)) ks1 → ∃ N0, ∀ N, N0 ≤ N → Z0 N m0 ks1 (fun t4_2 t5 t4_0 t4_1 => some ((), ((t4_0, (t4_1, t4_2)), (t5, ())))) = some ((), ((g m0 ks1).1, ((g m0 ks1).2, ())))

theorem loop {ρ : Type} (N : Nat) (kr : List Int → Bool → Int → Int → Option ρ) (t0 t1 : Int) (ks : List Int) (hk : ks.length ≤ maxLen) : ∀ (M j : Nat) (m : Int × Int × List Int), j ≤ ks.length → ks.length - j < M →
    Z10L N (fun a b c d e => Z12 N a b c d e kr) kr M m.2.2 ks (j : Int) t0 t1 m.1 m.2.1 = kr (alongK mutG m (ks.drop j)).1.2.2 (alongK mutG m (ks.drop j)).2 (alongK mutG m (ks.drop j)).1.1 (alongK mutG m (ks.drop j)).1.2.1 := by
  intro M
  induction M with
  | zero => intro j _ _ h; omega
  | succ M ih =>
    intro j m hj hM
    simp only [Z10L, Z11]
    by_cases h : j < ks.length
    · have hv : spec_MutateMatrix.g (m.1, (m.2.1, m.2.2)) (ks.getD j 0) = mutG m (ks.getD j 0) := rfl
      rw [ct (dt (by omega)), ct (inB_nat h), both_self, Int.toNat_natCast, hv, drop_getD 0 h, alongK, w64_succ (by omega)]
      cases hb : (mutG m (ks.getD j 0)).2
      · rw [ct' (by rw [lk_eq]; rfl), if_neg (by simp)]; rfl
      · rw [cf' (by rw [lk_eq]; rfl), if_pos rfl]
        exact ih (j + 1) _ h (by omega)
    · rw [cf (df (by omega)), List.drop_of_length_le (by omega), alongK]; rfl
theorem ok : Spec := fun m ks hb hv => ⟨ks.length + 10, fun N hN => by
  have e0 : spec_MatrixOk.g (m.1, (m.2.1, m.2.2)) = (sizesK m && !decide (facK m = [])) := rfl
  simp only [Z0, Z1, Z2, Z3, e0, g, lk_eq]
  cases h1 : (sizesK m && !decide (facK m = []))
  · rfl
  have hs : sizesK m = true := by
    simp only [Bool.and_eq_true] at h1
    exact h1.1
  have hd := shaped_dim (sizes_shaped hs)
  obtain ⟨n, r, hn, hr, hn1, hn5, hnr, hr8, hl⟩ := dim_nat hd
  have hlen : m.2.2.length ≤ 8 * 5 := by rw [hl]; exact Nat.mul_le_mul hr8 hn5
  by_cases h2 : (ks.length : Int) ≤ 40
  · rw [df (show ¬ (40 : Int) < ks.length by omega), dt h2]
    simp only [Bool.not_true, cond_false, Z4, Z5]
    rw [ct (show spec_l1CopyMatrix.P (m.1, (m.2.1, m.2.2)) = true from dt (show m.2.2.length < 1099511627776 by omega))]
    simp only [Z6, Z7, Z8, Z9, Z10]
    have := loop (ρ := Unit × (Int × Int × List Int) × Bool × Unit) N (fun t4_2 t5 t4_0 t4_1 => some ((), ((t4_0, (t4_1, t4_2)), (t5, ())))) 0 0 ks hv.1 N 0 m (by omega) (by omega)
    rw [show ((0 : Nat) : Int) = 0 from rfl, List.drop_zero] at this
    exact this
  · rw [dt (show (40 : Int) < ks.length by omega), df h2]; rfl⟩

end spec_MutateAlong
end
end Go.Fw
set_option linter.unusedVariables false
set_option linter.unusedSimpArgs false
set_option maxRecDepth 100000
namespace Go.Fw
noncomputable section
namespace impl_MutateAlong
def g (m : Int × Int × List Int) (ks : List Int) : (Int × Int × List Int) × Bool :=
  if ((shapedK m && !decide (facK m = [])) && decide ((ks.length : Int) ≤ 40)) = true then alongK impl_MutateMatrix.g m ks else noMat
end impl_MutateAlong
namespace impl_MutateAlong
def Z1 {ρ : Type} (N : Nat) (m0 : Int × Int × List Int) (ks1 : List Int) (kn : List Int → Int → Int → List Int → Int → Int → Option ρ) : Option ρ :=
 kn ks1 m0.1 m0.2.1 m0.2.2 0 0
def Z3 {ρ : Type} (N : Nat) (ks1 : List Int) (m2_0 : Int) (m2_1 : Int) (m2_2 : List Int) (t4_0 : Int) (t4_1 : Int) (kn : List Int → Int → Int → List Int → Int → Int → Option ρ) (kr : List Int → Bool → Int → Int → Option ρ) : Option ρ :=
 cond (!(lk N ((impl_MatrixOk.g (m2_0, (m2_1, m2_2))))))
 (
  kr ([] : List Int) false 0 0)
 (
  cond (lk N (decide (40 < (ks1.length : Int))))
  (
   kr ([] : List Int) false 0 0)
  (
   kn ks1 m2_0 m2_1 m2_2 t4_0 t4_1))
def Z5 {ρ : Type} (N : Nat) (ks1 : List Int) (m2_0 : Int) (m2_1 : Int) (m2_2 : List Int) (t4_0 : Int) (t4_1 : Int) (kn : List Int → List Int → Int → Int → Int → Int → Option ρ) : Option ρ :=
 both (
  cond (lk N (slices_Clone_int_int.P m2_2)) (
   both (
    kn (slices_Clone_int_int.g m2_2) ks1 t4_0 t4_1 m2_0 m2_1)
   (
    kn (slices_Clone_int_int.g m2_2) ks1 t4_0 t4_1 m2_0 m2_1)) none)
 (
  cond (lk N (slices_Clone_int_int.P m2_2)) (
   kn (slices_Clone_int_int.g m2_2) ks1 t4_0 t4_1 m2_0 m2_1) none)
def Z7 {ρ : Type} (N : Nat) (out6_2 : List Int) (ks1 : List Int) (t4_0 : Int) (t4_1 : Int) (out6_0 : Int) (out6_1 : Int) (kn : List Int → List Int → Int → Int → Int → Int → Option ρ) : Option ρ :=
 kn out6_2 ks1 t4_0 t4_1 out6_0 out6_1
def Z10 {ρ : Type} (N : Nat) (out6_2 : List Int) (ks1 : List Int) (t4_0 : Int) (t4_1 : Int) (out6_0 : Int) (out6_1 : Int) (kn : List Int → List Int → Int → Int → Int → Int → Int → Int → Option ρ) : Option ρ :=
 kn out6_2 ks1 (ks1.length : Int) 0 t4_0 t4_1 out6_0 out6_1
def Z13 {ρ : Type} (N : Nat) (out6_2 : List Int) (t27 : List Int) (t28 : Int) (t29 : Int) (t4_0 : Int) (t4_1 : Int) (out6_0 : Int) (out6_1 : Int) (kn : List Int → List Int → Int → Int → Int → Int → Int → Int → Option ρ) (k0 : List Int → Int → Int → Int → Int → Option ρ) (kr : List Int → Bool → Int → Int → Option ρ) : Option ρ :=
 cond (lk N (decide (t29 < t28)))
 (
  cond (lk N (inB t29 t27.length)) (
   cond (!(lk N ((impl_MutateMatrix.g (out6_0, (out6_1, out6_2)) (t27.getD t29.toNat 0)).2)))
   (
    kr ([] : List Int) false 0 0)
   (
    kn (impl_MutateMatrix.g (out6_0, (out6_1, out6_2)) (t27.getD t29.toNat 0)).1.2.2 t27 t28 (w64 (t29 + 1)) t4_0 t4_1 (impl_MutateMatrix.g (out6_0, (out6_1, out6_2)) (t27.getD t29.toNat 0)).1.1 (impl_MutateMatrix.g (out6_0, (out6_1, out6_2)) (t27.getD t29.toNat 0)).1.2.1)) none)
 (
  k0 out6_2 t4_0 t4_1 out6_0 out6_1)
def Z12L {ρ : Type} (N : Nat) (k0 : List Int → Int → Int → Int → Int → Option ρ) (kr : List Int → Bool → Int → Int → Option ρ) : Nat → List Int → List Int → Int → Int → Int → Int → Int → Int → Option ρ
  | 0, _, _, _, _, _, _, _, _ => none
  | M + 1, out6_2, t27, t28, t29, t4_0, t4_1, out6_0, out6_1 => Z13 N out6_2 t27 t28 t29 t4_0 t4_1 out6_0 out6_1 (fun out6_2 t27 t28 t29 t4_0 t4_1 out6_0 out6_1 => Z12L N k0 kr M out6_2 t27 t28 t29 t4_0 t4_1 out6_0 out6_1) k0 kr
def Z12 {ρ : Type} (N : Nat) (out6_2 : List Int) (t27 : List Int) (t28 : Int) (t29 : Int) (t4_0 : Int) (t4_1 : Int) (out6_0 : Int) (out6_1 : Int) (k0 : List Int → Int → Int → Int → Int → Option ρ) (kr : List Int → Bool → Int → Int → Option ρ) : Option ρ := Z12L N k0 kr N out6_2 t27 t28 t29 t4_0 t4_1 out6_0 out6_1
def Z11 {ρ : Type} (N : Nat) (out6_2 : List Int) (t27 : List Int) (t28 : Int) (t29 : Int) (t4_0 : Int) (t4_1 : Int) (out6_0 : Int) (out6_1 : Int) (kn : List Int → Int → Int → Int → Int → Option ρ) (kr : List Int → Bool → Int → Int → Option ρ) : Option ρ := Z12 N out6_2 t27 t28 t29 t4_0 t4_1 out6_0 out6_1 kn kr
def Z9 {ρ : Type} (N : Nat) (out6_2 : List Int) (ks1 : List Int) (t4_0 : Int) (t4_1 : Int) (out6_0 : Int) (out6_1 : Int) (kn : List Int → Int → Int → Int → Int → Option ρ) (kr : List Int → Bool → Int → Int → Option ρ) : Option ρ := Z10 N out6_2 ks1 t4_0 t4_1 out6_0 out6_1 (fun out6_2 t27 t28 t29 t4_0 t4_1 out6_0 out6_1 => Z11 N out6_2 t27 t28 t29 t4_0 t4_1 out6_0 out6_1 kn kr)
def Z14 {ρ : Type} (N : Nat) (out6_2 : List Int) (t4_0 : Int) (t4_1 : Int) (out6_0 : Int) (out6_1 : Int) (kr : List Int → Bool → Int → Int → Option ρ) : Option ρ :=
 kr out6_2 true out6_0 out6_1
def Z8 {ρ : Type} (N : Nat) (out6_2 : List Int) (ks1 : List Int) (t4_0 : Int) (t4_1 : Int) (out6_0 : Int) (out6_1 : Int) (kr : List Int → Bool → Int → Int → Option ρ) : Option ρ := Z9 N out6_2 ks1 t4_0 t4_1 out6_0 out6_1 (fun out6_2 t4_0 t4_1 out6_0 out6_1 => Z14 N out6_2 t4_0 t4_1 out6_0 out6_1 kr) kr
def Z6 {ρ : Type} (N : Nat) (out6_2 : List Int) (ks1 : List Int) (t4_0 : Int) (t4_1 : Int) (out6_0 : Int) (out6_1 : Int) (kr : List Int → Bool → Int → Int → Option ρ) : Option ρ := Z7 N out6_2 ks1 t4_0 t4_1 out6_0 out6_1 (fun out6_2 ks1 t4_0 t4_1 out6_0 out6_1 => Z8 N out6_2 ks1 t4_0 t4_1 out6_0 out6_1 kr)
def Z4 {ρ : Type} (N : Nat) (ks1 : List Int) (m2_0 : Int) (m2_1 : Int) (m2_2 : List Int) (t4_0 : Int) (t4_1 : Int) (kr : List Int → Bool → Int → Int → Option ρ) : Option ρ := Z5 N ks1 m2_0 m2_1 m2_2 t4_0 t4_1 (fun out6_2 ks1 t4_0 t4_1 out6_0 out6_1 => Z6 N out6_2 ks1 t4_0 t4_1 out6_0 out6_1 kr)
def Z2 {ρ : Type} (N : Nat) (ks1 : List Int) (m2_0 : Int) (m2_1 : Int) (m2_2 : List Int) (t4_0 : Int) (t4_1 : Int) (kr : List Int → Bool → Int → Int → Option ρ) : Option ρ := Z3 N ks1 m2_0 m2_1 m2_2 t4_0 t4_1 (fun ks1 m2_0 m2_1 m2_2 t4_0 t4_1 => Z4 N ks1 m2_0 m2_1 m2_2 t4_0 t4_1 kr) kr
def Z0 {ρ : Type} (N : Nat) (m0 : Int × Int × List Int) (ks1 : List Int) (kr : List Int → Bool → Int → Int → Option ρ) : Option ρ := Z1 N m0 ks1 (fun ks1 m2_0 m2_1 m2_2 t4_0 t4_1 => Z2 N ks1 m2_0 m2_1 m2_2 t4_0 t4_1 kr)
def Spec : Prop := ∀  (m0 : Int × Int × List Int) (ks1 : List Int), Ty.bd (.pair (.int .i64) (.pair (.int .i64) (.sl 0 (.int .i64)))) m0 → Ty.bd (.sl 0 (.int .i64)) ks1 → ∃ N0, ∀ N, N0 ≤ N → Z0 N m0 ks1 (fun t4_2 t5 t4_0 t4_1 => some ((), ((t4_0, (t4_1, t4_2)), (t5, ())))) = some ((), ((g m0 ks1).1, ((g m0 ks1).2, ())))

theorem loop {ρ : Type} (N : Nat) (kr : List Int → Bool → Int → Int → Option ρ) (t0 t1 : Int) (ks : List Int) (hk : ks.length ≤ maxLen) : ∀ (M j : Nat) (m : Int × Int × List Int), j ≤ ks.length → ks.length - j < M →
    Z12L N (fun a b c d e => Z14 N a b c d e kr) kr M m.2.2 ks (ks.length : Int) (j : Int) t0 t1 m.1 m.2.1 = kr (alongK impl_MutateMatrix.g m (ks.drop j)).1.2.2 (alongK impl_MutateMatrix.g m (ks.drop j)).2 (alongK impl_MutateMatrix.g m (ks.drop j)).1.1 (alongK impl_MutateMatrix.g m (ks.drop j)).1.2.1 := by
  intro M
  induction M with
  | zero => intro j _ _ h; omega
  | succ M ih =>
    intro j m hj hM
    simp only [Z12L, Z13]
    by_cases h : j < ks.length
    · have hv : impl_MutateMatrix.g (m.1, (m.2.1, m.2.2)) (ks.getD j 0) = impl_MutateMatrix.g m (ks.getD j 0) := rfl
      rw [ct (dt (by omega)), ct (inB_nat h), Int.toNat_natCast, hv, drop_getD 0 h, alongK, w64_succ (by omega)]
      cases hb : (impl_MutateMatrix.g m (ks.getD j 0)).2
      · rw [ct' (by rw [lk_eq]; rfl), if_neg (by simp)]; rfl
      · rw [cf' (by rw [lk_eq]; rfl), if_pos rfl]
        exact ih (j + 1) _ h (by omega)
    · rw [cf (df (by omega)), List.drop_of_length_le (by omega), alongK]; rfl
theorem ok : Spec := fun m ks hb hv => ⟨ks.length + 10, fun N hN => by
  have e0 : impl_MatrixOk.g (m.1, (m.2.1, m.2.2)) = (shapedK m && !decide (facK m = [])) := rfl
  simp only [Z0, Z1, Z2, Z3, e0, g, lk_eq]
  cases h1 : (shapedK m && !decide (facK m = []))
  · rfl
  have hs : shapedK m = true := by
    simp only [Bool.and_eq_true] at h1
    exact h1.1
  have hd := shaped_dim hs
  obtain ⟨n, r, hn, hr, hn1, hn5, hnr, hr8, hl⟩ := dim_nat hd
  have hlen : m.2.2.length ≤ 8 * 5 := by rw [hl]; exact Nat.mul_le_mul hr8 hn5
  by_cases h2 : (ks.length : Int) ≤ 40
  · rw [df (show ¬ (40 : Int) < ks.length by omega), dt h2]
    simp only [Bool.not_true, cond_false, Z4, Z5]
    rw [ct (show slices_Clone_int_int.P m.2.2 = true from dt (by omega)), ct (show slices_Clone_int_int.P m.2.2 = true from dt (by omega)), both_self, both_self]
    simp only [Z6, Z7, Z8, Z9, Z10, Z11, Z12]
    have := loop (ρ := Unit × (Int × Int × List Int) × Bool × Unit) N (fun t4_2 t5 t4_0 t4_1 => some ((), ((t4_0, (t4_1, t4_2)), (t5, ())))) 0 0 ks hv.1 N 0 m (by omega) (by omega)
    rw [show ((0 : Nat) : Int) = 0 from rfl, List.drop_zero] at this
    exact this
  · rw [dt (show (40 : Int) < ks.length by omega), df h2]; rfl⟩

end impl_MutateAlong
end
end Go.Fw
set_option linter.unusedVariables false
set_option linter.unusedSimpArgs false
set_option maxRecDepth 100000
namespace Go.Fw
noncomputable section
namespace laws_eqIntS
def g (a b : List Int) : Bool := decide (a = b)
end laws_eqIntS
namespace laws_eqIntS
def Z1 {ρ : Type} (N : Nat) (a0 : List Int) (b1 : List Int) (kn : List Int → List Int → Option ρ) : Option ρ :=
 kn a0 b1
def Z3 {ρ : Type} (N : Nat) (a0 : List Int) (b1 : List Int) (kn : List Int → List Int → Option ρ) (kr : Bool → Option ρ) : Option ρ :=
 cond (lk N (!(decide ((a0.length : Int) = (b1.length : Int)))))
 (
  kr false)
 (
  kn a0 b1)
def Z6 {ρ : Type} (N : Nat) (a0 : List Int) (b1 : List Int) (kn : List Int → List Int → Int → Option ρ) : Option ρ :=
 kn a0 b1 0
def Z9 {ρ : Type} (N : Nat) (a0 : List Int) (b1 : List Int) (i5 : Int) (kn : List Int → List Int → Int → Option ρ) (k0 : Option ρ) (kr : Bool → Option ρ) : Option ρ :=
 cond (lk N (decide (i5 < (a0.length : Int))))
 (
  cond (lk N (inB i5 a0.length)) (
   cond (lk N (inB i5 b1.length)) (
    cond (lk N (!(decide ((a0.getD i5.toNat 0) = (b1.getD i5.toNat 0)))))
    (
     kr false)
    (
     kn a0 b1 (w64 (i5 + 1)))) none) none)
 (
  k0)
def Z8L {ρ : Type} (N : Nat) (k0 : Option ρ) (kr : Bool → Option ρ) : Nat → List Int → List Int → Int → Option ρ
  | 0, _, _, _ => none
  | M + 1, a0, b1, i5 => Z9 N a0 b1 i5 (fun a0 b1 i5 => Z8L N k0 kr M a0 b1 i5) k0 kr
def Z8 {ρ : Type} (N : Nat) (a0 : List Int) (b1 : List Int) (i5 : Int) (k0 : Option ρ) (kr : Bool → Option ρ) : Option ρ := Z8L N k0 kr N a0 b1 i5
def Z7 {ρ : Type} (N : Nat) (a0 : List Int) (b1 : List Int) (i5 : Int) (kn : Option ρ) (kr : Bool → Option ρ) : Option ρ := Z8 N a0 b1 i5 kn kr
def Z5 {ρ : Type} (N : Nat) (a0 : List Int) (b1 : List Int) (kn : Option ρ) (kr : Bool → Option ρ) : Option ρ := Z6 N a0 b1 (fun a0 b1 i5 => Z7 N a0 b1 i5 kn kr)
def Z10 {ρ : Type} (N : Nat)  (kr : Bool → Option ρ) : Option ρ :=
 kr true
def Z4 {ρ : Type} (N : Nat) (a0 : List Int) (b1 : List Int) (kr : Bool → Option ρ) : Option ρ := Z5 N a0 b1 (Z10 N kr) kr
def Z2 {ρ : Type} (N : Nat) (a0 : List Int) (b1 : List Int) (kr : Bool → Option ρ) : Option ρ := Z3 N a0 b1 (fun a0 b1 => Z4 N a0 b1 kr) kr
def Z0 {ρ : Type} (N : Nat) (a0 : List Int) (b1 : List Int) (kr : Bool → Option ρ) : Option ρ := Z1 N a0 b1 (fun a0 b1 => Z2 N a0 b1 kr)
def Spec : Prop := ∀  (a0 : List Int) (b1 : List Int), Ty.bd (.sl 0 (.int .i64)) a0 → Ty.bd (.sl 0 (.int .i64)) b1 → ∃ N0, ∀ N, N0 ≤ N → Z0 N a0 b1 (fun t4 => some ((), (t4, ()))) = some ((), ((g a0 b1), ()))

theorem loop {ρ : Type} (N : Nat) (k0 : Option ρ) (kr : Bool → Option ρ) (a b : List Int) (hl : a.length = b.length) (ha : a.length ≤ maxLen) : ∀ (M j : Nat), j ≤ a.length → a.length - j < M →
    Z8L N k0 kr M a b (j : Int) = if a.drop j = b.drop j then k0 else kr false := by
  intro M
  induction M with
  | zero => intro j _ h; omega
  | succ M ih =>
    intro j hj hM
    simp only [Z8L, Z9]
    by_cases h : j < a.length
    · rw [ct (dt (by omega)), ct (inB_nat h), ct (inB_nat (by omega)), Int.toNat_natCast, w64_succ (by omega), ih (j + 1) h (by omega), drop_getD 0 h, drop_getD (l := b) (j := j) 0 (by omega)]
      by_cases e : a.getD j 0 = b.getD j 0
      · rw [cf (nf e), e]
        simp only [List.cons.injEq, true_and]
      · rw [ct (nt e), if_neg (by simp only [List.cons.injEq]; exact fun h => e h.1)]
    · rw [cf (df (by omega)), if_pos (by rw [List.drop_of_length_le (by omega), List.drop_of_length_le (by omega)])]
theorem ok : Spec := fun a b ha hb => ⟨a.length + 1, fun N hN => by
  simp only [Z1, Z3, Z6, Z9, Z8, Z7, Z5, Z10, Z4, Z2, Z0]
  by_cases hl : a.length = b.length
  · rw [cf (nf (by omega))]
    rw [show (0 : Int) = ((0 : Nat) : Int) from rfl, loop _ _ _ a b hl ha.1 N 0 (by omega) (by omega)]
    by_cases e : a = b <;> simp [e, g]
  · rw [ct (nt (by omega))]
    have : a ≠ b := fun e => hl (by rw [e])
    simp [g, this]⟩

end laws_eqIntS
end
end Go.Fw
set_option linter.unusedVariables false
set_option linter.unusedSimpArgs false
set_option maxRecDepth 100000
namespace Go.Fw
noncomputable section
namespace laws_eqMatrix
def g (a b : Int × Int × List Int) : Bool := decide (a = b)
end laws_eqMatrix
namespace laws_eqMatrix
def Z0 {ρ : Type} (N : Nat) (a0 : Int × Int × List Int) (b1 : Int × Int × List Int) (kr : Bool → Option ρ) : Option ρ :=
 cond (lk N (!(decide (a0.1 = b1.1))))
 (
  kr false)
 (
  cond (lk N (!(decide (a0.2.1 = b1.2.1))))
  (
   kr false)
  (
   cond (!(lk N ((laws_eqIntS.g a0.2.2 b1.2.2))))
   (
    kr false)
   (
    kr true)))
def Spec : Prop := ∀  (a0 : Int × Int × List Int) (b1 : Int × Int × List Int), Ty.bd (.pair (.int .i64) (.pair (.int .i64) (.sl 0 (.int .i64)))) a0 → Ty.bd (.pair (.int .i64) (.pair (.int .i64) (.sl 0 (.int .i64)))) b1 → ∃ N0, ∀ N, N0 ≤ N → Z0 N a0 b1 (fun t4 => some ((), (t4, ()))) = some ((), ((g a0 b1), ()))

theorem ok : Spec := fun a b ha hb => ⟨0, fun N hN => by
  obtain ⟨a1, a2, a3⟩ := a
  obtain ⟨b1, b2, b3⟩ := b
  simp only [Z0, lk_eq, g, laws_eqIntS.g, Prod.mk.injEq]
  by_cases h1 : a1 = b1 <;> by_cases h2 : a2 = b2 <;> by_cases h3 : a3 = b3 <;> simp [h1, h2, h3]⟩

end laws_eqMatrix
end
end Go.Fw
set_option linter.unusedVariables false
set_option linter.unusedSimpArgs false
set_option maxRecDepth 100000
namespace Go.Fw
noncomputable section
namespace laws_FnExactMutateAlong
def g (_ : Int × Int × List Int) (_ : List Int) : Bool := true
end laws_FnExactMutateAlong
namespace laws_FnExactMutateAlong
def Z1 {ρ : Type} (N : Nat) (aM0 : Int × Int × List Int) (aKs1 : List Int) (kn : List Int → Int → Int → List Int → Option ρ) : Option ρ :=
 kn aKs1 aM0.1 aM0.2.1 aM0.2.2
def Z3 {ρ : Type} (N : Nat) (aKs1 : List Int) (aM2_0 : Int) (aM2_1 : Int) (aM2_2 : List Int) (kn : List Int → Int → Int → List Int → Option ρ) (kr : Bool → Option ρ) : Option ρ :=
 cond (lk N (decide (1048576 < (aKs1.length : Int))))
 (
  kr true)
 (
  kn aKs1 aM2_0 aM2_1 aM2_2)
def Z5 {ρ : Type} (N : Nat) (aKs1 : List Int) (aM2_0 : Int) (aM2_1 : Int) (aM2_2 : List Int) (kn : List Int → Int → Int → Int → List Int → Option ρ) : Option ρ :=
 kn aKs1 1048576 aM2_0 aM2_1 aM2_2
def Z7 {ρ : Type} (N : Nat) (aKs1 : List Int) (left5 : Int) (aM2_0 : Int) (aM2_1 : Int) (aM2_2 : List Int) (kn : List Int → Int → Int → Int → List Int → Option ρ) : Option ρ :=
 kn aKs1 (laws_szMatrix.g (aM2_0, (aM2_1, aM2_2)) left5) aM2_0 aM2_1 aM2_2
def Z9 {ρ : Type} (N : Nat) (aKs1 : List Int) (left5 : Int) (aM2_0 : Int) (aM2_1 : Int) (aM2_2 : List Int) (kn : List Int → Int → Int → List Int → Option ρ) (kr : Bool → Option ρ) : Option ρ :=
 cond (lk N (decide (left5 < 0)))
 (
  kr true)
 (
  kn aKs1 aM2_0 aM2_1 aM2_2)
def Z11 {ρ : Type} (N : Nat) (aKs1 : List Int) (aM2_0 : Int) (aM2_1 : Int) (aM2_2 : List Int) (kn : List Int → List Int → Bool → Int → Int → List Int → Int → Int → Option ρ) : Option ρ :=
 cond (lk N (laws_toMatrix.P (aM2_0, (aM2_1, aM2_2)))) (
  cond (lk N (laws_toIntS.P aKs1)) (
   kn (spec_MutateAlong.g (laws_toMatrix.g (aM2_0, (aM2_1, aM2_2))) (laws_toIntS.g aKs1)).1.2.2 aKs1 (lk N ((spec_MutateAlong.g (laws_toMatrix.g (aM2_0, (aM2_1, aM2_2))) (laws_toIntS.g aKs1)).2)) aM2_0 aM2_1 aM2_2 (spec_MutateAlong.g (laws_toMatrix.g (aM2_0, (aM2_1, aM2_2))) (laws_toIntS.g aKs1)).1.1 (spec_MutateAlong.g (laws_toMatrix.g (aM2_0, (aM2_1, aM2_2))) (laws_toIntS.g aKs1)).1.2.1) none) none
def Z13 {ρ : Type} (N : Nat) (w06_2 : List Int) (aKs1 : List Int) (w17 : Bool) (aM2_0 : Int) (aM2_1 : Int) (aM2_2 : List Int) (w06_0 : Int) (w06_1 : Int) (kn : List Int → List Int → List Int → Bool → Int → Int → List Int → Int → Int → Int → Int → Option ρ) : Option ρ :=
 cond (lk N (laws_toMatrix.P (aM2_0, (aM2_1, aM2_2)))) (
  kn w06_2 (laws_toMatrix.g (aM2_0, (aM2_1, aM2_2))).2.2 aKs1 w17 aM2_0 aM2_1 aM2_2 w06_0 w06_1 (laws_toMatrix.g (aM2_0, (aM2_1, aM2_2))).1 (laws_toMatrix.g (aM2_0, (aM2_1, aM2_2))).2.1) none
def Z15 {ρ : Type} (N : Nat) (w06_2 : List Int) (x08_2 : List Int) (aKs1 : List Int) (w17 : Bool) (aM2_0 : Int) (aM2_1 : Int) (aM2_2 : List Int) (w06_0 : Int) (w06_1 : Int) (x08_0 : Int) (x08_1 : Int) (kn : List Int → List Int → List Int → List Int → Bool → Int → Int → List Int → Int → Int → Int → Int → Option ρ) : Option ρ :=
 cond (lk N (laws_toIntS.P aKs1)) (
  kn (laws_toIntS.g aKs1) w06_2 x08_2 aKs1 w17 aM2_0 aM2_1 aM2_2 w06_0 w06_1 x08_0 x08_1) none
def Z17 {ρ : Type} (N : Nat) (x19 : List Int) (w06_2 : List Int) (x08_2 : List Int) (aKs1 : List Int) (w17 : Bool) (aM2_0 : Int) (aM2_1 : Int) (aM2_2 : List Int) (w06_0 : Int) (w06_1 : Int) (x08_0 : Int) (x08_1 : Int) (kn : List Int → List Int → List Int → List Int → List Int → Bool → Bool → Int → Int → List Int → Int → Int → Int → Int → Int → Int → Option ρ) : Option ρ :=
 kn x19 w06_2 x08_2 (impl_MutateAlong.g (x08_0, (x08_1, x08_2)) x19).1.2.2 aKs1 w17 (lk N ((impl_MutateAlong.g (x08_0, (x08_1, x08_2)) x19).2)) aM2_0 aM2_1 aM2_2 w06_0 w06_1 x08_0 x08_1 (impl_MutateAlong.g (x08_0, (x08_1, x08_2)) x19).1.1 (impl_MutateAlong.g (x08_0, (x08_1, x08_2)) x19).1.2.1
def Z19 {ρ : Type} (N : Nat) (x19 : List Int) (w06_2 : List Int) (x08_2 : List Int) (g010_2 : List Int) (aKs1 : List Int) (w17 : Bool) (g111 : Bool) (aM2_0 : Int) (aM2_1 : Int) (aM2_2 : List Int) (w06_0 : Int) (w06_1 : Int) (x08_0 : Int) (x08_1 : Int) (g010_0 : Int) (g010_1 : Int) (kn : List Int → List Int → List Int → List Int → List Int → Bool → Bool → Int → Int → List Int → Int → Int → Int → Int → Int → Int → Option ρ) (kr : Bool → Option ρ) : Option ρ :=
 cond (!(lk N ((laws_eqMatrix.g (g010_0, (g010_1, g010_2)) (w06_0, (w06_1, w06_2))))))
 (
  kr false)
 (
  cond (lk N (!((g111 == w17))))
  (
   kr false)
  (
   kn x19 w06_2 x08_2 g010_2 aKs1 w17 g111 aM2_0 aM2_1 aM2_2 w06_0 w06_1 x08_0 x08_1 g010_0 g010_1))
def Z21 {ρ : Type} (N : Nat) (x19 : List Int) (w06_2 : List Int) (x08_2 : List Int) (g010_2 : List Int) (aKs1 : List Int) (w17 : Bool) (g111 : Bool) (aM2_0 : Int) (aM2_1 : Int) (aM2_2 : List Int) (w06_0 : Int) (w06_1 : Int) (x08_0 : Int) (x08_1 : Int) (g010_0 : Int) (g010_1 : Int) (kn : List Int → List Int → List Int → List Int → List Int → Bool → Bool → Int → Int → List Int → Int → Int → Int → Int → Int → Int → Option ρ) (kr : Bool → Option ρ) : Option ρ :=
 cond (lk N (laws_toMatrix.P (aM2_0, (aM2_1, aM2_2)))) (
  cond (!(lk N ((laws_eqMatrix.g (x08_0, (x08_1, x08_2)) (laws_toMatrix.g (aM2_0, (aM2_1, aM2_2)))))))
  (
   kr false)
  (
   kn x19 w06_2 x08_2 g010_2 aKs1 w17 g111 aM2_0 aM2_1 aM2_2 w06_0 w06_1 x08_0 x08_1 g010_0 g010_1)) none
def Z23 {ρ : Type} (N : Nat) (x19 : List Int) (w06_2 : List Int) (x08_2 : List Int) (g010_2 : List Int) (aKs1 : List Int) (w17 : Bool) (g111 : Bool) (aM2_0 : Int) (aM2_1 : Int) (aM2_2 : List Int) (w06_0 : Int) (w06_1 : Int) (x08_0 : Int) (x08_1 : Int) (g010_0 : Int) (g010_1 : Int) (kn : List Int → List Int → List Int → List Int → List Int → Bool → Bool → Int → Int → List Int → Int → Int → Int → Int → Int → Int → Option ρ) (kr : Bool → Option ρ) : Option ρ :=
 cond (lk N (laws_toIntS.P aKs1)) (
  cond (!(lk N ((laws_eqIntS.g x19 (laws_toIntS.g aKs1)))))
  (
   kr false)
  (
   kn x19 w06_2 x08_2 g010_2 aKs1 w17 g111 aM2_0 aM2_1 aM2_2 w06_0 w06_1 x08_0 x08_1 g010_0 g010_1)) none
def Z25 {ρ : Type} (N : Nat) (x19 : List Int) (w06_2 : List Int) (x08_2 : List Int) (g010_2 : List Int) (aKs1 : List Int) (w17 : Bool) (g111 : Bool) (aM2_0 : Int) (aM2_1 : Int) (aM2_2 : List Int) (w06_0 : Int) (w06_1 : Int) (x08_0 : Int) (x08_1 : Int) (g010_0 : Int) (g010_1 : Int) (kn : List Int → List Int → List Int → List Int → List Int → Bool → Bool → Int → Int → Int → List Int → Int → Int → Int → Int → Int → Int → Option ρ) : Option ρ :=
 kn x19 w06_2 x08_2 g010_2 aKs1 w17 g111 1 aM2_0 aM2_1 aM2_2 w06_0 w06_1 x08_0 x08_1 g010_0 g010_1
def Z27 {ρ : Type} (N : Nat) (x19 : List Int) (w06_2 : List Int) (x08_2 : List Int) (g010_2 : List Int) (aKs1 : List Int) (w17 : Bool) (g111 : Bool) (k12 : Int) (aM2_0 : Int) (aM2_1 : Int) (aM2_2 : List Int) (w06_0 : Int) (w06_1 : Int) (x08_0 : Int) (x08_1 : Int) (g010_0 : Int) (g010_1 : Int) (kn : List Int → List Int → List Int → List Int → Bool → Bool → Int → Int → Int → List Int → Int → Int → Int → Int → Option ρ) : Option ρ :=
 kn x19 w06_2 g010_2 aKs1 w17 g111 (laws_markMatrix.g (x08_0, (x08_1, x08_2)) k12).2 aM2_0 aM2_1 aM2_2 w06_0 w06_1 g010_0 g010_1
def Z29 {ρ : Type} (N : Nat) (x19 : List Int) (w06_2 : List Int) (g010_2 : List Int) (aKs1 : List Int) (w17 : Bool) (g111 : Bool) (k12 : Int) (aM2_0 : Int) (aM2_1 : Int) (aM2_2 : List Int) (w06_0 : Int) (w06_1 : Int) (g010_0 : Int) (g010_1 : Int) (kn : List Int → List Int → List Int → Bool → Bool → Int → Int → Int → List Int → Int → Int → Int → Int → Option ρ) : Option ρ :=
 kn w06_2 g010_2 aKs1 w17 g111 (laws_markIntS.g x19 k12).2 aM2_0 aM2_1 aM2_2 w06_0 w06_1 g010_0 g010_1
def Z31 {ρ : Type} (N : Nat) (w06_2 : List Int) (g010_2 : List Int) (aKs1 : List Int) (w17 : Bool) (g111 : Bool) (k12 : Int) (aM2_0 : Int) (aM2_1 : Int) (aM2_2 : List Int) (w06_0 : Int) (w06_1 : Int) (g010_0 : Int) (g010_1 : Int) (kn : List Int → List Int → List Int → Bool → Int → Int → List Int → Int → Int → Int → Int → Option ρ) (kr : Bool → Option ρ) : Option ρ :=
 cond (lk N (decide (k12 < 0)))
 (
  kr false)
 (
  cond (!(lk N ((laws_eqMatrix.g (g010_0, (g010_1, g010_2)) (w06_0, (w06_1, w06_2))))))
  (
   kr false)
  (
   cond (lk N (!((g111 == w17))))
   (
    kr false)
   (
    kn w06_2 g010_2 aKs1 w17 aM2_0 aM2_1 aM2_2 w06_0 w06_1 g010_0 g010_1)))
def Z32 {ρ : Type} (N : Nat) (w06_2 : List Int) (g010_2 : List Int) (aKs1 : List Int) (w17 : Bool) (aM2_0 : Int) (aM2_1 : Int) (aM2_2 : List Int) (w06_0 : Int) (w06_1 : Int) (g010_0 : Int) (g010_1 : Int) (kr : Bool → Option ρ) : Option ρ :=
 cond (lk N (decide ((laws_heldMatrix.g (g010_0, (g010_1, (laws_markMatrix.g (g010_0, (g010_1, g010_2)) 1).1.2.2)) 1) < 0)))
 (
  kr false)
 (
  cond (lk N (!(decide ((laws_heldMatrix.g (g010_0, (g010_1, (laws_markMatrix.g (g010_0, (g010_1, g010_2)) 1).1.2.2)) 1) = (laws_markMatrix.g (g010_0, (g010_1, g010_2)) 1).2))))
  (
   kr false)
  (
   cond (lk N (laws_toMatrix.P (aM2_0, (aM2_1, aM2_2)))) (
    cond (lk N (laws_toIntS.P aKs1)) (
     cond (!(lk N ((laws_eqMatrix.g (impl_MutateAlong.g (laws_toMatrix.g (aM2_0, (aM2_1, aM2_2))) (laws_toIntS.g aKs1)).1 (w06_0, (w06_1, w06_2))))))
     (
      kr false)
     (
      cond (lk N (!(((lk N ((impl_MutateAlong.g (laws_toMatrix.g (aM2_0, (aM2_1, aM2_2))) (laws_toIntS.g aKs1)).2)) == w17))))
      (
       kr false)
      (
       cond (lk N (decide ((laws_heldMatrix.g (g010_0, (g010_1, (laws_markMatrix.g (g010_0, (g010_1, g010_2)) 1).1.2.2)) 1) < 0)))
       (
        kr false)
       (
        cond (lk N (!(decide ((laws_heldMatrix.g (g010_0, (g010_1, (laws_markMatrix.g (g010_0, (g010_1, g010_2)) 1).1.2.2)) 1) = (laws_markMatrix.g (g010_0, (g010_1, g010_2)) 1).2))))
        (
         kr false)
        (
         kr true))))) none) none))
def Z30 {ρ : Type} (N : Nat) (w06_2 : List Int) (g010_2 : List Int) (aKs1 : List Int) (w17 : Bool) (g111 : Bool) (k12 : Int) (aM2_0 : Int) (aM2_1 : Int) (aM2_2 : List Int) (w06_0 : Int) (w06_1 : Int) (g010_0 : Int) (g010_1 : Int) (kr : Bool → Option ρ) : Option ρ := Z31 N w06_2 g010_2 aKs1 w17 g111 k12 aM2_0 aM2_1 aM2_2 w06_0 w06_1 g010_0 g010_1 (fun w06_2 g010_2 aKs1 w17 aM2_0 aM2_1 aM2_2 w06_0 w06_1 g010_0 g010_1 => Z32 N w06_2 g010_2 aKs1 w17 aM2_0 aM2_1 aM2_2 w06_0 w06_1 g010_0 g010_1 kr) kr
def Z28 {ρ : Type} (N : Nat) (x19 : List Int) (w06_2 : List Int) (g010_2 : List Int) (aKs1 : List Int) (w17 : Bool) (g111 : Bool) (k12 : Int) (aM2_0 : Int) (aM2_1 : Int) (aM2_2 : List Int) (w06_0 : Int) (w06_1 : Int) (g010_0 : Int) (g010_1 : Int) (kr : Bool → Option ρ) : Option ρ := Z29 N x19 w06_2 g010_2 aKs1 w17 g111 k12 aM2_0 aM2_1 aM2_2 w06_0 w06_1 g010_0 g010_1 (fun w06_2 g010_2 aKs1 w17 g111 k12 aM2_0 aM2_1 aM2_2 w06_0 w06_1 g010_0 g010_1 => Z30 N w06_2 g010_2 aKs1 w17 g111 k12 aM2_0 aM2_1 aM2_2 w06_0 w06_1 g010_0 g010_1 kr)
def Z26 {ρ : Type} (N : Nat) (x19 : List Int) (w06_2 : List Int) (x08_2 : List Int) (g010_2 : List Int) (aKs1 : List Int) (w17 : Bool) (g111 : Bool) (k12 : Int) (aM2_0 : Int) (aM2_1 : Int) (aM2_2 : List Int) (w06_0 : Int) (w06_1 : Int) (x08_0 : Int) (x08_1 : Int) (g010_0 : Int) (g010_1 : Int) (kr : Bool → Option ρ) : Option ρ := Z27 N x19 w06_2 x08_2 g010_2 aKs1 w17 g111 k12 aM2_0 aM2_1 aM2_2 w06_0 w06_1 x08_0 x08_1 g010_0 g010_1 (fun x19 w06_2 g010_2 aKs1 w17 g111 k12 aM2_0 aM2_1 aM2_2 w06_0 w06_1 g010_0 g010_1 => Z28 N x19 w06_2 g010_2 aKs1 w17 g111 k12 aM2_0 aM2_1 aM2_2 w06_0 w06_1 g010_0 g010_1 kr)
def Z24 {ρ : Type} (N : Nat) (x19 : List Int) (w06_2 : List Int) (x08_2 : List Int) (g010_2 : List Int) (aKs1 : List Int) (w17 : Bool) (g111 : Bool) (aM2_0 : Int) (aM2_1 : Int) (aM2_2 : List Int) (w06_0 : Int) (w06_1 : Int) (x08_0 : Int) (x08_1 : Int) (g010_0 : Int) (g010_1 : Int) (kr : Bool → Option ρ) : Option ρ := Z25 N x19 w06_2 x08_2 g010_2 aKs1 w17 g111 aM2_0 aM2_1 aM2_2 w06_0 w06_1 x08_0 x08_1 g010_0 g010_1 (fun x19 w06_2 x08_2 g010_2 aKs1 w17 g111 k12 aM2_0 aM2_1 aM2_2 w06_0 w06_1 x08_0 x08_1 g010_0 g010_1 => Z26 N x19 w06_2 x08_2 g010_2 aKs1 w17 g111 k12 aM2_0 aM2_1 aM2_2 w06_0 w06_1 x08_0 x08_1 g010_0 g010_1 kr)
def Z22 {ρ : Type} (N : Nat) (x19 : List Int) (w06_2 : List Int) (x08_2 : List Int) (g010_2 : List Int) (aKs1 : List Int) (w17 : Bool) (g111 : Bool) (aM2_0 : Int) (aM2_1 : Int) (aM2_2 : List Int) (w06_0 : Int) (w06_1 : Int) (x08_0 : Int) (x08_1 : Int) (g010_0 : Int) (g010_1 : Int) (kr : Bool → Option ρ) : Option ρ := Z23 N x19 w06_2 x08_2 g010_2 aKs1 w17 g111 aM2_0 aM2_1 aM2_2 w06_0 w06_1 x08_0 x08_1 g010_0 g010_1 (fun x19 w06_2 x08_2 g010_2 aKs1 w17 g111 aM2_0 aM2_1 aM2_2 w06_0 w06_1 x08_0 x08_1 g010_0 g010_1 => Z24 N x19 w06_2 x08_2 g010_2 aKs1 w17 g111 aM2_0 aM2_1 aM2_2 w06_0 w06_1 x08_0 x08_1 g010_0 g010_1 kr) kr
def Z20 {ρ : Type} (N : Nat) (x19 : List Int) (w06_2 : List Int) (x08_2 : List Int) (g010_2 : List Int) (aKs1 : List Int) (w17 : Bool) (g111 : Bool) (aM2_0 : Int) (aM2_1 : Int) (aM2_2 : List Int) (w06_0 : Int) (w06_1 : Int) (x08_0 : Int) (x08_1 : Int) (g010_0 : Int) (g010_1 : Int) (kr : Bool → Option ρ) : Option ρ := Z21 N x19 w06_2 x08_2 g010_2 aKs1 w17 g111 aM2_0 aM2_1 aM2_2 w06_0 w06_1 x08_0 x08_1 g010_0 g010_1 (fun x19 w06_2 x08_2 g010_2 aKs1 w17 g111 aM2_0 aM2_1 aM2_2 w06_0 w06_1 x08_0 x08_1 g010_0 g010_1 => Z22 N x19 w06_2 x08_2 g010_2 aKs1 w17 g111 aM2_0 aM2_1 aM2_2 w06_0 w06_1 x08_0 x08_1 g010_0 g010_1 kr) kr
def Z18 {ρ : Type} (N : Nat) (x19 : List Int) (w06_2 : List Int) (x08_2 : List Int) (g010_2 : List Int) (aKs1 : List Int) (w17 : Bool) (g111 : Bool) (aM2_0 : Int) (aM2_1 : Int) (aM2_2 : List Int) (w06_0 : Int) (w06_1 : Int) (x08_0 : Int) (x08_1 : Int) (g010_0 : Int) (g010_1 : Int) (kr : Bool → Option ρ) : Option ρ := Z19 N x19 w06_2 x08_2 g010_2 aKs1 w17 g111 aM2_0 aM2_1 aM2_2 w06_0 w06_1 x08_0 x08_1 g010_0 g010_1 (fun x19 w06_2 x08_2 g010_2 aKs1 w17 g111 aM2_0 aM2_1 aM2_2 w06_0 w06_1 x08_0 x08_1 g010_0 g010_1 => Z20 N x19 w06_2 x08_2 g010_2 aKs1 w17 g111 aM2_0 aM2_1 aM2_2 w06_0 w06_1 x08_0 x08_1 g010_0 g010_1 kr) kr
def Z16 {ρ : Type} (N : Nat) (x19 : List Int) (w06_2 : List Int) (x08_2 : List Int) (aKs1 : List Int) (w17 : Bool) (aM2_0 : Int) (aM2_1 : Int) (aM2_2 : List Int) (w06_0 : Int) (w06_1 : Int) (x08_0 : Int) (x08_1 : Int) (kr : Bool → Option ρ) : Option ρ := Z17 N x19 w06_2 x08_2 aKs1 w17 aM2_0 aM2_1 aM2_2 w06_0 w06_1 x08_0 x08_1 (fun x19 w06_2 x08_2 g010_2 aKs1 w17 g111 aM2_0 aM2_1 aM2_2 w06_0 w06_1 x08_0 x08_1 g010_0 g010_1 => Z18 N x19 w06_2 x08_2 g010_2 aKs1 w17 g111 aM2_0 aM2_1 aM2_2 w06_0 w06_1 x08_0 x08_1 g010_0 g010_1 kr)
def Z14 {ρ : Type} (N : Nat) (w06_2 : List Int) (x08_2 : List Int) (aKs1 : List Int) (w17 : Bool) (aM2_0 : Int) (aM2_1 : Int) (aM2_2 : List Int) (w06_0 : Int) (w06_1 : Int) (x08_0 : Int) (x08_1 : Int) (kr : Bool → Option ρ) : Option ρ := Z15 N w06_2 x08_2 aKs1 w17 aM2_0 aM2_1 aM2_2 w06_0 w06_1 x08_0 x08_1 (fun x19 w06_2 x08_2 aKs1 w17 aM2_0 aM2_1 aM2_2 w06_0 w06_1 x08_0 x08_1 => Z16 N x19 w06_2 x08_2 aKs1 w17 aM2_0 aM2_1 aM2_2 w06_0 w06_1 x08_0 x08_1 kr)
def Z12 {ρ : Type} (N : Nat) (w06_2 : List Int) (aKs1 : List Int) (w17 : Bool) (aM2_0 : Int) (aM2_1 : Int) (aM2_2 : List Int) (w06_0 : Int) (w06_1 : Int) (kr : Bool → Option ρ) : Option ρ := Z13 N w06_2 aKs1 w17 aM2_0 aM2_1 aM2_2 w06_0 w06_1 (fun w06_2 x08_2 aKs1 w17 aM2_0 aM2_1 aM2_2 w06_0 w06_1 x08_0 x08_1 => Z14 N w06_2 x08_2 aKs1 w17 aM2_0 aM2_1 aM2_2 w06_0 w06_1 x08_0 x08_1 kr)
def Z10 {ρ : Type} (N : Nat) (aKs1 : List Int) (aM2_0 : Int) (aM2_1 : Int) (aM2_2 : List Int) (kr : Bool → Option ρ) : Option ρ := Z11 N aKs1 aM2_0 aM2_1 aM2_2 (fun w06_2 aKs1 w17 aM2_0 aM2_1 aM2_2 w06_0 w06_1 => Z12 N w06_2 aKs1 w17 aM2_0 aM2_1 aM2_2 w06_0 w06_1 kr)
def Z8 {ρ : Type} (N : Nat) (aKs1 : List Int) (left5 : Int) (aM2_0 : Int) (aM2_1 : Int) (aM2_2 : List Int) (kr : Bool → Option ρ) : Option ρ := Z9 N aKs1 left5 aM2_0 aM2_1 aM2_2 (fun aKs1 aM2_0 aM2_1 aM2_2 => Z10 N aKs1 aM2_0 aM2_1 aM2_2 kr) kr
def Z6 {ρ : Type} (N : Nat) (aKs1 : List Int) (left5 : Int) (aM2_0 : Int) (aM2_1 : Int) (aM2_2 : List Int) (kr : Bool → Option ρ) : Option ρ := Z7 N aKs1 left5 aM2_0 aM2_1 aM2_2 (fun aKs1 left5 aM2_0 aM2_1 aM2_2 => Z8 N aKs1 left5 aM2_0 aM2_1 aM2_2 kr)
def Z4 {ρ : Type} (N : Nat) (aKs1 : List Int) (aM2_0 : Int) (aM2_1 : Int) (aM2_2 : List Int) (kr : Bool → Option ρ) : Option ρ := Z5 N aKs1 aM2_0 aM2_1 aM2_2 (fun aKs1 left5 aM2_0 aM2_1 aM2_2 => Z6 N aKs1 left5 aM2_0 aM2_1 aM2_2 kr)
def Z2 {ρ : Type} (N : Nat) (aKs1 : List Int) (aM2_0 : Int) (aM2_1 : Int) (aM2_2 : List Int) (kr : Bool → Option ρ) : Option ρ := Z3 N aKs1 aM2_0 aM2_1 aM2_2 (fun aKs1 aM2_0 aM2_1 aM2_2 => Z4 N aKs1 aM2_0 aM2_1 aM2_2 kr) kr
def Z0 {ρ : Type} (N : Nat) (aM0 : Int × Int × List Int) (aKs1 : List Int) (kr : Bool → Option ρ) : Option ρ := Z1 N aM0 aKs1 (fun aKs1 aM2_0 aM2_1 aM2_2 => Z2 N aKs1 aM2_0 aM2_1 aM2_2 kr)
def Spec : Prop := ∀  (aM0 : Int × Int × List Int) (aKs1 : List Int), Ty.bd (.pair (.int .i64) (.pair (.int .i64) (.sl 0 (.int .i64)))) aM0 → Ty.bd (.sl 0 (.int .i64)) aKs1 → ∃ N0, ∀ N, N0 ≤ N → Z0 N aM0 aKs1 (fun t4 => some ((), (t4, ()))) = some ((), ((g aM0 aKs1), ()))

theorem ok : Spec := fun m names hb hv => ⟨0, fun N hN => by
  by_cases h0 : (1048576 : Int) < names.length
  · simp only [Z1, Z3, Z5, Z7, Z9, Z11, Z13, Z15, Z17, Z19, Z21, Z23, Z25, Z27, Z29, Z31, Z32, Z30, Z28, Z26, Z24, Z22, Z20, Z18, Z16, Z14, Z12, Z10, Z8, Z6, Z4, Z2, Z0]
    rw [ct (dt h0)]
    rfl
  by_cases hl : laws_szMatrix.g m 1048576 < 0
  · simp only [Z1, Z3, Z5, Z7, Z9, Z11, Z13, Z15, Z17, Z19, Z21, Z23, Z25, Z27, Z29, Z31, Z32, Z30, Z28, Z26, Z24, Z22, Z20, Z18, Z16, Z14, Z12, Z10, Z8, Z6, Z4, Z2, Z0]
    rw [cf (df h0), ct (dt hl)]
    rfl
  obtain ⟨hP, hlen⟩ := szMat_P m hb.2.2.1 hl
  have hQ := toInt_P names (by omega)
  have he : impl_MutateAlong.g m names = spec_MutateAlong.g m names := by
    unfold impl_MutateAlong.g spec_MutateAlong.g
    rw [ok_alike, impl_mutG]
  have hs : (spec_MutateAlong.g m names).1.2.2.length < 4611686018427387904 := by
    unfold spec_MutateAlong.g
    split
    · have := along_len names m
      omega
    · decide
  obtain ⟨h1, h2⟩ := mat_mark _ hs
  have hm := mark_two m names (by omega) (by omega)
  simp only [Z1, Z3, Z5, Z7, Z9, Z11, Z13, Z15, Z17, Z19, Z21, Z23, Z25, Z27, Z29, Z31, Z32, Z30, Z28, Z26, Z24, Z22, Z20, Z18, Z16, Z14, Z12, Z10, Z8, Z6, Z4, Z2, Z0, lk_eq, laws_toMatrix.g, laws_toIntS.g, hP, hQ, he, laws_eqMatrix.g, laws_eqIntS.g, h1, df h0, df hl, df hm, df h2, dt (rfl : m = _), dt (rfl : names = _), dt (rfl : (spec_MutateAlong.g m names).1 = _), dt (rfl : (laws_markMatrix.g (spec_MutateAlong.g m names).1 1).2 = _), beq_self_eq_true]
  rfl⟩

end laws_FnExactMutateAlong
end
end Go.Fw
