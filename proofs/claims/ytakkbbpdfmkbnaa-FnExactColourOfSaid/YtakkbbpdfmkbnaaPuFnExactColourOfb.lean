/- The plain part: what the functions compute, in lists and numbers. Nothing is assumed. -/
import Derived.Test.YtakkbbpdfmkbnaaFwb
import Derived.Test.YtakkbbpdfmkbnaaPuFnExactColourOfa
set_option linter.unusedVariables false
set_option linter.unusedSimpArgs false
set_option maxRecDepth 100000
namespace Go.Fw
noncomputable section
namespace spec_l1Sizes
def g (m : Int × Int × List Int) : Bool := sizesK m
end spec_l1Sizes
namespace spec_l1Sizes
def Z1 {ρ : Type} (N : Nat) (m0 : Int × Int × List Int) (kn : Int → Int → List Int → Option ρ) : Option ρ :=
 kn m0.1 m0.2.1 m0.2.2
def Z3 {ρ : Type} (N : Nat) (m1_0 : Int) (m1_1 : Int) (m1_2 : List Int) (kn : Int → Int → List Int → Option ρ) (kr : Bool → Option ρ) : Option ρ :=
 cond (!(lk N ((spec_l1In.g m1_0 1 5))))
 (
  kr false)
 (
  cond (!(lk N ((spec_l1In.g m1_1 m1_0 8))))
  (
   kr false)
  (
   cond (lk N (!(decide ((m1_2.length : Int) = (w64 (m1_0 * m1_1))))))
   (
    kr false)
   (
    kn m1_0 m1_1 m1_2)))
def Z6 {ρ : Type} (N : Nat) (m1_0 : Int) (m1_1 : Int) (m1_2 : List Int) (kn : Int → Int → Int → List Int → Option ρ) : Option ρ :=
 kn 0 m1_0 m1_1 m1_2
def Z9 {ρ : Type} (N : Nat) (i3 : Int) (m1_0 : Int) (m1_1 : Int) (m1_2 : List Int) (kn : Int → Int → Int → List Int → Option ρ) (k0 : Int → Int → List Int → Option ρ) (kr : Bool → Option ρ) : Option ρ :=
 cond (lk N (decide (i3 < (m1_2.length : Int))))
 (
  cond (lk N (inB i3 m1_2.length)) (
   cond (!(lk N ((spec_l1In.g (m1_2.getD i3.toNat 0) (-99) 99))))
   (
    kr false)
   (
    kn (w64 (i3 + 1)) m1_0 m1_1 m1_2)) none)
 (
  k0 m1_0 m1_1 m1_2)
def Z8L {ρ : Type} (N : Nat) (k0 : Int → Int → List Int → Option ρ) (kr : Bool → Option ρ) : Nat → Int → Int → Int → List Int → Option ρ
  | 0, _, _, _, _ => none
  | M + 1, i3, m1_0, m1_1, m1_2 => Z9 N i3 m1_0 m1_1 m1_2 (fun i3 m1_0 m1_1 m1_2 => Z8L N k0 kr M i3 m1_0 m1_1 m1_2) k0 kr
def Z8 {ρ : Type} (N : Nat) (i3 : Int) (m1_0 : Int) (m1_1 : Int) (m1_2 : List Int) (k0 : Int → Int → List Int → Option ρ) (kr : Bool → Option ρ) : Option ρ := Z8L N k0 kr N i3 m1_0 m1_1 m1_2
def Z7 {ρ : Type} (N : Nat) (i3 : Int) (m1_0 : Int) (m1_1 : Int) (m1_2 : List Int) (kn : Int → Int → List Int → Option ρ) (kr : Bool → Option ρ) : Option ρ := Z8 N i3 m1_0 m1_1 m1_2 kn kr
def Z5 {ρ : Type} (N : Nat) (m1_0 : Int) (m1_1 : Int) (m1_2 : List Int) (kn : Int → Int → List Int → Option ρ) (kr : Bool → Option ρ) : Option ρ := Z6 N m1_0 m1_1 m1_2 (fun i3 m1_0 m1_1 m1_2 => Z7 N i3 m1_0 m1_1 m1_2 kn kr)
def Z12 {ρ : Type} (N : Nat) (m1_0 : Int) (m1_1 : Int) (m1_2 : List Int) (kn : Int → Int → Int → List Int → Option ρ) : Option ρ :=
 kn 0 m1_0 m1_1 m1_2
def Z16 {ρ : Type} (N : Nat) (i4 : Int) (m1_0 : Int) (m1_1 : Int) (m1_2 : List Int) (kn : Int → Int → Int → List Int → Option ρ) (k2 : Option ρ) : Option ρ :=
 cond (lk N (decide (i4 < m1_0)))
 (
  kn i4 m1_0 m1_1 m1_2)
 (
  k2)
def Z20 {ρ : Type} (N : Nat) (i4 : Int) (m1_0 : Int) (m1_1 : Int) (m1_2 : List Int) (kn : Int → Int → Int → Int → List Int → Option ρ) : Option ρ :=
 kn i4 0 m1_0 m1_1 m1_2
def Z23 {ρ : Type} (N : Nat) (i4 : Int) (j5 : Int) (m1_0 : Int) (m1_1 : Int) (m1_2 : List Int) (kn : Int → Int → Int → Int → List Int → Option ρ) (k4 : Int → Int → Int → List Int → Option ρ) (kr : Bool → Option ρ) : Option ρ :=
 cond (lk N (decide (j5 < m1_0)))
 (
  cond (lk N (spec_l1At.P (m1_0, (m1_1, m1_2)) i4 j5)) (
   cond (lk N (spec_l1At.P (m1_0, (m1_1, m1_2)) j5 i4)) (
    cond (lk N (!(((lk N (decide (0 < (spec_l1At.g (m1_0, (m1_1, m1_2)) i4 j5)))) == (lk N (decide ((spec_l1At.g (m1_0, (m1_1, m1_2)) j5 i4) < 0)))))))
    (
     kr false)
    (
     cond (lk N (!(((lk N (decide ((spec_l1At.g (m1_0, (m1_1, m1_2)) i4 j5) = 0))) == (lk N (decide ((spec_l1At.g (m1_0, (m1_1, m1_2)) j5 i4) = 0)))))))
     (
      kr false)
     (
      kn i4 (w64 (j5 + 1)) m1_0 m1_1 m1_2))) none) none)
 (
  k4 i4 m1_0 m1_1 m1_2)
def Z22L {ρ : Type} (N : Nat) (k4 : Int → Int → Int → List Int → Option ρ) (kr : Bool → Option ρ) : Nat → Int → Int → Int → Int → List Int → Option ρ
  | 0, _, _, _, _, _ => none
  | M + 1, i4, j5, m1_0, m1_1, m1_2 => Z23 N i4 j5 m1_0 m1_1 m1_2 (fun i4 j5 m1_0 m1_1 m1_2 => Z22L N k4 kr M i4 j5 m1_0 m1_1 m1_2) k4 kr
def Z22 {ρ : Type} (N : Nat) (i4 : Int) (j5 : Int) (m1_0 : Int) (m1_1 : Int) (m1_2 : List Int) (k4 : Int → Int → Int → List Int → Option ρ) (kr : Bool → Option ρ) : Option ρ := Z22L N k4 kr N i4 j5 m1_0 m1_1 m1_2
def Z21 {ρ : Type} (N : Nat) (i4 : Int) (j5 : Int) (m1_0 : Int) (m1_1 : Int) (m1_2 : List Int) (kn : Int → Int → Int → List Int → Option ρ) (kr : Bool → Option ρ) : Option ρ := Z22 N i4 j5 m1_0 m1_1 m1_2 kn kr
def Z19 {ρ : Type} (N : Nat) (i4 : Int) (m1_0 : Int) (m1_1 : Int) (m1_2 : List Int) (kn : Int → Int → Int → List Int → Option ρ) (kr : Bool → Option ρ) : Option ρ := Z20 N i4 m1_0 m1_1 m1_2 (fun i4 j5 m1_0 m1_1 m1_2 => Z21 N i4 j5 m1_0 m1_1 m1_2 kn kr)
def Z18 {ρ : Type} (N : Nat) (i4 : Int) (m1_0 : Int) (m1_1 : Int) (m1_2 : List Int) (kn : Int → Int → Int → List Int → Option ρ) (kr : Bool → Option ρ) : Option ρ := Z19 N i4 m1_0 m1_1 m1_2 kn kr
def Z24 {ρ : Type} (N : Nat) (i4 : Int) (m1_0 : Int) (m1_1 : Int) (m1_2 : List Int) (kn : Int → Int → Int → List Int → Option ρ) : Option ρ :=
 kn (w64 (i4 + 1)) m1_0 m1_1 m1_2
def Z17 {ρ : Type} (N : Nat) (i4 : Int) (m1_0 : Int) (m1_1 : Int) (m1_2 : List Int) (kn : Int → Int → Int → List Int → Option ρ) (kr : Bool → Option ρ) : Option ρ := Z18 N i4 m1_0 m1_1 m1_2 (fun i4 m1_0 m1_1 m1_2 => Z24 N i4 m1_0 m1_1 m1_2 kn) kr
def Z15 {ρ : Type} (N : Nat) (i4 : Int) (m1_0 : Int) (m1_1 : Int) (m1_2 : List Int) (kn : Int → Int → Int → List Int → Option ρ) (k2 : Option ρ) (kr : Bool → Option ρ) : Option ρ := Z16 N i4 m1_0 m1_1 m1_2 (fun i4 m1_0 m1_1 m1_2 => Z17 N i4 m1_0 m1_1 m1_2 kn kr) k2
def Z14L {ρ : Type} (N : Nat) (k2 : Option ρ) (kr : Bool → Option ρ) : Nat → Int → Int → Int → List Int → Option ρ
  | 0, _, _, _, _ => none
  | M + 1, i4, m1_0, m1_1, m1_2 => Z15 N i4 m1_0 m1_1 m1_2 (fun i4 m1_0 m1_1 m1_2 => Z14L N k2 kr M i4 m1_0 m1_1 m1_2) k2 kr
def Z14 {ρ : Type} (N : Nat) (i4 : Int) (m1_0 : Int) (m1_1 : Int) (m1_2 : List Int) (k2 : Option ρ) (kr : Bool → Option ρ) : Option ρ := Z14L N k2 kr N i4 m1_0 m1_1 m1_2
def Z13 {ρ : Type} (N : Nat) (i4 : Int) (m1_0 : Int) (m1_1 : Int) (m1_2 : List Int) (kn : Option ρ) (kr : Bool → Option ρ) : Option ρ := Z14 N i4 m1_0 m1_1 m1_2 kn kr
def Z11 {ρ : Type} (N : Nat) (m1_0 : Int) (m1_1 : Int) (m1_2 : List Int) (kn : Option ρ) (kr : Bool → Option ρ) : Option ρ := Z12 N m1_0 m1_1 m1_2 (fun i4 m1_0 m1_1 m1_2 => Z13 N i4 m1_0 m1_1 m1_2 kn kr)
def Z25 {ρ : Type} (N : Nat)  (kr : Bool → Option ρ) : Option ρ :=
 kr true
def Z10 {ρ : Type} (N : Nat) (m1_0 : Int) (m1_1 : Int) (m1_2 : List Int) (kr : Bool → Option ρ) : Option ρ := Z11 N m1_0 m1_1 m1_2 (Z25 N kr) kr
def Z4 {ρ : Type} (N : Nat) (m1_0 : Int) (m1_1 : Int) (m1_2 : List Int) (kr : Bool → Option ρ) : Option ρ := Z5 N m1_0 m1_1 m1_2 (fun m1_0 m1_1 m1_2 => Z10 N m1_0 m1_1 m1_2 kr) kr
def Z2 {ρ : Type} (N : Nat) (m1_0 : Int) (m1_1 : Int) (m1_2 : List Int) (kr : Bool → Option ρ) : Option ρ := Z3 N m1_0 m1_1 m1_2 (fun m1_0 m1_1 m1_2 => Z4 N m1_0 m1_1 m1_2 kr) kr
def Z0 {ρ : Type} (N : Nat) (m0 : Int × Int × List Int) (kr : Bool → Option ρ) : Option ρ := Z1 N m0 (fun m1_0 m1_1 m1_2 => Z2 N m1_0 m1_1 m1_2 kr)
def Spec : Prop := ∀  (m0 : Int × Int × List Int), Ty.bd (.pair (.int .i64) (.pair (.int .i64) (.sl 0 (.int .i64)))) m0 → ∃ N0, ∀ N, N0 ≤ N → Z0 N m0 (fun t2 => some ((), (t2, ()))) = some ((), ((g m0), ()))

section
variable {ρ : Type} {N : Nat} {m : Int × Int × List Int}
theorem at_g (hd : 0 ≤ m.1) (a b : Nat) : spec_l1At.g (m.1, (m.2.1, m.2.2)) (a : Int) (b : Int) = ent m a b := atK_nat hd a b
theorem at_p (hd : dimK m = true) {a b : Nat} (ha : a < m.1.toNat) (hb : b < m.1.toNat) : spec_l1At.P (m.1, (m.2.1, m.2.2)) (a : Int) (b : Int) = true := by
  obtain ⟨n, r, hn, hr, hn1, hn5, hnr, hr8, hl⟩ := dim_nat hd
  exact at_ok hd (by omega) hb
theorem loop1 (hl : m.2.2.length ≤ maxLen) (k0 : Int → Int → List Int → Option ρ) (kr : Bool → Option ρ) : ∀ (M j : Nat), j ≤ m.2.2.length → m.2.2.length - j < M →
    Z8L N k0 kr M (j : Int) m.1 m.2.1 m.2.2 = cond (entK (m.2.2.drop j)) (k0 m.1 m.2.1 m.2.2) (kr false) := by
  intro M
  induction M with
  | zero => intro j _ h; omega
  | succ M ih =>
    intro j hj hM
    simp only [Z8L, Z9]
    by_cases h : j < m.2.2.length
    · rw [ct (dt (by omega)), ct (inB_nat h), Int.toNat_natCast, w64_succ (by omega), drop_getD 0 h, entK, List.all_cons, ih (j + 1) h (by omega)]
      simp only [lk_eq, spec_l1In.g]
      cases inK (m.2.2.getD j 0) (-99) 99 <;> rfl
    · rw [cf (df (by omega)), List.drop_of_length_le (by omega)]; rfl
theorem loop3 (hd : dimK m = true) (k4 : Int → Int → Int → List Int → Option ρ) (kr : Bool → Option ρ) {i : Nat} (hi : i < m.1.toNat) : ∀ (M j : Nat), j ≤ m.1.toNat → m.1.toNat - j < M →
    Z22L N k4 kr M (i : Int) (j : Int) m.1 m.2.1 m.2.2 = cond (((List.range m.1.toNat).drop j).all fun j => signK (ent m i j) (ent m j i)) (k4 (i : Int) m.1 m.2.1 m.2.2) (kr false) := by
  obtain ⟨n, r, hn, hr, hn1, hn5, hnr, hr8, hl⟩ := dim_nat hd
  intro M
  induction M with
  | zero => intro j _ h; omega
  | succ M ih =>
    intro j hj hM
    simp only [Z22L, Z23]
    by_cases h : j < m.1.toNat
    · rw [ct (dt (by omega)), ct (at_p hd hi h), ct (at_p hd h hi), range_drop h, List.all_cons, w64_succ (by rw [maxLen_val]; omega), ih (j + 1) h (by omega)]
      have hA : spec_l1At.g (m.1, (m.2.1, m.2.2)) (i : Int) (j : Int) = ent m i j := at_g (by omega) _ _
      have hB : spec_l1At.g (m.1, (m.2.1, m.2.2)) (j : Int) (i : Int) = ent m j i := at_g (by omega) _ _
      simp only [lk_eq, hA, hB, signK]
      cases (decide (0 < ent m i j) == decide (ent m j i < 0)) <;> cases (decide (ent m i j = 0) == decide (ent m j i = 0)) <;> rfl
    · rw [cf (df (by omega)), List.drop_of_length_le (by simp; omega)]; rfl
theorem loop2 (hN : 10 ≤ N) (hd : dimK m = true) (k2 : Option ρ) (kr : Bool → Option ρ) : ∀ (M i : Nat), i ≤ m.1.toNat → m.1.toNat - i < M →
    Z14L N k2 kr M (i : Int) m.1 m.2.1 m.2.2 = cond (((List.range m.1.toNat).drop i).all fun i => (List.range m.1.toNat).all fun j => signK (ent m i j) (ent m j i)) k2 (kr false) := by
  obtain ⟨n, r, hn, hr, hn1, hn5, hnr, hr8, hl⟩ := dim_nat hd
  intro M
  induction M with
  | zero => intro i _ h; omega
  | succ M ih =>
    intro i hi hM
    simp only [Z14L, Z15, Z16]
    by_cases h : i < m.1.toNat
    · rw [ct (dt (by omega))]
      simp only [Z17, Z18, Z19, Z20, Z21, Z22]
      have h3 := loop3 (ρ := ρ) (N := N) hd (fun a b c d => Z24 N a b c d (fun a b c d => Z14L N k2 kr M a b c d)) kr h N 0 (by omega) (by omega)
      rw [show ((0 : Nat) : Int) = 0 from rfl] at h3
      rw [h3, range_drop h, List.all_cons, List.drop_zero]
      simp only [Z24]
      rw [w64_succ (by rw [maxLen_val]; omega), ih (i + 1) h (by omega)]
      cases ((List.range m.1.toNat).all fun j => signK (ent m i j) (ent m j i)) <;> rfl
    · rw [cf (df (by omega)), List.drop_of_length_le (by simp; omega)]; rfl
end
theorem ok : Spec := fun m hb => ⟨m.2.2.length + 10, fun N hN => by
  have hlen : m.2.2.length ≤ maxLen := hb.2.2.1
  simp only [Z0, Z1, Z2, Z3, spec_l1In.g, g, sizesK, shapedK]
  have main : dimK m = true → Z4 N m.1 m.2.1 m.2.2 (fun t => some ((), (t, ()))) = some ((), ((entK m.2.2 && (List.range m.1.toNat).all fun i => (List.range m.1.toNat).all fun j => signK (ent m i j) (ent m j i)), ())) := by
    intro hd
    obtain ⟨n, r, hn, hr, hn1, hn5, hnr, hr8, hl⟩ := dim_nat hd
    simp only [Z4, Z5, Z6, Z7, Z8]
    have h1 := loop1 (N := N) hlen (fun a b c => Z10 N a b c (fun t => some ((), (t, ())))) (fun t => some ((), (t, ()))) N 0 (by omega) (by omega)
    rw [show ((0 : Nat) : Int) = 0 from rfl] at h1
    rw [h1, List.drop_zero]
    simp only [Z10, Z11, Z12, Z13, Z14, Z25]
    have h2 := loop2 (N := N) (by omega) hd (some ((), (true, ()))) (fun t => some ((), (t, ()))) N 0 (by omega) (by omega)
    rw [show ((0 : Nat) : Int) = 0 from rfl] at h2
    rw [h2, List.drop_zero]
    cases entK m.2.2 <;> cases ((List.range m.1.toNat).all fun i => (List.range m.1.toNat).all fun j => signK (ent m i j) (ent m j i)) <;> rfl
  cases h1 : inK m.1 1 5
  · rw [dimK, h1]; simp [lk_eq]
  cases h2 : inK m.2.1 m.1 8
  · rw [dimK, h1, h2]; simp [lk_eq]
  have e1 := inK_iff.1 h1
  have e2 := inK_iff.1 h2
  have e3 : 0 ≤ m.1 * m.2.1 := Int.mul_nonneg (by omega) (by omega)
  have e4 : m.1 * m.2.1 ≤ 5 * 8 := Int.mul_le_mul (by omega) (by omega) (by omega) (by omega)
  rw [w64_id (by omega) (by omega)]
  by_cases h3 : (m.2.2.length : Int) = m.1 * m.2.1
  · have hd : dimK m = true := by rw [dimK, h1, h2, dt h3]; rfl
    rw [cf' (by simp [lk_eq]), cf' (by simp [lk_eq]), cf (nf h3), main hd, hd]
    rfl
  · have hd : dimK m = false := by rw [dimK, h1, h2, df h3]; rfl
    rw [cf' (by simp [lk_eq]), cf' (by simp [lk_eq]), ct (nt h3), hd]
    rfl⟩

end spec_l1Sizes
end
end Go.Fw
set_option linter.unusedVariables false
set_option linter.unusedSimpArgs false
set_option maxRecDepth 100000
namespace Go.Fw
noncomputable section
namespace spec_MatrixOk
def g (m : Int × Int × List Int) : Bool := sizesK m && !decide (facK m = [])
end spec_MatrixOk
namespace spec_MatrixOk
def Z0 {ρ : Type} (N : Nat) (m0 : Int × Int × List Int) (kr : Bool → Option ρ) : Option ρ :=
 cond (!(lk N ((spec_l1Sizes.g m0))))
 (
  kr false)
 (
  cond (lk N (spec_l1Factors.P m0)) (
   kr (lk N ((spec_l1Factors.g m0).2))) none)
def Spec : Prop := ∀  (m0 : Int × Int × List Int), Ty.bd (.pair (.int .i64) (.pair (.int .i64) (.sl 0 (.int .i64)))) m0 → ∃ N0, ∀ N, N0 ≤ N → Z0 N m0 (fun t2 => some ((), (t2, ()))) = some ((), ((g m0), ()))

theorem ok : Spec := fun m hb => ⟨0, fun N hN => by
  simp only [Z0, lk_eq, g, spec_l1Sizes.g, spec_l1Factors.P, spec_l1Factors.g]
  cases sizesK m <;> rfl⟩

end spec_MatrixOk
end
end Go.Fw
set_option linter.unusedVariables false
set_option linter.unusedSimpArgs false
set_option maxRecDepth 100000
namespace Go.Fw
noncomputable section
namespace spec_l1Ints
def P (a : List Int) : Bool := decide (a.length < 1099511627776)
abbrev g (a : List Int) : List Int := a
end spec_l1Ints
namespace spec_l1Ints
def Z0 {ρ : Type} (N : Nat) (l0 : List Int) (kr : List Int → Option ρ) : Option ρ :=
 cond (lk N (Nat.blt (([] : List Int).length + l0.length) 1099511627776)) (
  kr (([] : List Int) ++ l0)) none
def Spec : Prop := ∀  (l0 : List Int), Ty.bd (.sl 0 (.int .i64)) l0 → P l0 = true → ∃ N0, ∀ N, N0 ≤ N → Z0 N l0 (fun t2 => some ((), (t2, ()))) = some ((), ((g l0), ()))

theorem ok : Spec := fun a hb hp => ⟨0, fun N hN => by
  have hl : a.length < 1099511627776 := by simpa [P] using hp
  have hc : Nat.blt (([] : List Int).length + a.length) 1099511627776 = true := by simpa using hl
  simp only [Z0, lk_eq, g, hc, cond_true, List.nil_append]⟩

end spec_l1Ints
end
end Go.Fw
set_option linter.unusedVariables false
set_option linter.unusedSimpArgs false
set_option maxRecDepth 100000
namespace Go.Fw
noncomputable section
namespace spec_l1CopyMatrix
def P (m : Int × Int × List Int) : Bool := spec_l1Ints.P m.2.2
abbrev g (m : Int × Int × List Int) : Int × Int × List Int := m
end spec_l1CopyMatrix
namespace spec_l1CopyMatrix
def Z0 {ρ : Type} (N : Nat) (m0 : Int × Int × List Int) (kr : List Int → Int → Int → Option ρ) : Option ρ :=
 cond (lk N (spec_l1Ints.P m0.2.2)) (
  kr (spec_l1Ints.g m0.2.2) m0.1 m0.2.1) none
def Spec : Prop := ∀  (m0 : Int × Int × List Int), Ty.bd (.pair (.int .i64) (.pair (.int .i64) (.sl 0 (.int .i64)))) m0 → P m0 = true → ∃ N0, ∀ N, N0 ≤ N → Z0 N m0 (fun t2_2 t2_0 t2_1 => some ((), ((t2_0, (t2_1, t2_2)), ()))) = some ((), ((g m0), ()))

theorem ok : Spec := fun m hb hp => ⟨0, fun N hN => by
  simp only [Z0]
  exact ct (show spec_l1Ints.P m.2.2 = true from hp)⟩

end spec_l1CopyMatrix
end
end Go.Fw
set_option linter.unusedVariables false
set_option linter.unusedSimpArgs false
set_option maxRecDepth 100000
namespace Go.Fw
noncomputable section
namespace spec_l1Mutate
def P (m : Int × Int × List Int) (k : Int) : Bool := shapedK m && (decide (0 ≤ k) && decide (k < m.1))
def g (m : Int × Int × List Int) (k : Int) : Int × Int × List Int := mutK m k.toNat
end spec_l1Mutate
namespace spec_l1Mutate
def Z1 {ρ : Type} (N : Nat) (m0 : Int × Int × List Int) (k1 : Int) (kn : Int → Int → Int → List Int → Int → Int → Option ρ) : Option ρ :=
 kn k1 m0.1 m0.2.1 m0.2.2 0 0
def Z3 {ρ : Type} (N : Nat) (k1 : Int) (m2_0 : Int) (m2_1 : Int) (m2_2 : List Int) (t4_0 : Int) (t4_1 : Int) (kn : List Int → Int → Int → Int → List Int → Int → Int → Int → Int → Option ρ) : Option ρ :=
 cond (lk N (spec_l1CopyMatrix.P (m2_0, (m2_1, m2_2)))) (
  kn (spec_l1CopyMatrix.g (m2_0, (m2_1, m2_2))).2.2 k1 m2_0 m2_1 m2_2 t4_0 t4_1 (spec_l1CopyMatrix.g (m2_0, (m2_1, m2_2))).1 (spec_l1CopyMatrix.g (m2_0, (m2_1, m2_2))).2.1) none
def Z6 {ρ : Type} (N : Nat) (out5_2 : List Int) (k1 : Int) (m2_0 : Int) (m2_1 : Int) (m2_2 : List Int) (t4_0 : Int) (t4_1 : Int) (out5_0 : Int) (out5_1 : Int) (kn : List Int → Int → Int → Int → Int → List Int → Int → Int → Int → Int → Option ρ) : Option ρ :=
 kn out5_2 k1 0 m2_0 m2_1 m2_2 t4_0 t4_1 out5_0 out5_1
def Z10 {ρ : Type} (N : Nat) (out5_2 : List Int) (k1 : Int) (i6 : Int) (m2_0 : Int) (m2_1 : Int) (m2_2 : List Int) (t4_0 : Int) (t4_1 : Int) (out5_0 : Int) (out5_1 : Int) (kn : List Int → Int → Int → Int → Int → List Int → Int → Int → Int → Int → Option ρ) (k0 : List Int → Int → Int → Int → Int → Option ρ) : Option ρ :=
 cond (lk N (decide (i6 < m2_1)))
 (
  kn out5_2 k1 i6 m2_0 m2_1 m2_2 t4_0 t4_1 out5_0 out5_1)
 (
  k0 out5_2 t4_0 t4_1 out5_0 out5_1)
def Z14 {ρ : Type} (N : Nat) (out5_2 : List Int) (k1 : Int) (i6 : Int) (m2_0 : Int) (m2_1 : Int) (m2_2 : List Int) (t4_0 : Int) (t4_1 : Int) (out5_0 : Int) (out5_1 : Int) (kn : List Int → Int → Int → Int → Int → Int → List Int → Int → Int → Int → Int → Option ρ) : Option ρ :=
 kn out5_2 k1 i6 0 m2_0 m2_1 m2_2 t4_0 t4_1 out5_0 out5_1
def Z18 {ρ : Type} (N : Nat) (out5_2 : List Int) (k1 : Int) (i6 : Int) (j7 : Int) (m2_0 : Int) (m2_1 : Int) (m2_2 : List Int) (t4_0 : Int) (t4_1 : Int) (out5_0 : Int) (out5_1 : Int) (kn : List Int → Int → Int → Int → Int → Int → List Int → Int → Int → Int → Int → Option ρ) (k2 : List Int → Int → Int → Int → Int → List Int → Int → Int → Int → Int → Option ρ) : Option ρ :=
 cond (lk N (decide (j7 < m2_0)))
 (
  kn out5_2 k1 i6 j7 m2_0 m2_1 m2_2 t4_0 t4_1 out5_0 out5_1)
 (
  k2 out5_2 k1 i6 m2_0 m2_1 m2_2 t4_0 t4_1 out5_0 out5_1)
def Z22 {ρ : Type} (N : Nat) (out5_2 : List Int) (k1 : Int) (i6 : Int) (j7 : Int) (m2_0 : Int) (m2_1 : Int) (m2_2 : List Int) (t4_0 : Int) (t4_1 : Int) (out5_0 : Int) (out5_1 : Int) (kn : List Int → Int → Int → Int → Int → Int → Int → List Int → Int → Int → Int → Int → Option ρ) : Option ρ :=
 cond (lk N (spec_l1At.P (m2_0, (m2_1, m2_2)) i6 k1)) (
  kn out5_2 k1 i6 j7 (spec_l1At.g (m2_0, (m2_1, m2_2)) i6 k1) m2_0 m2_1 m2_2 t4_0 t4_1 out5_0 out5_1) none
def Z24 {ρ : Type} (N : Nat) (out5_2 : List Int) (k1 : Int) (i6 : Int) (j7 : Int) (a8 : Int) (m2_0 : Int) (m2_1 : Int) (m2_2 : List Int) (t4_0 : Int) (t4_1 : Int) (out5_0 : Int) (out5_1 : Int) (kn : List Int → Int → Int → Int → Int → Int → Int → Int → List Int → Int → Int → Int → Int → Option ρ) : Option ρ :=
 cond (lk N (spec_l1At.P (m2_0, (m2_1, m2_2)) k1 j7)) (
  kn out5_2 k1 i6 j7 a8 (spec_l1At.g (m2_0, (m2_1, m2_2)) k1 j7) m2_0 m2_1 m2_2 t4_0 t4_1 out5_0 out5_1) none
def Z27 {ρ : Type} (N : Nat) (out5_2 : List Int) (k1 : Int) (i6 : Int) (j7 : Int) (a8 : Int) (b9 : Int) (m2_0 : Int) (m2_1 : Int) (m2_2 : List Int) (t4_0 : Int) (t4_1 : Int) (out5_0 : Int) (out5_1 : Int) (kn : List Int → Int → Int → Int → Int → Int → Bool → Int → Int → List Int → Int → Int → Int → Int → Option ρ) : Option ρ :=
 cond (lk N (decide (i6 = k1)))
 (
  kn out5_2 k1 i6 j7 a8 b9 true m2_0 m2_1 m2_2 t4_0 t4_1 out5_0 out5_1)
 (
  kn out5_2 k1 i6 j7 a8 b9 (lk N (decide (j7 = k1))) m2_0 m2_1 m2_2 t4_0 t4_1 out5_0 out5_1)
def Z28 {ρ : Type} (N : Nat) (out5_2 : List Int) (k1 : Int) (i6 : Int) (j7 : Int) (a8 : Int) (b9 : Int) (t32 : Bool) (m2_0 : Int) (m2_1 : Int) (m2_2 : List Int) (t4_0 : Int) (t4_1 : Int) (out5_0 : Int) (out5_1 : Int) (kn : List Int → Int → Int → Int → Int → Int → List Int → Int → Int → Int → Int → Option ρ) : Option ρ :=
 cond (t32)
 (
  cond (lk N (spec_l1At.P (m2_0, (m2_1, m2_2)) i6 j7)) (
   cond (lk N (inB (w64 ((w64 (i6 * m2_0)) + j7)) out5_2.length)) (
    kn (out5_2.set (w64 ((w64 (i6 * m2_0)) + j7)).toNat (w64 (0 - (spec_l1At.g (m2_0, (m2_1, m2_2)) i6 j7)))) k1 i6 j7 m2_0 m2_1 m2_2 t4_0 t4_1 out5_0 out5_1) none) none)
 (
  cond (lk N (decide (0 < a8)))
  (
   cond (lk N (decide (0 < b9)))
   (
    cond (lk N (spec_l1At.P (m2_0, (m2_1, m2_2)) i6 j7)) (
     cond (lk N (inB (w64 ((w64 (i6 * m2_0)) + j7)) out5_2.length)) (
      kn (out5_2.set (w64 ((w64 (i6 * m2_0)) + j7)).toNat (w64 ((spec_l1At.g (m2_0, (m2_1, m2_2)) i6 j7) + (w64 (a8 * b9))))) k1 i6 j7 m2_0 m2_1 m2_2 t4_0 t4_1 out5_0 out5_1) none) none)
   (
    cond (lk N (decide (a8 < 0)))
    (
     cond (lk N (decide (b9 < 0)))
     (
      cond (lk N (spec_l1At.P (m2_0, (m2_1, m2_2)) i6 j7)) (
       cond (lk N (inB (w64 ((w64 (i6 * m2_0)) + j7)) out5_2.length)) (
        kn (out5_2.set (w64 ((w64 (i6 * m2_0)) + j7)).toNat (w64 ((spec_l1At.g (m2_0, (m2_1, m2_2)) i6 j7) - (w64 (a8 * b9))))) k1 i6 j7 m2_0 m2_1 m2_2 t4_0 t4_1 out5_0 out5_1) none) none)
     (
      kn out5_2 k1 i6 j7 m2_0 m2_1 m2_2 t4_0 t4_1 out5_0 out5_1))
    (
     kn out5_2 k1 i6 j7 m2_0 m2_1 m2_2 t4_0 t4_1 out5_0 out5_1)))
  (
   cond (lk N (decide (a8 < 0)))
   (
    cond (lk N (decide (b9 < 0)))
    (
     cond (lk N (spec_l1At.P (m2_0, (m2_1, m2_2)) i6 j7)) (
      cond (lk N (inB (w64 ((w64 (i6 * m2_0)) + j7)) out5_2.length)) (
       kn (out5_2.set (w64 ((w64 (i6 * m2_0)) + j7)).toNat (w64 ((spec_l1At.g (m2_0, (m2_1, m2_2)) i6 j7) - (w64 (a8 * b9))))) k1 i6 j7 m2_0 m2_1 m2_2 t4_0 t4_1 out5_0 out5_1) none) none)
    (
     kn out5_2 k1 i6 j7 m2_0 m2_1 m2_2 t4_0 t4_1 out5_0 out5_1))
   (
    kn out5_2 k1 i6 j7 m2_0 m2_1 m2_2 t4_0 t4_1 out5_0 out5_1)))
def Z26 {ρ : Type} (N : Nat) (out5_2 : List Int) (k1 : Int) (i6 : Int) (j7 : Int) (a8 : Int) (b9 : Int) (m2_0 : Int) (m2_1 : Int) (m2_2 : List Int) (t4_0 : Int) (t4_1 : Int) (out5_0 : Int) (out5_1 : Int) (kn : List Int → Int → Int → Int → Int → Int → List Int → Int → Int → Int → Int → Option ρ) : Option ρ := Z27 N out5_2 k1 i6 j7 a8 b9 m2_0 m2_1 m2_2 t4_0 t4_1 out5_0 out5_1 (fun out5_2 k1 i6 j7 a8 b9 t32 m2_0 m2_1 m2_2 t4_0 t4_1 out5_0 out5_1 => Z28 N out5_2 k1 i6 j7 a8 b9 t32 m2_0 m2_1 m2_2 t4_0 t4_1 out5_0 out5_1 kn)
def Z25 {ρ : Type} (N : Nat) (out5_2 : List Int) (k1 : Int) (i6 : Int) (j7 : Int) (a8 : Int) (b9 : Int) (m2_0 : Int) (m2_1 : Int) (m2_2 : List Int) (t4_0 : Int) (t4_1 : Int) (out5_0 : Int) (out5_1 : Int) (kn : List Int → Int → Int → Int → Int → Int → List Int → Int → Int → Int → Int → Option ρ) : Option ρ := Z26 N out5_2 k1 i6 j7 a8 b9 m2_0 m2_1 m2_2 t4_0 t4_1 out5_0 out5_1 kn
def Z23 {ρ : Type} (N : Nat) (out5_2 : List Int) (k1 : Int) (i6 : Int) (j7 : Int) (a8 : Int) (m2_0 : Int) (m2_1 : Int) (m2_2 : List Int) (t4_0 : Int) (t4_1 : Int) (out5_0 : Int) (out5_1 : Int) (kn : List Int → Int → Int → Int → Int → Int → List Int → Int → Int → Int → Int → Option ρ) : Option ρ := Z24 N out5_2 k1 i6 j7 a8 m2_0 m2_1 m2_2 t4_0 t4_1 out5_0 out5_1 (fun out5_2 k1 i6 j7 a8 b9 m2_0 m2_1 m2_2 t4_0 t4_1 out5_0 out5_1 => Z25 N out5_2 k1 i6 j7 a8 b9 m2_0 m2_1 m2_2 t4_0 t4_1 out5_0 out5_1 kn)
def Z21 {ρ : Type} (N : Nat) (out5_2 : List Int) (k1 : Int) (i6 : Int) (j7 : Int) (m2_0 : Int) (m2_1 : Int) (m2_2 : List Int) (t4_0 : Int) (t4_1 : Int) (out5_0 : Int) (out5_1 : Int) (kn : List Int → Int → Int → Int → Int → Int → List Int → Int → Int → Int → Int → Option ρ) : Option ρ := Z22 N out5_2 k1 i6 j7 m2_0 m2_1 m2_2 t4_0 t4_1 out5_0 out5_1 (fun out5_2 k1 i6 j7 a8 m2_0 m2_1 m2_2 t4_0 t4_1 out5_0 out5_1 => Z23 N out5_2 k1 i6 j7 a8 m2_0 m2_1 m2_2 t4_0 t4_1 out5_0 out5_1 kn)
def Z20 {ρ : Type} (N : Nat) (out5_2 : List Int) (k1 : Int) (i6 : Int) (j7 : Int) (m2_0 : Int) (m2_1 : Int) (m2_2 : List Int) (t4_0 : Int) (t4_1 : Int) (out5_0 : Int) (out5_1 : Int) (kn : List Int → Int → Int → Int → Int → Int → List Int → Int → Int → Int → Int → Option ρ) : Option ρ := Z21 N out5_2 k1 i6 j7 m2_0 m2_1 m2_2 t4_0 t4_1 out5_0 out5_1 kn
def Z29 {ρ : Type} (N : Nat) (out5_2 : List Int) (k1 : Int) (i6 : Int) (j7 : Int) (m2_0 : Int) (m2_1 : Int) (m2_2 : List Int) (t4_0 : Int) (t4_1 : Int) (out5_0 : Int) (out5_1 : Int) (kn : List Int → Int → Int → Int → Int → Int → List Int → Int → Int → Int → Int → Option ρ) : Option ρ :=
 kn out5_2 k1 i6 (w64 (j7 + 1)) m2_0 m2_1 m2_2 t4_0 t4_1 out5_0 out5_1
def Z19 {ρ : Type} (N : Nat) (out5_2 : List Int) (k1 : Int) (i6 : Int) (j7 : Int) (m2_0 : Int) (m2_1 : Int) (m2_2 : List Int) (t4_0 : Int) (t4_1 : Int) (out5_0 : Int) (out5_1 : Int) (kn : List Int → Int → Int → Int → Int → Int → List Int → Int → Int → Int → Int → Option ρ) : Option ρ := Z20 N out5_2 k1 i6 j7 m2_0 m2_1 m2_2 t4_0 t4_1 out5_0 out5_1 (fun out5_2 k1 i6 j7 m2_0 m2_1 m2_2 t4_0 t4_1 out5_0 out5_1 => Z29 N out5_2 k1 i6 j7 m2_0 m2_1 m2_2 t4_0 t4_1 out5_0 out5_1 kn)
def Z17 {ρ : Type} (N : Nat) (out5_2 : List Int) (k1 : Int) (i6 : Int) (j7 : Int) (m2_0 : Int) (m2_1 : Int) (m2_2 : List Int) (t4_0 : Int) (t4_1 : Int) (out5_0 : Int) (out5_1 : Int) (kn : List Int → Int → Int → Int → Int → Int → List Int → Int → Int → Int → Int → Option ρ) (k2 : List Int → Int → Int → Int → Int → List Int → Int → Int → Int → Int → Option ρ) : Option ρ := Z18 N out5_2 k1 i6 j7 m2_0 m2_1 m2_2 t4_0 t4_1 out5_0 out5_1 (fun out5_2 k1 i6 j7 m2_0 m2_1 m2_2 t4_0 t4_1 out5_0 out5_1 => Z19 N out5_2 k1 i6 j7 m2_0 m2_1 m2_2 t4_0 t4_1 out5_0 out5_1 kn) k2
def Z16L {ρ : Type} (N : Nat) (k2 : List Int → Int → Int → Int → Int → List Int → Int → Int → Int → Int → Option ρ) : Nat → List Int → Int → Int → Int → Int → Int → List Int → Int → Int → Int → Int → Option ρ
  | 0, _, _, _, _, _, _, _, _, _, _, _ => none
  | M + 1, out5_2, k1, i6, j7, m2_0, m2_1, m2_2, t4_0, t4_1, out5_0, out5_1 => Z17 N out5_2 k1 i6 j7 m2_0 m2_1 m2_2 t4_0 t4_1 out5_0 out5_1 (fun out5_2 k1 i6 j7 m2_0 m2_1 m2_2 t4_0 t4_1 out5_0 out5_1 => Z16L N k2 M out5_2 k1 i6 j7 m2_0 m2_1 m2_2 t4_0 t4_1 out5_0 out5_1) k2
def Z16 {ρ : Type} (N : Nat) (out5_2 : List Int) (k1 : Int) (i6 : Int) (j7 : Int) (m2_0 : Int) (m2_1 : Int) (m2_2 : List Int) (t4_0 : Int) (t4_1 : Int) (out5_0 : Int) (out5_1 : Int) (k2 : List Int → Int → Int → Int → Int → List Int → Int → Int → Int → Int → Option ρ) : Option ρ := Z16L N k2 N out5_2 k1 i6 j7 m2_0 m2_1 m2_2 t4_0 t4_1 out5_0 out5_1
def Z15 {ρ : Type} (N : Nat) (out5_2 : List Int) (k1 : Int) (i6 : Int) (j7 : Int) (m2_0 : Int) (m2_1 : Int) (m2_2 : List Int) (t4_0 : Int) (t4_1 : Int) (out5_0 : Int) (out5_1 : Int) (kn : List Int → Int → Int → Int → Int → List Int → Int → Int → Int → Int → Option ρ) : Option ρ := Z16 N out5_2 k1 i6 j7 m2_0 m2_1 m2_2 t4_0 t4_1 out5_0 out5_1 kn
def Z13 {ρ : Type} (N : Nat) (out5_2 : List Int) (k1 : Int) (i6 : Int) (m2_0 : Int) (m2_1 : Int) (m2_2 : List Int) (t4_0 : Int) (t4_1 : Int) (out5_0 : Int) (out5_1 : Int) (kn : List Int → Int → Int → Int → Int → List Int → Int → Int → Int → Int → Option ρ) : Option ρ := Z14 N out5_2 k1 i6 m2_0 m2_1 m2_2 t4_0 t4_1 out5_0 out5_1 (fun out5_2 k1 i6 j7 m2_0 m2_1 m2_2 t4_0 t4_1 out5_0 out5_1 => Z15 N out5_2 k1 i6 j7 m2_0 m2_1 m2_2 t4_0 t4_1 out5_0 out5_1 kn)
def Z12 {ρ : Type} (N : Nat) (out5_2 : List Int) (k1 : Int) (i6 : Int) (m2_0 : Int) (m2_1 : Int) (m2_2 : List Int) (t4_0 : Int) (t4_1 : Int) (out5_0 : Int) (out5_1 : Int) (kn : List Int → Int → Int → Int → Int → List Int → Int → Int → Int → Int → Option ρ) : Option ρ := Z13 N out5_2 k1 i6 m2_0 m2_1 m2_2 t4_0 t4_1 out5_0 out5_1 kn
def Z30 {ρ : Type} (N : Nat) (out5_2 : List Int) (k1 : Int) (i6 : Int) (m2_0 : Int) (m2_1 : Int) (m2_2 : List Int) (t4_0 : Int) (t4_1 : Int) (out5_0 : Int) (out5_1 : Int) (kn : List Int → Int → Int → Int → Int → List Int → Int → Int → Int → Int → Option ρ) : Option ρ :=
 kn out5_2 k1 (w64 (i6 + 1)) m2_0 m2_1 m2_2 t4_0 t4_1 out5_0 out5_1
def Z11 {ρ : Type} (N : Nat) (out5_2 : List Int) (k1 : Int) (i6 : Int) (m2_0 : Int) (m2_1 : Int) (m2_2 : List Int) (t4_0 : Int) (t4_1 : Int) (out5_0 : Int) (out5_1 : Int) (kn : List Int → Int → Int → Int → Int → List Int → Int → Int → Int → Int → Option ρ) : Option ρ := Z12 N out5_2 k1 i6 m2_0 m2_1 m2_2 t4_0 t4_1 out5_0 out5_1 (fun out5_2 k1 i6 m2_0 m2_1 m2_2 t4_0 t4_1 out5_0 out5_1 => Z30 N out5_2 k1 i6 m2_0 m2_1 m2_2 t4_0 t4_1 out5_0 out5_1 kn)
def Z9 {ρ : Type} (N : Nat) (out5_2 : List Int) (k1 : Int) (i6 : Int) (m2_0 : Int) (m2_1 : Int) (m2_2 : List Int) (t4_0 : Int) (t4_1 : Int) (out5_0 : Int) (out5_1 : Int) (kn : List Int → Int → Int → Int → Int → List Int → Int → Int → Int → Int → Option ρ) (k0 : List Int → Int → Int → Int → Int → Option ρ) : Option ρ := Z10 N out5_2 k1 i6 m2_0 m2_1 m2_2 t4_0 t4_1 out5_0 out5_1 (fun out5_2 k1 i6 m2_0 m2_1 m2_2 t4_0 t4_1 out5_0 out5_1 => Z11 N out5_2 k1 i6 m2_0 m2_1 m2_2 t4_0 t4_1 out5_0 out5_1 kn) k0
def Z8L {ρ : Type} (N : Nat) (k0 : List Int → Int → Int → Int → Int → Option ρ) : Nat → List Int → Int → Int → Int → Int → List Int → Int → Int → Int → Int → Option ρ
  | 0, _, _, _, _, _, _, _, _, _, _ => none
  | M + 1, out5_2, k1, i6, m2_0, m2_1, m2_2, t4_0, t4_1, out5_0, out5_1 => Z9 N out5_2 k1 i6 m2_0 m2_1 m2_2 t4_0 t4_1 out5_0 out5_1 (fun out5_2 k1 i6 m2_0 m2_1 m2_2 t4_0 t4_1 out5_0 out5_1 => Z8L N k0 M out5_2 k1 i6 m2_0 m2_1 m2_2 t4_0 t4_1 out5_0 out5_1) k0
def Z8 {ρ : Type} (N : Nat) (out5_2 : List Int) (k1 : Int) (i6 : Int) (m2_0 : Int) (m2_1 : Int) (m2_2 : List Int) (t4_0 : Int) (t4_1 : Int) (out5_0 : Int) (out5_1 : Int) (k0 : List Int → Int → Int → Int → Int → Option ρ) : Option ρ := Z8L N k0 N out5_2 k1 i6 m2_0 m2_1 m2_2 t4_0 t4_1 out5_0 out5_1
def Z7 {ρ : Type} (N : Nat) (out5_2 : List Int) (k1 : Int) (i6 : Int) (m2_0 : Int) (m2_1 : Int) (m2_2 : List Int) (t4_0 : Int) (t4_1 : Int) (out5_0 : Int) (out5_1 : Int) (kn : List Int → Int → Int → Int → Int → Option ρ) : Option ρ := Z8 N out5_2 k1 i6 m2_0 m2_1 m2_2 t4_0 t4_1 out5_0 out5_1 kn
def Z5 {ρ : Type} (N : Nat) (out5_2 : List Int) (k1 : Int) (m2_0 : Int) (m2_1 : Int) (m2_2 : List Int) (t4_0 : Int) (t4_1 : Int) (out5_0 : Int) (out5_1 : Int) (kn : List Int → Int → Int → Int → Int → Option ρ) : Option ρ := Z6 N out5_2 k1 m2_0 m2_1 m2_2 t4_0 t4_1 out5_0 out5_1 (fun out5_2 k1 i6 m2_0 m2_1 m2_2 t4_0 t4_1 out5_0 out5_1 => Z7 N out5_2 k1 i6 m2_0 m2_1 m2_2 t4_0 t4_1 out5_0 out5_1 kn)
def Z31 {ρ : Type} (N : Nat) (out5_2 : List Int) (t4_0 : Int) (t4_1 : Int) (out5_0 : Int) (out5_1 : Int) (kr : List Int → Int → Int → Option ρ) : Option ρ :=
 kr out5_2 out5_0 out5_1
def Z4 {ρ : Type} (N : Nat) (out5_2 : List Int) (k1 : Int) (m2_0 : Int) (m2_1 : Int) (m2_2 : List Int) (t4_0 : Int) (t4_1 : Int) (out5_0 : Int) (out5_1 : Int) (kr : List Int → Int → Int → Option ρ) : Option ρ := Z5 N out5_2 k1 m2_0 m2_1 m2_2 t4_0 t4_1 out5_0 out5_1 (fun out5_2 t4_0 t4_1 out5_0 out5_1 => Z31 N out5_2 t4_0 t4_1 out5_0 out5_1 kr)
def Z2 {ρ : Type} (N : Nat) (k1 : Int) (m2_0 : Int) (m2_1 : Int) (m2_2 : List Int) (t4_0 : Int) (t4_1 : Int) (kr : List Int → Int → Int → Option ρ) : Option ρ := Z3 N k1 m2_0 m2_1 m2_2 t4_0 t4_1 (fun out5_2 k1 m2_0 m2_1 m2_2 t4_0 t4_1 out5_0 out5_1 => Z4 N out5_2 k1 m2_0 m2_1 m2_2 t4_0 t4_1 out5_0 out5_1 kr)
def Z0 {ρ : Type} (N : Nat) (m0 : Int × Int × List Int) (k1 : Int) (kr : List Int → Int → Int → Option ρ) : Option ρ := Z1 N m0 k1 (fun k1 m2_0 m2_1 m2_2 t4_0 t4_1 => Z2 N k1 m2_0 m2_1 m2_2 t4_0 t4_1 kr)
def Spec : Prop := ∀  (m0 : Int × Int × List Int) (k1 : Int), Ty.bd (.pair (.int .i64) (.pair (.int .i64) (.sl 0 (.int .i64)))) m0 → P m0 k1 = true → ∃ N0, ∀ N, N0 ≤ N → Z0 N m0 k1 (fun t4_2 t4_0 t4_1 => some ((), ((t4_0, (t4_1, t4_2)), ()))) = some ((), ((g m0 k1), ()))

section
variable {ρ : Type} {N : Nat} {m : Int × Int × List Int} {k : Nat}
theorem at_g (hd : 0 ≤ m.1) (a b : Nat) : spec_l1At.g (m.1, (m.2.1, m.2.2)) (a : Int) (b : Int) = ent m a b := atK_nat hd a b
theorem at_p (hd : dimK m = true) {a b : Nat} (ha : a < m.2.1.toNat) (hb : b < m.1.toNat) : spec_l1At.P (m.1, (m.2.1, m.2.2)) (a : Int) (b : Int) = true := at_ok hd ha hb
def cur (m : Int × Int × List Int) (k p : Nat) : List Int := upto m.2.2.length p (mutF m k) (fun p => m.2.2.getD p 0)
theorem inner (hs : shapedK m = true) (hk : k < m.1.toNat) (k2 : List Int → Int → Int → Int → Int → List Int → Int → Int → Int → Int → Option ρ) (t0 t1 o0 o1 : Int) {i : Nat} (hi : i < m.2.1.toNat) : ∀ (M j : Nat), j ≤ m.1.toNat → m.1.toNat - j < M →
    Z16L N k2 M (cur m k (i * m.1.toNat + j)) (k : Int) (i : Int) (j : Int) m.1 m.2.1 m.2.2 t0 t1 o0 o1 = k2 (cur m k (i * m.1.toNat + m.1.toNat)) (k : Int) (i : Int) m.1 m.2.1 m.2.2 t0 t1 o0 o1 := by
  have hd := shaped_dim hs
  obtain ⟨n, r, hn, hr, hn1, hn5, hnr, hr8, hl⟩ := dim_nat hd
  intro M
  induction M with
  | zero => intro j _ h; omega
  | succ M ih =>
    intro j hj hM
    simp only [Z16L, Z17, Z18]
    by_cases h : j < m.1.toNat
    · have hlt : i * m.1.toNat + j < m.2.2.length := by
        have := ent_lt (n := n) (r := r) (i := i) (j := j) (by omega) (by omega)
        rw [hl, hn]; exact this
      have hidx : w64 (w64 ((i : Int) * m.1) + (j : Int)) = ((i * m.1.toNat + j : Nat) : Int) := by
        have e : (i : Int) * m.1 = ((i * m.1.toNat : Nat) : Int) := by rw [hn, Int.natCast_mul]; simp
        have hb : i * m.1.toNat ≤ 8 * 5 := Nat.mul_le_mul (by omega) (by omega)
        have e2 : w64 (((i * m.1.toNat : Nat) : Int)) = ((i * m.1.toNat : Nat) : Int) := w64_id (by omega) (by omega)
        rw [e, e2, w64_id (by omega) (by omega)]
        omega
      have b1 := ent_bound hs i j
      have b2 := ent_bound hs i k
      have b3 := ent_bound hs k j
      have hbc := mutE_bound (f := false) b1 b2 b3
      have hF := mutF_at (m := m) (k := k) (i := i) h
      have hcl : (cur m k (i * m.1.toNat + j)).length = m.2.2.length := upto_len
      have hset : ∀ v, v = mutF m k (i * m.1.toNat + j) → (cur m k (i * m.1.toNat + j)).set (i * m.1.toNat + j) v = cur m k (i * m.1.toNat + (j + 1)) := fun v hv => by
        subst hv
        exact upto_set hlt
      have hsame : mutF m k (i * m.1.toNat + j) = ent m i j → cur m k (i * m.1.toNat + j) = cur m k (i * m.1.toNat + (j + 1)) := fun hv => (upto_same hv).symm
      have iB : inB (((i * m.1.toNat + j : Nat) : Int)) (cur m k (i * m.1.toNat + j)).length = true := inB_nat (by rw [hcl]; exact hlt)
      have pij := at_p hd hi h
      rw [ct (dt (by omega))]
      simp only [Z19, Z20, Z21, Z22, Z23, Z24, Z25]
      rw [ct (at_p hd hi hk), ct (at_p hd (show k < m.2.1.toNat by omega) h), at_g (by omega), at_g (by omega)]
      have fin : ∀ c, c = cur m k (i * m.1.toNat + (j + 1)) → Z29 N c (k : Int) (i : Int) (j : Int) m.1 m.2.1 m.2.2 t0 t1 o0 o1 (fun out5_2 k1 i6 j7 m2_0 m2_1 m2_2 t4_0 t4_1 out5_0 out5_1 => Z16L N k2 M out5_2 k1 i6 j7 m2_0 m2_1 m2_2 t4_0 t4_1 out5_0 out5_1) = k2 (cur m k (i * m.1.toNat + m.1.toNat)) (k : Int) (i : Int) m.1 m.2.1 m.2.2 t0 t1 o0 o1 := by
        intro c hc
        subst hc
        simp only [Z29]
        rw [w64_succ (by rw [maxLen_val]; omega)]
        exact ih (j + 1) h (by omega)
      simp only [Z26, Z27, Z28, hidx, Int.toNat_natCast, at_g (show 0 ≤ m.1 by omega)]
      by_cases hik : i = k
      · rw [ct (dt (by omega)), ct' rfl, ct pij, ct iB, w64_id (by omega) (by omega)]
        refine fin _ (hset _ ?_)
        rw [hF, dt hik, Int.zero_sub]; rfl
      · rw [cf (df (by omega))]
        by_cases hjk : j = k
        · rw [ct' (by rw [lk_eq]; exact dt (by omega)), ct pij, ct iB, w64_id (by omega) (by omega)]
          refine fin _ (hset _ ?_)
          rw [hF, df hik, dt hjk, Int.zero_sub]; rfl
        · rw [cf' (by rw [lk_eq]; exact df (by omega))]
          rw [df hik, df hjk] at hF
          simp only [mutE, Bool.or_self, Bool.false_eq_true, if_false] at hF
          have wbc : w64 (ent m i k * ent m k j) = ent m i k * ent m k j := w64_id (by omega) (by omega)
          rw [wbc]
          by_cases a1 : 0 < ent m i k
          · rw [ct (dt a1)]
            by_cases a2 : 0 < ent m k j
            · rw [ct (dt a2), ct pij, ct iB, w64_id (by omega) (by omega)]
              refine fin _ (hset _ ?_)
              rw [hF, if_pos ⟨a1, a2⟩]
            · rw [cf (df a2), cf (df (by omega))]
              refine fin _ (hsame ?_)
              rw [hF, if_neg (by omega), if_neg (by omega)]
          · rw [cf (df a1)]
            by_cases a2 : ent m i k < 0
            · rw [ct (dt a2)]
              by_cases a3 : ent m k j < 0
              · rw [ct (dt a3), ct pij, ct iB, w64_id (by omega) (by omega)]
                refine fin _ (hset _ ?_)
                rw [hF, if_neg (by omega), if_pos ⟨a2, a3⟩]
              · rw [cf (df a3)]
                refine fin _ (hsame ?_)
                rw [hF, if_neg (by omega), if_neg (by omega)]
            · rw [cf (df a2)]
              refine fin _ (hsame ?_)
              rw [hF, if_neg (by omega), if_neg (by omega)]
    · rw [cf (df (by omega)), show j = m.1.toNat by omega]
theorem outer (hN : 10 ≤ N) (hs : shapedK m = true) (hk : k < m.1.toNat) (k0 : List Int → Int → Int → Int → Int → Option ρ) (t0 t1 o0 o1 : Int) : ∀ (M i : Nat), i ≤ m.2.1.toNat → m.2.1.toNat - i < M →
    Z8L N k0 M (cur m k (i * m.1.toNat)) (k : Int) (i : Int) m.1 m.2.1 m.2.2 t0 t1 o0 o1 = k0 (cur m k (m.2.1.toNat * m.1.toNat)) t0 t1 o0 o1 := by
  have hd := shaped_dim hs
  obtain ⟨n, r, hn, hr, hn1, hn5, hnr, hr8, hl⟩ := dim_nat hd
  intro M
  induction M with
  | zero => intro i _ h; omega
  | succ M ih =>
    intro i hi hM
    simp only [Z8L, Z9, Z10]
    by_cases h : i < m.2.1.toNat
    · rw [ct (dt (by omega))]
      simp only [Z11, Z12, Z13, Z14, Z15, Z16]
      have hin := inner (ρ := ρ) (N := N) hs hk (fun out5_2 k1 i6 m2_0 m2_1 m2_2 t4_0 t4_1 out5_0 out5_1 => Z30 N out5_2 k1 i6 m2_0 m2_1 m2_2 t4_0 t4_1 out5_0 out5_1 (fun out5_2 k1 i6 m2_0 m2_1 m2_2 t4_0 t4_1 out5_0 out5_1 => Z8L N k0 M out5_2 k1 i6 m2_0 m2_1 m2_2 t4_0 t4_1 out5_0 out5_1)) t0 t1 o0 o1 h N 0 (by omega) (by omega)
      rw [show ((0 : Nat) : Int) = 0 from rfl, Nat.add_zero] at hin
      rw [hin]
      simp only [Z30]
      rw [w64_succ (by rw [maxLen_val]; omega)]
      have := ih (i + 1) h (by omega)
      rw [Nat.add_mul, Nat.one_mul] at this
      exact this
    · rw [cf (df (by omega)), show i = m.2.1.toNat by omega]
end
theorem ok : Spec := fun m k hb hp => ⟨10, fun N hN => by
  simp only [P, Bool.and_eq_true, decide_eq_true_eq] at hp
  obtain ⟨hs, h0, h1⟩ := hp
  obtain ⟨x, rfl⟩ := Int.eq_ofNat_of_zero_le h0
  have hd := shaped_dim hs
  obtain ⟨n, r, hn, hr, hn1, hn5, hnr, hr8, hl⟩ := dim_nat hd
  have hlen : m.2.2.length ≤ 8 * 5 := by rw [hl]; exact Nat.mul_le_mul hr8 hn5
  simp only [Z0, Z1, Z2, Z3]
  rw [ct (show spec_l1CopyMatrix.P (m.1, (m.2.1, m.2.2)) = true from dt (show m.2.2.length < 1099511627776 by omega))]
  simp only [Z4, Z5, Z6, Z7, Z8]
  have hstart : cur m x 0 = m.2.2 := by
    unfold cur
    rw [upto_zero]
    exact list_map 0 rfl
  have hend : cur m x (m.2.1.toNat * m.1.toNat) = (mutK m x).2.2 := by
    have e : m.2.1.toNat * m.1.toNat = m.2.2.length := by rw [hl, hn, hr]; simp
    rw [e]
    exact upto_full
  have := outer (ρ := Unit × (Int × Int × List Int) × Unit) hN hs (show x < m.1.toNat by omega) (fun out5_2 t4_0 t4_1 out5_0 out5_1 => Z31 N out5_2 t4_0 t4_1 out5_0 out5_1 (fun t4_2 t4_0 t4_1 => some ((), ((t4_0, (t4_1, t4_2)), ())))) 0 0 m.1 m.2.1 N 0 (by omega) (by omega)
  rw [Nat.zero_mul, hstart, hend] at this
  exact this⟩

end spec_l1Mutate
end
end Go.Fw
set_option linter.unusedVariables false
set_option linter.unusedSimpArgs false
set_option maxRecDepth 100000
namespace Go.Fw
noncomputable section
namespace spec_MutateMatrix
def g (m : Int × Int × List Int) (k : Int) : (Int × Int × List Int) × Bool :=
  if ((sizesK m && !decide (facK m = [])) && (inK k 0 (m.1 - 1) && sizesK (mutK m k.toNat))) = true then (mutK m k.toNat, true) else ((0, 0, []), false)
end spec_MutateMatrix
namespace spec_MutateMatrix
def Z0 {ρ : Type} (N : Nat) (m0 : Int × Int × List Int) (k1 : Int) (kr : List Int → Bool → Int → Int → Option ρ) : Option ρ :=
 cond (!(lk N ((spec_MatrixOk.g m0))))
 (
  kr ([] : List Int) false 0 0)
 (
  cond (!(lk N ((spec_l1In.g k1 0 (w64 (m0.1 - 1))))))
  (
   kr ([] : List Int) false 0 0)
  (
   cond (lk N (spec_l1Mutate.P m0 k1)) (
    cond (!(lk N ((spec_l1Sizes.g (spec_l1Mutate.g m0 k1)))))
    (
     kr ([] : List Int) false 0 0)
    (
     kr (spec_l1Mutate.g m0 k1).2.2 true (spec_l1Mutate.g m0 k1).1 (spec_l1Mutate.g m0 k1).2.1)) none))
def Spec : Prop := ∀  (m0 : Int × Int × List Int) (k1 : Int), Ty.bd (.pair (.int .i64) (.pair (.int .i64) (.sl 0 (.int .i64)))) m0 → ∃ N0, ∀ N, N0 ≤ N → Z0 N m0 k1 (fun t4_2 t5 t4_0 t4_1 => some ((), ((t4_0, (t4_1, t4_2)), (t5, ())))) = some ((), ((g m0 k1).1, ((g m0 k1).2, ())))

theorem ok : Spec := fun m k hb => ⟨0, fun N hN => by
  simp only [Z0, lk_eq, g, spec_MatrixOk.g, spec_l1In.g, spec_l1Sizes.g]
  cases h1 : (sizesK m && !decide (facK m = []))
  · rfl
  have hs : sizesK m = true := by
    simp only [Bool.and_eq_true] at h1
    exact h1.1
  have hd := shaped_dim (sizes_shaped hs)
  obtain ⟨n, r, hn, hr, hn1, hn5, hnr, hr8, hl⟩ := dim_nat hd
  rw [w64_id (by omega) (by omega)]
  cases h2 : inK k 0 (m.1 - 1)
  · rfl
  have h3 := inK_iff.1 h2
  have hP : spec_l1Mutate.P m k = true := by
    simp only [spec_l1Mutate.P, Bool.and_eq_true, decide_eq_true_eq]
    exact ⟨sizes_shaped hs, by omega, by omega⟩
  rw [hP]
  have hg : spec_l1Mutate.g m k = mutK m k.toNat := rfl
  rw [hg]
  cases sizesK (mutK m k.toNat) <;> rfl⟩

end spec_MutateMatrix
end
end Go.Fw
/-! Both programs mutate alike. -/
set_option linter.unusedVariables false
namespace Go.Fw
theorem spec_mutG : spec_MutateMatrix.g = mutG := rfl
theorem impl_mutG : impl_MutateMatrix.g = mutG := by
  funext m k
  unfold impl_MutateMatrix.g mutG
  rw [ok_alike]
  cases h1 : (sizesK m && !decide (facK m = []))
  · rfl
  cases h2 : inK k 0 (m.1 - 1)
  · rfl
  have h3 := inK_iff.1 h2
  rw [mut_alike h1 (by omega)]
end Go.Fw
set_option linter.unusedVariables false
set_option linter.unusedSimpArgs false
set_option maxRecDepth 100000
namespace Go.Fw
noncomputable section
namespace impl_PrincipalMatrix
def g (m : Int × Int × List Int) : (Int × Int × List Int) × Bool :=
  if ((shapedK m && !decide (facK m = [])) && (decide (m.2.1 = m.1) && decide (2 * m.1 ≤ 8))) = true then (princK m, true) else ((0, 0, []), false)
end impl_PrincipalMatrix
namespace impl_PrincipalMatrix
def Z1 {ρ : Type} (N : Nat) (m0 : Int × Int × List Int) (kn : Int → Int → List Int → Int → Int → Option ρ) : Option ρ :=
 kn m0.1 m0.2.1 m0.2.2 0 0
def Z3 {ρ : Type} (N : Nat) (m1_0 : Int) (m1_1 : Int) (m1_2 : List Int) (t2_0 : Int) (t2_1 : Int) (kn : Int → Int → List Int → Int → Int → Option ρ) (kr : List Int → Bool → Int → Int → Option ρ) : Option ρ :=
 cond (!(lk N ((impl_MatrixOk.g (m1_0, (m1_1, m1_2))))))
 (
  kr ([] : List Int) false 0 0)
 (
  cond (lk N (!(decide (m1_1 = m1_0))))
  (
   kr ([] : List Int) false 0 0)
  (
   cond (lk N (decide (8 < (w64 (2 * m1_0)))))
   (
    kr ([] : List Int) false 0 0)
   (
    kn m1_0 m1_1 m1_2 t2_0 t2_1)))
def Z5 {ρ : Type} (N : Nat) (m1_0 : Int) (m1_1 : Int) (m1_2 : List Int) (t2_0 : Int) (t2_1 : Int) (kn : List Int → Int → Int → List Int → Int → Int → Int → Int → Option ρ) : Option ρ :=
 both (
  cond (lk N (slices_Clone_int_int.P m1_2)) (
   both (
    kn (slices_Clone_int_int.g m1_2) m1_0 m1_1 m1_2 t2_0 t2_1 m1_0 (w64 (2 * m1_0)))
   (
    kn (slices_Clone_int_int.g m1_2) m1_0 m1_1 m1_2 t2_0 t2_1 m1_0 (w64 (2 * m1_0)))) none)
 (
  cond (lk N (slices_Clone_int_int.P m1_2)) (
   kn (slices_Clone_int_int.g m1_2) m1_0 m1_1 m1_2 t2_0 t2_1 m1_0 (w64 (2 * m1_0))) none)
def Z8 {ρ : Type} (N : Nat) (out4_2 : List Int) (m1_0 : Int) (m1_1 : Int) (m1_2 : List Int) (t2_0 : Int) (t2_1 : Int) (out4_0 : Int) (out4_1 : Int) (kn : List Int → Int → Int → Int → List Int → Int → Int → Int → Int → Option ρ) : Option ρ :=
 kn out4_2 0 m1_0 m1_1 m1_2 t2_0 t2_1 out4_0 out4_1
def Z12 {ρ : Type} (N : Nat) (out4_2 : List Int) (i5 : Int) (m1_0 : Int) (m1_1 : Int) (m1_2 : List Int) (t2_0 : Int) (t2_1 : Int) (out4_0 : Int) (out4_1 : Int) (kn : List Int → Int → Int → Int → List Int → Int → Int → Int → Int → Option ρ) (k0 : List Int → Int → Int → Int → Int → Option ρ) : Option ρ :=
 cond (lk N (decide (i5 < m1_0)))
 (
  kn out4_2 i5 m1_0 m1_1 m1_2 t2_0 t2_1 out4_0 out4_1)
 (
  k0 out4_2 t2_0 t2_1 out4_0 out4_1)
def Z16 {ρ : Type} (N : Nat) (out4_2 : List Int) (i5 : Int) (m1_0 : Int) (m1_1 : Int) (m1_2 : List Int) (t2_0 : Int) (t2_1 : Int) (out4_0 : Int) (out4_1 : Int) (kn : List Int → Int → Int → Int → Int → List Int → Int → Int → Int → Int → Option ρ) : Option ρ :=
 kn out4_2 i5 0 m1_0 m1_1 m1_2 t2_0 t2_1 out4_0 out4_1
def Z19 {ρ : Type} (N : Nat) (out4_2 : List Int) (i5 : Int) (j6 : Int) (m1_0 : Int) (m1_1 : Int) (m1_2 : List Int) (t2_0 : Int) (t2_1 : Int) (out4_0 : Int) (out4_1 : Int) (kn : List Int → Int → Int → Int → Int → List Int → Int → Int → Int → Int → Option ρ) (k2 : List Int → Int → Int → Int → List Int → Int → Int → Int → Int → Option ρ) : Option ρ :=
 cond (lk N (decide (j6 < m1_0)))
 (
  cond (lk N (decide (i5 = j6)))
  (
   cond (lk N (Nat.blt (out4_2.length + ([1] : List Int).length) 1099511627776)) (
    kn (out4_2 ++ ([1] : List Int)) i5 (w64 (j6 + 1)) m1_0 m1_1 m1_2 t2_0 t2_1 out4_0 out4_1) none)
  (
   cond (lk N (Nat.blt (out4_2.length + ([0] : List Int).length) 1099511627776)) (
    kn (out4_2 ++ ([0] : List Int)) i5 (w64 (j6 + 1)) m1_0 m1_1 m1_2 t2_0 t2_1 out4_0 out4_1) none))
 (
  k2 out4_2 i5 m1_0 m1_1 m1_2 t2_0 t2_1 out4_0 out4_1)
def Z18L {ρ : Type} (N : Nat) (k2 : List Int → Int → Int → Int → List Int → Int → Int → Int → Int → Option ρ) : Nat → List Int → Int → Int → Int → Int → List Int → Int → Int → Int → Int → Option ρ
  | 0, _, _, _, _, _, _, _, _, _, _ => none
  | M + 1, out4_2, i5, j6, m1_0, m1_1, m1_2, t2_0, t2_1, out4_0, out4_1 => Z19 N out4_2 i5 j6 m1_0 m1_1 m1_2 t2_0 t2_1 out4_0 out4_1 (fun out4_2 i5 j6 m1_0 m1_1 m1_2 t2_0 t2_1 out4_0 out4_1 => Z18L N k2 M out4_2 i5 j6 m1_0 m1_1 m1_2 t2_0 t2_1 out4_0 out4_1) k2
def Z18 {ρ : Type} (N : Nat) (out4_2 : List Int) (i5 : Int) (j6 : Int) (m1_0 : Int) (m1_1 : Int) (m1_2 : List Int) (t2_0 : Int) (t2_1 : Int) (out4_0 : Int) (out4_1 : Int) (k2 : List Int → Int → Int → Int → List Int → Int → Int → Int → Int → Option ρ) : Option ρ := Z18L N k2 N out4_2 i5 j6 m1_0 m1_1 m1_2 t2_0 t2_1 out4_0 out4_1
def Z17 {ρ : Type} (N : Nat) (out4_2 : List Int) (i5 : Int) (j6 : Int) (m1_0 : Int) (m1_1 : Int) (m1_2 : List Int) (t2_0 : Int) (t2_1 : Int) (out4_0 : Int) (out4_1 : Int) (kn : List Int → Int → Int → Int → List Int → Int → Int → Int → Int → Option ρ) : Option ρ := Z18 N out4_2 i5 j6 m1_0 m1_1 m1_2 t2_0 t2_1 out4_0 out4_1 kn
def Z15 {ρ : Type} (N : Nat) (out4_2 : List Int) (i5 : Int) (m1_0 : Int) (m1_1 : Int) (m1_2 : List Int) (t2_0 : Int) (t2_1 : Int) (out4_0 : Int) (out4_1 : Int) (kn : List Int → Int → Int → Int → List Int → Int → Int → Int → Int → Option ρ) : Option ρ := Z16 N out4_2 i5 m1_0 m1_1 m1_2 t2_0 t2_1 out4_0 out4_1 (fun out4_2 i5 j6 m1_0 m1_1 m1_2 t2_0 t2_1 out4_0 out4_1 => Z17 N out4_2 i5 j6 m1_0 m1_1 m1_2 t2_0 t2_1 out4_0 out4_1 kn)
def Z14 {ρ : Type} (N : Nat) (out4_2 : List Int) (i5 : Int) (m1_0 : Int) (m1_1 : Int) (m1_2 : List Int) (t2_0 : Int) (t2_1 : Int) (out4_0 : Int) (out4_1 : Int) (kn : List Int → Int → Int → Int → List Int → Int → Int → Int → Int → Option ρ) : Option ρ := Z15 N out4_2 i5 m1_0 m1_1 m1_2 t2_0 t2_1 out4_0 out4_1 kn
def Z20 {ρ : Type} (N : Nat) (out4_2 : List Int) (i5 : Int) (m1_0 : Int) (m1_1 : Int) (m1_2 : List Int) (t2_0 : Int) (t2_1 : Int) (out4_0 : Int) (out4_1 : Int) (kn : List Int → Int → Int → Int → List Int → Int → Int → Int → Int → Option ρ) : Option ρ :=
 kn out4_2 (w64 (i5 + 1)) m1_0 m1_1 m1_2 t2_0 t2_1 out4_0 out4_1
def Z13 {ρ : Type} (N : Nat) (out4_2 : List Int) (i5 : Int) (m1_0 : Int) (m1_1 : Int) (m1_2 : List Int) (t2_0 : Int) (t2_1 : Int) (out4_0 : Int) (out4_1 : Int) (kn : List Int → Int → Int → Int → List Int → Int → Int → Int → Int → Option ρ) : Option ρ := Z14 N out4_2 i5 m1_0 m1_1 m1_2 t2_0 t2_1 out4_0 out4_1 (fun out4_2 i5 m1_0 m1_1 m1_2 t2_0 t2_1 out4_0 out4_1 => Z20 N out4_2 i5 m1_0 m1_1 m1_2 t2_0 t2_1 out4_0 out4_1 kn)
def Z11 {ρ : Type} (N : Nat) (out4_2 : List Int) (i5 : Int) (m1_0 : Int) (m1_1 : Int) (m1_2 : List Int) (t2_0 : Int) (t2_1 : Int) (out4_0 : Int) (out4_1 : Int) (kn : List Int → Int → Int → Int → List Int → Int → Int → Int → Int → Option ρ) (k0 : List Int → Int → Int → Int → Int → Option ρ) : Option ρ := Z12 N out4_2 i5 m1_0 m1_1 m1_2 t2_0 t2_1 out4_0 out4_1 (fun out4_2 i5 m1_0 m1_1 m1_2 t2_0 t2_1 out4_0 out4_1 => Z13 N out4_2 i5 m1_0 m1_1 m1_2 t2_0 t2_1 out4_0 out4_1 kn) k0
def Z10L {ρ : Type} (N : Nat) (k0 : List Int → Int → Int → Int → Int → Option ρ) : Nat → List Int → Int → Int → Int → List Int → Int → Int → Int → Int → Option ρ
  | 0, _, _, _, _, _, _, _, _, _ => none
  | M + 1, out4_2, i5, m1_0, m1_1, m1_2, t2_0, t2_1, out4_0, out4_1 => Z11 N out4_2 i5 m1_0 m1_1 m1_2 t2_0 t2_1 out4_0 out4_1 (fun out4_2 i5 m1_0 m1_1 m1_2 t2_0 t2_1 out4_0 out4_1 => Z10L N k0 M out4_2 i5 m1_0 m1_1 m1_2 t2_0 t2_1 out4_0 out4_1) k0
def Z10 {ρ : Type} (N : Nat) (out4_2 : List Int) (i5 : Int) (m1_0 : Int) (m1_1 : Int) (m1_2 : List Int) (t2_0 : Int) (t2_1 : Int) (out4_0 : Int) (out4_1 : Int) (k0 : List Int → Int → Int → Int → Int → Option ρ) : Option ρ := Z10L N k0 N out4_2 i5 m1_0 m1_1 m1_2 t2_0 t2_1 out4_0 out4_1
def Z9 {ρ : Type} (N : Nat) (out4_2 : List Int) (i5 : Int) (m1_0 : Int) (m1_1 : Int) (m1_2 : List Int) (t2_0 : Int) (t2_1 : Int) (out4_0 : Int) (out4_1 : Int) (kn : List Int → Int → Int → Int → Int → Option ρ) : Option ρ := Z10 N out4_2 i5 m1_0 m1_1 m1_2 t2_0 t2_1 out4_0 out4_1 kn
def Z7 {ρ : Type} (N : Nat) (out4_2 : List Int) (m1_0 : Int) (m1_1 : Int) (m1_2 : List Int) (t2_0 : Int) (t2_1 : Int) (out4_0 : Int) (out4_1 : Int) (kn : List Int → Int → Int → Int → Int → Option ρ) : Option ρ := Z8 N out4_2 m1_0 m1_1 m1_2 t2_0 t2_1 out4_0 out4_1 (fun out4_2 i5 m1_0 m1_1 m1_2 t2_0 t2_1 out4_0 out4_1 => Z9 N out4_2 i5 m1_0 m1_1 m1_2 t2_0 t2_1 out4_0 out4_1 kn)
def Z21 {ρ : Type} (N : Nat) (out4_2 : List Int) (t2_0 : Int) (t2_1 : Int) (out4_0 : Int) (out4_1 : Int) (kr : List Int → Bool → Int → Int → Option ρ) : Option ρ :=
 kr out4_2 true out4_0 out4_1
def Z6 {ρ : Type} (N : Nat) (out4_2 : List Int) (m1_0 : Int) (m1_1 : Int) (m1_2 : List Int) (t2_0 : Int) (t2_1 : Int) (out4_0 : Int) (out4_1 : Int) (kr : List Int → Bool → Int → Int → Option ρ) : Option ρ := Z7 N out4_2 m1_0 m1_1 m1_2 t2_0 t2_1 out4_0 out4_1 (fun out4_2 t2_0 t2_1 out4_0 out4_1 => Z21 N out4_2 t2_0 t2_1 out4_0 out4_1 kr)
def Z4 {ρ : Type} (N : Nat) (m1_0 : Int) (m1_1 : Int) (m1_2 : List Int) (t2_0 : Int) (t2_1 : Int) (kr : List Int → Bool → Int → Int → Option ρ) : Option ρ := Z5 N m1_0 m1_1 m1_2 t2_0 t2_1 (fun out4_2 m1_0 m1_1 m1_2 t2_0 t2_1 out4_0 out4_1 => Z6 N out4_2 m1_0 m1_1 m1_2 t2_0 t2_1 out4_0 out4_1 kr)
def Z2 {ρ : Type} (N : Nat) (m1_0 : Int) (m1_1 : Int) (m1_2 : List Int) (t2_0 : Int) (t2_1 : Int) (kr : List Int → Bool → Int → Int → Option ρ) : Option ρ := Z3 N m1_0 m1_1 m1_2 t2_0 t2_1 (fun m1_0 m1_1 m1_2 t2_0 t2_1 => Z4 N m1_0 m1_1 m1_2 t2_0 t2_1 kr) kr
def Z0 {ρ : Type} (N : Nat) (m0 : Int × Int × List Int) (kr : List Int → Bool → Int → Int → Option ρ) : Option ρ := Z1 N m0 (fun m1_0 m1_1 m1_2 t2_0 t2_1 => Z2 N m1_0 m1_1 m1_2 t2_0 t2_1 kr)
def Spec : Prop := ∀  (m0 : Int × Int × List Int), Ty.bd (.pair (.int .i64) (.pair (.int .i64) (.sl 0 (.int .i64)))) m0 → ∃ N0, ∀ N, N0 ≤ N → Z0 N m0 (fun t2_2 t3 t2_0 t2_1 => some ((), ((t2_0, (t2_1, t2_2)), (t3, ())))) = some ((), ((g m0).1, ((g m0).2, ())))

theorem inner {ρ : Type} {N : Nat} {m : Int × Int × List Int} (hd : dimK m = true) (k2 : List Int → Int → Int → Int → List Int → Int → Int → Int → Int → Option ρ) (t0 t1 o0 o1 : Int) (base : List Int) (hb : base.length ≤ 65) {i : Nat} (hi : i < m.1.toNat) : ∀ (M j : Nat), j ≤ m.1.toNat → m.1.toNat - j < M →
    Z18L N k2 M (base ++ (rowU m.1.toNat i).take j) (i : Int) (j : Int) m.1 m.2.1 m.2.2 t0 t1 o0 o1 = k2 (base ++ rowU m.1.toNat i) (i : Int) m.1 m.2.1 m.2.2 t0 t1 o0 o1 := by
  obtain ⟨n, r, hn, hr, hn1, hn5, hnr, hr8, hl⟩ := dim_nat hd
  intro M
  induction M with
  | zero => intro j _ h; omega
  | succ M ih =>
    intro j hj hM
    simp only [Z18L, Z19]
    by_cases h : j < m.1.toNat
    · have hlen : ∀ x : Int, Nat.blt ((base ++ (rowU m.1.toNat i).take j).length + ([x]).length) 1099511627776 = true := fun x => by
        rw [Nat.blt_eq, List.length_append, List.length_take, rowU_len, List.length_singleton]; omega
      have ht := take_getD (l := rowU m.1.toNat i) (j := j) (0 : Int) (by rw [rowU_len]; exact h)
      rw [rowU_getD h] at ht
      have := ih (j + 1) h (by omega)
      rw [← ht, ← List.append_assoc] at this
      rw [ct (dt (by omega))]
      by_cases e : i = j
      · rw [if_pos e] at this
        rw [ct (dt (by omega)), ct (hlen _), w64_succ (by rw [maxLen_val]; omega)]
        exact this
      · rw [if_neg e] at this
        rw [cf (df (by omega)), ct (hlen _), w64_succ (by rw [maxLen_val]; omega)]
        exact this
    · rw [cf (df (by omega)), List.take_of_length_le (by rw [rowU_len]; omega)]
theorem loop {ρ : Type} {N : Nat} (hN : 10 ≤ N) {m : Int × Int × List Int} (hd : dimK m = true) (k0 : List Int → Int → Int → Int → Int → Option ρ) (t0 t1 o0 o1 : Int) : ∀ (M i : Nat), i ≤ m.1.toNat → m.1.toNat - i < M →
    Z10L N k0 M (m.2.2 ++ rowsU m.1.toNat i) (i : Int) m.1 m.2.1 m.2.2 t0 t1 o0 o1 = k0 (m.2.2 ++ rowsU m.1.toNat m.1.toNat) t0 t1 o0 o1 := by
  obtain ⟨n, r, hn, hr, hn1, hn5, hnr, hr8, hl⟩ := dim_nat hd
  intro M
  induction M with
  | zero => intro i _ h; omega
  | succ M ih =>
    intro i hi hM
    simp only [Z10L, Z11, Z12]
    by_cases h : i < m.1.toNat
    · rw [ct (dt (by omega))]
      simp only [Z13, Z14, Z15, Z16, Z17, Z18]
      have hin := inner (ρ := ρ) (N := N) hd (fun out4_2 i5 m1_0 m1_1 m1_2 t2_0 t2_1 out4_0 out4_1 => Z20 N out4_2 i5 m1_0 m1_1 m1_2 t2_0 t2_1 out4_0 out4_1 (fun out4_2 i5 m1_0 m1_1 m1_2 t2_0 t2_1 out4_0 out4_1 => Z10L N k0 M out4_2 i5 m1_0 m1_1 m1_2 t2_0 t2_1 out4_0 out4_1)) t0 t1 o0 o1 (m.2.2 ++ rowsU m.1.toNat i) (princ_len hd i (by omega)) h N 0 (by omega) (by omega)
      rw [List.take_zero, List.append_nil, show ((0 : Nat) : Int) = 0 from rfl] at hin
      rw [hin]
      simp only [Z20]
      rw [w64_succ (by rw [maxLen_val]; omega), List.append_assoc]
      exact ih (i + 1) h (by omega)
    · rw [cf (df (by omega)), show i = m.1.toNat by omega]
theorem ok : Spec := fun m hb => ⟨10, fun N hN => by
  have e0 : impl_MatrixOk.g (m.1, (m.2.1, m.2.2)) = (shapedK m && !decide (facK m = [])) := rfl
  simp only [Z0, Z1, Z2, Z3, e0, g, lk_eq]
  cases h1 : (shapedK m && !decide (facK m = []))
  · rfl
  have hs : shapedK m = true := by
    simp only [Bool.and_eq_true] at h1
    exact h1.1
  have hd := shaped_dim hs
  obtain ⟨n, r, hn, hr, hn1, hn5, hnr, hr8, hl⟩ := dim_nat hd
  have hlen := dim_len hd
  rw [w64_id (by omega) (by omega)]
  by_cases h2 : m.2.1 = m.1
  · rw [dt h2]
    by_cases h3 : 2 * m.1 ≤ 8
    · rw [dt h3, df (show ¬ 8 < 2 * m.1 by omega)]
      simp only [Z4, Z5]
      rw [ct (show slices_Clone_int_int.P m.2.2 = true from dt (by omega)), ct (show slices_Clone_int_int.P m.2.2 = true from dt (by omega)), both_self, both_self]
      simp only [Z6, Z7, Z8, Z9, Z10]
      have := loop (ρ := Unit × (Int × Int × List Int) × Bool × Unit) hN hd (fun out4_2 t2_0 t2_1 out4_0 out4_1 => Z21 N out4_2 t2_0 t2_1 out4_0 out4_1 (fun t2_2 t3 t2_0 t2_1 => some ((), ((t2_0, (t2_1, t2_2)), (t3, ()))))) 0 0 m.1 (w64 (2 * m.1)) N 0 (by omega) (by omega)
      rw [rowsU, List.append_nil] at this
      refine this.trans ?_
      simp only [Z21]
      rw [w64_id (by omega) (by omega)]
      rfl
    · rw [df h3, dt (show 8 < 2 * m.1 by omega)]; rfl
  · rw [df h2]; rfl⟩

end impl_PrincipalMatrix
end
end Go.Fw
set_option linter.unusedVariables false
set_option linter.unusedSimpArgs false
set_option maxRecDepth 100000
namespace Go.Fw
noncomputable section
namespace impl_walk
def g (m : Int × Int × List Int) (ks : List Int) : List (Int × Int × List Int) × Bool :=
  if ((impl_PrincipalMatrix.g m).2 && decide ((ks.length : Int) ≤ 40)) = true then walkK impl_MutateMatrix.g (impl_PrincipalMatrix.g m).1 ks else ([], false)
end impl_walk
namespace impl_walk
def Z1 {ρ : Type} (N : Nat) (m0 : Int × Int × List Int) (ks1 : List Int) (kn : List Int → Int → Int → List Int → Option ρ) : Option ρ :=
 kn ks1 m0.1 m0.2.1 m0.2.2
def Z3 {ρ : Type} (N : Nat) (ks1 : List Int) (m2_0 : Int) (m2_1 : Int) (m2_2 : List Int) (kn : List Int → List Int → Bool → Int → Int → Option ρ) : Option ρ :=
 kn (impl_PrincipalMatrix.g (m2_0, (m2_1, m2_2))).1.2.2 ks1 (lk N ((impl_PrincipalMatrix.g (m2_0, (m2_1, m2_2))).2)) (impl_PrincipalMatrix.g (m2_0, (m2_1, m2_2))).1.1 (impl_PrincipalMatrix.g (m2_0, (m2_1, m2_2))).1.2.1
def Z5 {ρ : Type} (N : Nat) (p6_2 : List Int) (ks1 : List Int) (ok7 : Bool) (p6_0 : Int) (p6_1 : Int) (kn : List Int → List Int → Int → Int → Option ρ) (kr : (List (Int × Int × List Int)) → Bool → Option ρ) : Option ρ :=
 cond (!(ok7))
 (
  kr ([] : List (Int × Int × List Int)) false)
 (
  cond (lk N (decide (40 < (ks1.length : Int))))
  (
   kr ([] : List (Int × Int × List Int)) false)
  (
   kn p6_2 ks1 p6_0 p6_1))
def Z7 {ρ : Type} (N : Nat) (p6_2 : List Int) (ks1 : List Int) (p6_0 : Int) (p6_1 : Int) (kn : (List (Int × Int × List Int)) → List Int → Int → Int → List Int → Option ρ) : Option ρ :=
 kn ([(p6_0, (p6_1, p6_2))] : List (Int × Int × List Int)) ks1 p6_0 p6_1 p6_2
def Z10 {ρ : Type} (N : Nat) (out8 : List (Int × Int × List Int)) (ks1 : List Int) (p6_0 : Int) (p6_1 : Int) (p6_2 : List Int) (kn : (List (Int × Int × List Int)) → List Int → Int → Int → Int → Int → List Int → Option ρ) : Option ρ :=
 kn out8 ks1 (ks1.length : Int) 0 p6_0 p6_1 p6_2
def Z13 {ρ : Type} (N : Nat) (out8 : List (Int × Int × List Int)) (t25 : List Int) (t26 : Int) (t27 : Int) (p6_0 : Int) (p6_1 : Int) (p6_2 : List Int) (kn : (List (Int × Int × List Int)) → List Int → Int → Int → Int → Int → List Int → Option ρ) (k0 : (List (Int × Int × List Int)) → Option ρ) (kr : (List (Int × Int × List Int)) → Bool → Option ρ) : Option ρ :=
 cond (lk N (decide (t27 < t26)))
 (
  cond (lk N (inB t27 t25.length)) (
   cond (!(lk N ((impl_MutateMatrix.g (p6_0, (p6_1, p6_2)) (t25.getD t27.toNat 0)).2)))
   (
    kr ([] : List (Int × Int × List Int)) false)
   (
    cond (lk N (Nat.blt (out8.length + ([(impl_MutateMatrix.g (p6_0, (p6_1, p6_2)) (t25.getD t27.toNat 0)).1] : List (Int × Int × List Int)).length) 1099511627776)) (
     kn (out8 ++ ([(impl_MutateMatrix.g (p6_0, (p6_1, p6_2)) (t25.getD t27.toNat 0)).1] : List (Int × Int × List Int))) t25 t26 (w64 (t27 + 1)) (impl_MutateMatrix.g (p6_0, (p6_1, p6_2)) (t25.getD t27.toNat 0)).1.1 (impl_MutateMatrix.g (p6_0, (p6_1, p6_2)) (t25.getD t27.toNat 0)).1.2.1 (impl_MutateMatrix.g (p6_0, (p6_1, p6_2)) (t25.getD t27.toNat 0)).1.2.2) none)) none)
 (
  k0 out8)
def Z12L {ρ : Type} (N : Nat) (k0 : (List (Int × Int × List Int)) → Option ρ) (kr : (List (Int × Int × List Int)) → Bool → Option ρ) : Nat → (List (Int × Int × List Int)) → List Int → Int → Int → Int → Int → List Int → Option ρ
  | 0, _, _, _, _, _, _, _ => none
  | M + 1, out8, t25, t26, t27, p6_0, p6_1, p6_2 => Z13 N out8 t25 t26 t27 p6_0 p6_1 p6_2 (fun out8 t25 t26 t27 p6_0 p6_1 p6_2 => Z12L N k0 kr M out8 t25 t26 t27 p6_0 p6_1 p6_2) k0 kr
def Z12 {ρ : Type} (N : Nat) (out8 : List (Int × Int × List Int)) (t25 : List Int) (t26 : Int) (t27 : Int) (p6_0 : Int) (p6_1 : Int) (p6_2 : List Int) (k0 : (List (Int × Int × List Int)) → Option ρ) (kr : (List (Int × Int × List Int)) → Bool → Option ρ) : Option ρ := Z12L N k0 kr N out8 t25 t26 t27 p6_0 p6_1 p6_2
def Z11 {ρ : Type} (N : Nat) (out8 : List (Int × Int × List Int)) (t25 : List Int) (t26 : Int) (t27 : Int) (p6_0 : Int) (p6_1 : Int) (p6_2 : List Int) (kn : (List (Int × Int × List Int)) → Option ρ) (kr : (List (Int × Int × List Int)) → Bool → Option ρ) : Option ρ := Z12 N out8 t25 t26 t27 p6_0 p6_1 p6_2 kn kr
def Z9 {ρ : Type} (N : Nat) (out8 : List (Int × Int × List Int)) (ks1 : List Int) (p6_0 : Int) (p6_1 : Int) (p6_2 : List Int) (kn : (List (Int × Int × List Int)) → Option ρ) (kr : (List (Int × Int × List Int)) → Bool → Option ρ) : Option ρ := Z10 N out8 ks1 p6_0 p6_1 p6_2 (fun out8 t25 t26 t27 p6_0 p6_1 p6_2 => Z11 N out8 t25 t26 t27 p6_0 p6_1 p6_2 kn kr)
def Z14 {ρ : Type} (N : Nat) (out8 : List (Int × Int × List Int)) (kr : (List (Int × Int × List Int)) → Bool → Option ρ) : Option ρ :=
 kr out8 true
def Z8 {ρ : Type} (N : Nat) (out8 : List (Int × Int × List Int)) (ks1 : List Int) (p6_0 : Int) (p6_1 : Int) (p6_2 : List Int) (kr : (List (Int × Int × List Int)) → Bool → Option ρ) : Option ρ := Z9 N out8 ks1 p6_0 p6_1 p6_2 (fun out8 => Z14 N out8 kr) kr
def Z6 {ρ : Type} (N : Nat) (p6_2 : List Int) (ks1 : List Int) (p6_0 : Int) (p6_1 : Int) (kr : (List (Int × Int × List Int)) → Bool → Option ρ) : Option ρ := Z7 N p6_2 ks1 p6_0 p6_1 (fun out8 ks1 p6_0 p6_1 p6_2 => Z8 N out8 ks1 p6_0 p6_1 p6_2 kr)
def Z4 {ρ : Type} (N : Nat) (p6_2 : List Int) (ks1 : List Int) (ok7 : Bool) (p6_0 : Int) (p6_1 : Int) (kr : (List (Int × Int × List Int)) → Bool → Option ρ) : Option ρ := Z5 N p6_2 ks1 ok7 p6_0 p6_1 (fun p6_2 ks1 p6_0 p6_1 => Z6 N p6_2 ks1 p6_0 p6_1 kr) kr
def Z2 {ρ : Type} (N : Nat) (ks1 : List Int) (m2_0 : Int) (m2_1 : Int) (m2_2 : List Int) (kr : (List (Int × Int × List Int)) → Bool → Option ρ) : Option ρ := Z3 N ks1 m2_0 m2_1 m2_2 (fun p6_2 ks1 ok7 p6_0 p6_1 => Z4 N p6_2 ks1 ok7 p6_0 p6_1 kr)
def Z0 {ρ : Type} (N : Nat) (m0 : Int × Int × List Int) (ks1 : List Int) (kr : (List (Int × Int × List Int)) → Bool → Option ρ) : Option ρ := Z1 N m0 ks1 (fun ks1 m2_0 m2_1 m2_2 => Z2 N ks1 m2_0 m2_1 m2_2 kr)
def Spec : Prop := ∀  (m0 : Int × Int × List Int) (ks1 : List Int), Ty.bd (.pair (.int .i64) (.pair (.int .i64) (.sl 0 (.int .i64)))) m0 → Ty.bd (.sl 0 (.int .i64)) ks1 → ∃ N0, ∀ N, N0 ≤ N → Z0 N m0 ks1 (fun t4 t5 => some ((), (t4, (t5, ())))) = some ((), ((g m0 ks1).1, ((g m0 ks1).2, ())))

theorem loop {ρ : Type} (N : Nat) (kr : List (Int × Int × List Int) → Bool → Option ρ) (ks : List Int) (hk : ks.length ≤ 40) : ∀ (M j : Nat) (pre : List (Int × Int × List Int)) (p : Int × Int × List Int), pre.length = j → j ≤ ks.length → ks.length - j < M →
    Z12L N (fun a => Z14 N a kr) kr M (pre ++ [p]) ks (ks.length : Int) (j : Int) p.1 p.2.1 p.2.2 = if (walkK impl_MutateMatrix.g p (ks.drop j)).2 = true then kr (pre ++ (walkK impl_MutateMatrix.g p (ks.drop j)).1) true else kr [] false := by
  intro M
  induction M with
  | zero => intro j _ _ _ _ h; omega
  | succ M ih =>
    intro j pre p hp hj hM
    simp only [Z12L, Z13]
    by_cases h : j < ks.length
    · have hv : impl_MutateMatrix.g (p.1, (p.2.1, p.2.2)) (ks.getD j 0) = impl_MutateMatrix.g p (ks.getD j 0) := rfl
      rw [ct (dt (by omega)), ct (inB_nat h)]
      simp only [Int.toNat_natCast, hv]
      rw [drop_getD 0 h, walkK, w64_succ (by rw [maxLen_val]; omega)]
      cases hb : (impl_MutateMatrix.g p (ks.getD j 0)).2
      · rw [ct' (by rw [lk_eq]; rfl), if_neg (by simp)]
      · rw [cf' (by rw [lk_eq]; rfl), if_pos rfl, ct (by rw [Nat.blt_eq]; simp; omega)]
        rw [ih (j + 1) (pre ++ [p]) _ (by simp; omega) h (by omega)]
        cases hc : (walkK impl_MutateMatrix.g (impl_MutateMatrix.g p (ks.getD j 0)).1 (ks.drop (j + 1))).2
        · simp
        · simp
    · rw [cf (df (by omega)), List.drop_of_length_le (by omega), walkK, if_pos rfl]; rfl
theorem ok : Spec := fun m ks hb hv => ⟨ks.length + 10, fun N hN => by
  have e0 : impl_PrincipalMatrix.g (m.1, (m.2.1, m.2.2)) = impl_PrincipalMatrix.g m := rfl
  simp only [Z0, Z1, Z2, Z3, e0, g, lk_eq, Z4, Z5]
  cases h1 : (impl_PrincipalMatrix.g m).2
  · rfl
  by_cases h2 : (ks.length : Int) ≤ 40
  · rw [df (show ¬ (40 : Int) < ks.length by omega), dt h2]
    simp only [Bool.not_true, cond_false, Z6, Z7, Z8, Z9, Z10, Z11, Z12]
    have := loop (ρ := Unit × List (Int × Int × List Int) × Bool × Unit) N (fun t4 t5 => some ((), (t4, (t5, ())))) ks (by omega) N 0 [] (impl_PrincipalMatrix.g m).1 rfl (by omega) (by omega)
    rw [show ((0 : Nat) : Int) = 0 from rfl, List.drop_zero] at this
    refine this.trans ?_
    simp only [Bool.and_true, if_true, List.nil_append]
    generalize impl_MutateMatrix.g = f
    cases hw : walkK f (impl_PrincipalMatrix.g m).1 ks with
    | mk a b =>
      cases b
      · have : a = [] := by
          cases ks with
          | nil => rw [walkK] at hw; cases hw
          | cons k ks =>
            rw [walkK] at hw
            split at hw
            · split at hw
              · cases hw
              · cases hw; rfl
            · cases hw; rfl
        subst this
        rfl
      · rfl
  · rw [dt (show (40 : Int) < ks.length by omega), df h2]; rfl⟩
theorem dim_f {m : Int × Int × List Int} {k : Int} (h : (impl_MutateMatrix.g m k).2 = true) : dimK (impl_MutateMatrix.g m k).1 = true ∧ (impl_MutateMatrix.g m k).1.1 = m.1 := by
  unfold impl_MutateMatrix.g at h ⊢
  split
  · rename_i hc
    simp only [Bool.and_eq_true] at hc
    exact ⟨dim_mut (shaped_dim hc.1.1) _, rfl⟩
  · rename_i hc
    rw [if_neg hc] at h; cases h
theorem last {m : Int × Int × List Int} {ks : List Int} (h : (g m ks).2 = true) : (g m ks).1.length = ks.length + 1 ∧ dimK ((g m ks).1.getD ks.length (0, (0, []))) = true ∧ ((g m ks).1.getD ks.length (0, (0, []))).1 = m.1 ∧ ks.length ≤ 40 ∧ dimK m = true := by
  unfold g at h ⊢
  split
  · rename_i hc
    rw [if_pos hc] at h
    rw [Bool.and_eq_true, decide_eq_true_eq] at hc
    obtain ⟨hc, hk⟩ := hc
    unfold impl_PrincipalMatrix.g at hc h ⊢
    split
    · rename_i hq
      rw [if_pos hq] at h
      simp only [Bool.and_eq_true, decide_eq_true_eq] at hq
      have hd := shaped_dim hq.1.1
      obtain ⟨h1, h2, h3⟩ := walk_last (fun m k h => dim_f h) ks (princK m) (dim_princ hd hq.2.1 hq.2.2) h
      exact ⟨h1, h2, h3, by omega, hd⟩
    · rename_i hq
      rw [if_neg hq] at hc; cases hc
  · rename_i hc
    rw [if_neg hc] at h; cases h

end impl_walk
end
end Go.Fw
set_option linter.unusedVariables false
set_option linter.unusedSimpArgs false
set_option maxRecDepth 100000
namespace Go.Fw
noncomputable section
namespace spec_l4Square
def g (m : Int × Int × List Int) : Bool := (sizesK m && !decide (facK m = [])) && (decide (m.2.1 = m.1) && decide (2 * m.1 ≤ 8))
end spec_l4Square
namespace spec_l4Square
def Z0 {ρ : Type} (N : Nat) (m0 : Int × Int × List Int) (kr : Bool → Option ρ) : Option ρ :=
 cond (lk N ((spec_MatrixOk.g m0)))
 (
  cond (lk N (decide (m0.2.1 = m0.1)))
  (
   kr (lk N (decide ((w64 (2 * m0.1)) ≤ 8))))
  (
   kr false))
 (
  kr false)
def Spec : Prop := ∀  (m0 : Int × Int × List Int), Ty.bd (.pair (.int .i64) (.pair (.int .i64) (.sl 0 (.int .i64)))) m0 → ∃ N0, ∀ N, N0 ≤ N → Z0 N m0 (fun t2 => some ((), (t2, ()))) = some ((), ((g m0), ()))

theorem ok : Spec := fun m hb => ⟨0, fun N hN => by
  simp only [Z0, lk_eq, g, spec_MatrixOk.g]
  cases h1 : (sizesK m && !decide (facK m = []))
  · rfl
  have hs : sizesK m = true := by
    simp only [Bool.and_eq_true] at h1
    exact h1.1
  obtain ⟨n, r, hn, hr, hn1, hn5, hnr, hr8, hl⟩ := dim_nat (shaped_dim (sizes_shaped hs))
  rw [w64_id (by omega) (by omega)]
  cases decide (m.2.1 = m.1) <;> rfl⟩

end spec_l4Square
end
end Go.Fw
set_option linter.unusedVariables false
set_option linter.unusedSimpArgs false
set_option maxRecDepth 100000
namespace Go.Fw
noncomputable section
namespace spec_l1Principal
def P (m : Int × Int × List Int) : Bool := dimK m
def g (m : Int × Int × List Int) : Int × Int × List Int := princK m
end spec_l1Principal
namespace spec_l1Principal
def Z1 {ρ : Type} (N : Nat) (m0 : Int × Int × List Int) (kn : Int → Int → List Int → Int → Int → Option ρ) : Option ρ :=
 kn m0.1 m0.2.1 m0.2.2 0 0
def Z3 {ρ : Type} (N : Nat) (m1_0 : Int) (m1_1 : Int) (m1_2 : List Int) (t2_0 : Int) (t2_1 : Int) (kn : List Int → Int → Int → List Int → Int → Int → Int → Int → Option ρ) : Option ρ :=
 cond (lk N (spec_l1CopyMatrix.P (m1_0, (m1_1, m1_2)))) (
  kn (spec_l1CopyMatrix.g (m1_0, (m1_1, m1_2))).2.2 m1_0 m1_1 m1_2 t2_0 t2_1 (spec_l1CopyMatrix.g (m1_0, (m1_1, m1_2))).1 (spec_l1CopyMatrix.g (m1_0, (m1_1, m1_2))).2.1) none
def Z5 {ρ : Type} (N : Nat) (out3_2 : List Int) (m1_0 : Int) (m1_1 : Int) (m1_2 : List Int) (t2_0 : Int) (t2_1 : Int) (out3_0 : Int) (out3_1 : Int) (kn : List Int → Int → Int → List Int → Int → Int → Int → Int → Option ρ) : Option ρ :=
 kn out3_2 m1_0 m1_1 m1_2 t2_0 t2_1 out3_0 (w64 (2 * m1_0))
def Z8 {ρ : Type} (N : Nat) (out3_2 : List Int) (m1_0 : Int) (m1_1 : Int) (m1_2 : List Int) (t2_0 : Int) (t2_1 : Int) (out3_0 : Int) (out3_1 : Int) (kn : List Int → Int → Int → Int → List Int → Int → Int → Int → Int → Option ρ) : Option ρ :=
 kn out3_2 0 m1_0 m1_1 m1_2 t2_0 t2_1 out3_0 out3_1
def Z11 {ρ : Type} (N : Nat) (out3_2 : List Int) (i4 : Int) (m1_0 : Int) (m1_1 : Int) (m1_2 : List Int) (t2_0 : Int) (t2_1 : Int) (out3_0 : Int) (out3_1 : Int) (kn : List Int → Int → Int → Int → List Int → Int → Int → Int → Int → Option ρ) (k0 : List Int → Int → Int → Int → Int → Option ρ) : Option ρ :=
 cond (lk N (decide (i4 < m1_0)))
 (
  cond (lk N (leB 0 m1_0 && decide (m1_0 < 1099511627776))) (
   cond (lk N (inB i4 (List.replicate m1_0.toNat (0 : Int)).length)) (
    cond (lk N (Nat.blt (out3_2.length + ((List.replicate m1_0.toNat (0 : Int)).set i4.toNat 1).length) 1099511627776)) (
     kn (out3_2 ++ ((List.replicate m1_0.toNat (0 : Int)).set i4.toNat 1)) (w64 (i4 + 1)) m1_0 m1_1 m1_2 t2_0 t2_1 out3_0 out3_1) none) none) none)
 (
  k0 out3_2 t2_0 t2_1 out3_0 out3_1)
def Z10L {ρ : Type} (N : Nat) (k0 : List Int → Int → Int → Int → Int → Option ρ) : Nat → List Int → Int → Int → Int → List Int → Int → Int → Int → Int → Option ρ
  | 0, _, _, _, _, _, _, _, _, _ => none
  | M + 1, out3_2, i4, m1_0, m1_1, m1_2, t2_0, t2_1, out3_0, out3_1 => Z11 N out3_2 i4 m1_0 m1_1 m1_2 t2_0 t2_1 out3_0 out3_1 (fun out3_2 i4 m1_0 m1_1 m1_2 t2_0 t2_1 out3_0 out3_1 => Z10L N k0 M out3_2 i4 m1_0 m1_1 m1_2 t2_0 t2_1 out3_0 out3_1) k0
def Z10 {ρ : Type} (N : Nat) (out3_2 : List Int) (i4 : Int) (m1_0 : Int) (m1_1 : Int) (m1_2 : List Int) (t2_0 : Int) (t2_1 : Int) (out3_0 : Int) (out3_1 : Int) (k0 : List Int → Int → Int → Int → Int → Option ρ) : Option ρ := Z10L N k0 N out3_2 i4 m1_0 m1_1 m1_2 t2_0 t2_1 out3_0 out3_1
def Z9 {ρ : Type} (N : Nat) (out3_2 : List Int) (i4 : Int) (m1_0 : Int) (m1_1 : Int) (m1_2 : List Int) (t2_0 : Int) (t2_1 : Int) (out3_0 : Int) (out3_1 : Int) (kn : List Int → Int → Int → Int → Int → Option ρ) : Option ρ := Z10 N out3_2 i4 m1_0 m1_1 m1_2 t2_0 t2_1 out3_0 out3_1 kn
def Z7 {ρ : Type} (N : Nat) (out3_2 : List Int) (m1_0 : Int) (m1_1 : Int) (m1_2 : List Int) (t2_0 : Int) (t2_1 : Int) (out3_0 : Int) (out3_1 : Int) (kn : List Int → Int → Int → Int → Int → Option ρ) : Option ρ := Z8 N out3_2 m1_0 m1_1 m1_2 t2_0 t2_1 out3_0 out3_1 (fun out3_2 i4 m1_0 m1_1 m1_2 t2_0 t2_1 out3_0 out3_1 => Z9 N out3_2 i4 m1_0 m1_1 m1_2 t2_0 t2_1 out3_0 out3_1 kn)
def Z12 {ρ : Type} (N : Nat) (out3_2 : List Int) (t2_0 : Int) (t2_1 : Int) (out3_0 : Int) (out3_1 : Int) (kr : List Int → Int → Int → Option ρ) : Option ρ :=
 kr out3_2 out3_0 out3_1
def Z6 {ρ : Type} (N : Nat) (out3_2 : List Int) (m1_0 : Int) (m1_1 : Int) (m1_2 : List Int) (t2_0 : Int) (t2_1 : Int) (out3_0 : Int) (out3_1 : Int) (kr : List Int → Int → Int → Option ρ) : Option ρ := Z7 N out3_2 m1_0 m1_1 m1_2 t2_0 t2_1 out3_0 out3_1 (fun out3_2 t2_0 t2_1 out3_0 out3_1 => Z12 N out3_2 t2_0 t2_1 out3_0 out3_1 kr)
def Z4 {ρ : Type} (N : Nat) (out3_2 : List Int) (m1_0 : Int) (m1_1 : Int) (m1_2 : List Int) (t2_0 : Int) (t2_1 : Int) (out3_0 : Int) (out3_1 : Int) (kr : List Int → Int → Int → Option ρ) : Option ρ := Z5 N out3_2 m1_0 m1_1 m1_2 t2_0 t2_1 out3_0 out3_1 (fun out3_2 m1_0 m1_1 m1_2 t2_0 t2_1 out3_0 out3_1 => Z6 N out3_2 m1_0 m1_1 m1_2 t2_0 t2_1 out3_0 out3_1 kr)
def Z2 {ρ : Type} (N : Nat) (m1_0 : Int) (m1_1 : Int) (m1_2 : List Int) (t2_0 : Int) (t2_1 : Int) (kr : List Int → Int → Int → Option ρ) : Option ρ := Z3 N m1_0 m1_1 m1_2 t2_0 t2_1 (fun out3_2 m1_0 m1_1 m1_2 t2_0 t2_1 out3_0 out3_1 => Z4 N out3_2 m1_0 m1_1 m1_2 t2_0 t2_1 out3_0 out3_1 kr)
def Z0 {ρ : Type} (N : Nat) (m0 : Int × Int × List Int) (kr : List Int → Int → Int → Option ρ) : Option ρ := Z1 N m0 (fun m1_0 m1_1 m1_2 t2_0 t2_1 => Z2 N m1_0 m1_1 m1_2 t2_0 t2_1 kr)
def Spec : Prop := ∀  (m0 : Int × Int × List Int), Ty.bd (.pair (.int .i64) (.pair (.int .i64) (.sl 0 (.int .i64)))) m0 → P m0 = true → ∃ N0, ∀ N, N0 ≤ N → Z0 N m0 (fun t2_2 t2_0 t2_1 => some ((), ((t2_0, (t2_1, t2_2)), ()))) = some ((), ((g m0), ()))

theorem loop {ρ : Type} {N : Nat} {m : Int × Int × List Int} (hd : dimK m = true) (k0 : List Int → Int → Int → Int → Int → Option ρ) (t0 t1 o0 o1 : Int) : ∀ (M i : Nat), i ≤ m.1.toNat → m.1.toNat - i < M →
    Z10L N k0 M (m.2.2 ++ rowsU m.1.toNat i) (i : Int) m.1 m.2.1 m.2.2 t0 t1 o0 o1 = k0 (m.2.2 ++ rowsU m.1.toNat m.1.toNat) t0 t1 o0 o1 := by
  obtain ⟨n, r, hn, hr, hn1, hn5, hnr, hr8, hl⟩ := dim_nat hd
  intro M
  induction M with
  | zero => intro i _ h; omega
  | succ M ih =>
    intro i hi hM
    simp only [Z10L, Z11]
    by_cases h : i < m.1.toNat
    · have hlen := princ_len hd i (by omega)
      rw [ct (dt (by omega)), ct (by rw [leB_t (by omega), dt (by omega)]; rfl), ct (inB_nat (by rw [List.length_replicate]; exact h))]
      rw [Int.toNat_natCast, set_row h]
      rw [ct (by rw [Nat.blt_eq, rowU_len]; omega), List.append_assoc, w64_succ (by rw [maxLen_val]; omega)]
      exact ih (i + 1) h (by omega)
    · rw [cf (df (by omega)), show i = m.1.toNat by omega]
theorem ok : Spec := fun m hb hp => ⟨10, fun N hN => by
  have hd : dimK m = true := hp
  obtain ⟨n, r, hn, hr, hn1, hn5, hnr, hr8, hl⟩ := dim_nat hd
  have hlen := dim_len hd
  simp only [Z0, Z1, Z2, Z3]
  rw [ct (show spec_l1CopyMatrix.P (m.1, (m.2.1, m.2.2)) = true from dt (show m.2.2.length < 1099511627776 by omega))]
  simp only [Z4, Z5, Z6, Z7, Z8, Z9, Z10]
  have := loop (ρ := Unit × (Int × Int × List Int) × Unit) (N := N) hd (fun out3_2 t2_0 t2_1 out3_0 out3_1 => Z12 N out3_2 t2_0 t2_1 out3_0 out3_1 (fun t2_2 t2_0 t2_1 => some ((), ((t2_0, (t2_1, t2_2)), ())))) 0 0 m.1 (w64 (2 * m.1)) N 0 (by omega) (by omega)
  rw [rowsU, List.append_nil] at this
  refine this.trans ?_
  simp only [Z12, g, princK]
  rw [w64_id (by omega) (by omega)]⟩

end spec_l1Principal
end
end Go.Fw
set_option linter.unusedVariables false
set_option linter.unusedSimpArgs false
set_option maxRecDepth 100000
namespace Go.Fw
noncomputable section
namespace spec_l4Along
def g (m : Int × Int × List Int) (ks : List Int) : List (Int × Int × List Int) × Bool :=
  if (((sizesK m && !decide (facK m = [])) && (decide (m.2.1 = m.1) && decide (2 * m.1 ≤ 8))) && decide ((ks.length : Int) ≤ 40)) = true then walkK mutG (princK m) ks else ([], false)
end spec_l4Along
namespace spec_l4Along
def Z1 {ρ : Type} (N : Nat) (m0 : Int × Int × List Int) (ks1 : List Int) (kn : List Int → Int → Int → List Int → Option ρ) : Option ρ :=
 kn ks1 m0.1 m0.2.1 m0.2.2
def Z3 {ρ : Type} (N : Nat) (ks1 : List Int) (m2_0 : Int) (m2_1 : Int) (m2_2 : List Int) (kn : List Int → Int → Int → List Int → Option ρ) (kr : (List (Int × Int × List Int)) → Bool → Option ρ) : Option ρ :=
 cond (!(lk N ((spec_l4Square.g (m2_0, (m2_1, m2_2))))))
 (
  kr ([] : List (Int × Int × List Int)) false)
 (
  cond (lk N (decide (40 < (ks1.length : Int))))
  (
   kr ([] : List (Int × Int × List Int)) false)
  (
   kn ks1 m2_0 m2_1 m2_2))
def Z5 {ρ : Type} (N : Nat) (ks1 : List Int) (m2_0 : Int) (m2_1 : Int) (m2_2 : List Int) (kn : (List (Int × Int × List Int)) → List Int → Option ρ) : Option ρ :=
 cond (lk N (spec_l1Principal.P (m2_0, (m2_1, m2_2)))) (
  kn ([(spec_l1Principal.g (m2_0, (m2_1, m2_2)))] : List (Int × Int × List Int)) ks1) none
def Z8 {ρ : Type} (N : Nat) (out6 : List (Int × Int × List Int)) (ks1 : List Int) (kn : (List (Int × Int × List Int)) → List Int → Int → Option ρ) : Option ρ :=
 kn out6 ks1 0
def Z11 {ρ : Type} (N : Nat) (out6 : List (Int × Int × List Int)) (ks1 : List Int) (i7 : Int) (kn : (List (Int × Int × List Int)) → List Int → Int → Option ρ) (k0 : (List (Int × Int × List Int)) → Option ρ) (kr : (List (Int × Int × List Int)) → Bool → Option ρ) : Option ρ :=
 cond (lk N (decide (i7 < (ks1.length : Int))))
 (
  cond (lk N (inB i7 out6.length)) (
   cond (lk N (inB i7 ks1.length)) (
    both (
     cond (!(lk N ((spec_MutateMatrix.g (out6.getD i7.toNat (0, (0, []))) (ks1.getD i7.toNat 0)).2)))
     (
      kr ([] : List (Int × Int × List Int)) false)
     (
      cond (lk N (Nat.blt (out6.length + ([(spec_MutateMatrix.g (out6.getD i7.toNat (0, (0, []))) (ks1.getD i7.toNat 0)).1] : List (Int × Int × List Int)).length) 1099511627776)) (
       kn (out6 ++ ([(spec_MutateMatrix.g (out6.getD i7.toNat (0, (0, []))) (ks1.getD i7.toNat 0)).1] : List (Int × Int × List Int))) ks1 (w64 (i7 + 1))) none))
    (
     cond (!(lk N ((spec_MutateMatrix.g (out6.getD i7.toNat (0, (0, []))) (ks1.getD i7.toNat 0)).2)))
     (
      kr ([] : List (Int × Int × List Int)) false)
     (
      cond (lk N (Nat.blt (out6.length + ([(spec_MutateMatrix.g (out6.getD i7.toNat (0, (0, []))) (ks1.getD i7.toNat 0)).1] : List (Int × Int × List Int)).length) 1099511627776)) (
       kn (out6 ++ ([(spec_MutateMatrix.g (out6.getD i7.toNat (0, (0, []))) (ks1.getD i7.toNat 0)).1] : List (Int × Int × List Int))) ks1 (w64 (i7 + 1))) none))) none) none)
 (
  k0 out6)
def Z10L {ρ : Type} (N : Nat) (k0 : (List (Int × Int × List Int)) → Option ρ) (kr : (List (Int × Int × List Int)) → Bool → Option ρ) : Nat → (List (Int × Int × List Int)) → List Int → Int → Option ρ
  | 0, _, _, _ => none
  | M + 1, out6, ks1, i7 => Z11 N out6 ks1 i7 (fun out6 ks1 i7 => Z10L N k0 kr M out6 ks1 i7) k0 kr
def Z10 {ρ : Type} (N : Nat) (out6 : List (Int × Int × List Int)) (ks1 : List Int) (i7 : Int) (k0 : (List (Int × Int × List Int)) → Option ρ) (kr : (List (Int × Int × List Int)) → Bool → Option ρ) : Option ρ := Z10L N k0 kr N out6 ks1 i7
def Z9 {ρ : Type} (N : Nat) (out6 : List (Int × Int × List Int)) (ks1 : List Int) (i7 : Int) (kn : (List (Int × Int × List Int)) → Option ρ) (kr : (List (Int × Int × List Int)) → Bool → Option ρ) : Option ρ := Z10 N out6 ks1 i7 kn kr
def Z7 {ρ : Type} (N : Nat) (out6 : List (Int × Int × List Int)) (ks1 : List Int) (kn : (List (Int × Int × List Int)) → Option ρ) (kr : (List (Int × Int × List Int)) → Bool → Option ρ) : Option ρ := Z8 N out6 ks1 (fun out6 ks1 i7 => Z9 N out6 ks1 i7 kn kr)
def Z12 {ρ : Type} (N : Nat) (out6 : List (Int × Int × List Int)) (kr : (List (Int × Int × List Int)) → Bool → Option ρ) : Option ρ :=
 kr out6 true
def Z6 {ρ : Type} (N : Nat) (out6 : List (Int × Int × List Int)) (ks1 : List Int) (kr : (List (Int × Int × List Int)) → Bool → Option ρ) : Option ρ := Z7 N out6 ks1 (fun out6 => Z12 N out6 kr) kr
def Z4 {ρ : Type} (N : Nat) (ks1 : List Int) (m2_0 : Int) (m2_1 : Int) (m2_2 : List Int) (kr : (List (Int × Int × List Int)) → Bool → Option ρ) : Option ρ := Z5 N ks1 m2_0 m2_1 m2_2 (fun out6 ks1 => Z6 N out6 ks1 kr)
def Z2 {ρ : Type} (N : Nat) (ks1 : List Int) (m2_0 : Int) (m2_1 : Int) (m2_2 : List Int) (kr : (List (Int × Int × List Int)) → Bool → Option ρ) : Option ρ := Z3 N ks1 m2_0 m2_1 m2_2 (fun ks1 m2_0 m2_1 m2_2 => Z4 N ks1 m2_0 m2_1 m2_2 kr) kr
def Z0 {ρ : Type} (N : Nat) (m0 : Int × Int × List Int) (ks1 : List Int) (kr : (List (Int × Int × List Int)) → Bool → Option ρ) : Option ρ := Z1 N m0 ks1 (fun ks1 m2_0 m2_1 m2_2 => Z2 N ks1 m2_0 m2_1 m2_2 kr)
def Spec : Prop := ∀  (m0 : Int × Int × List Int) (ks1 : List Int), Ty.bd (.pair (.int .i64) (.pair (.int .i64) (.sl 0 (.int .i64)))) m0 → Ty.bd (.sl 0 (.int .i64)) ks1 → ∃ N0, ∀ N, N0 ≤ N → Z0 N m0 ks1 (fun t4 t5 => some ((), (t4, (t5, ())))) = some ((), ((g m0 ks1).1, ((g m0 ks1).2, ())))

theorem loop {ρ : Type} (N : Nat) (kr : List (Int × Int × List Int) → Bool → Option ρ) (ks : List Int) (hk : ks.length ≤ 40) : ∀ (M j : Nat) (pre : List (Int × Int × List Int)) (p : Int × Int × List Int), pre.length = j → j ≤ ks.length → ks.length - j < M →
    Z10L N (fun a => Z12 N a kr) kr M (pre ++ [p]) ks (j : Int) = if (walkK mutG p (ks.drop j)).2 = true then kr (pre ++ (walkK mutG p (ks.drop j)).1) true else kr [] false := by
  intro M
  induction M with
  | zero => intro j _ _ _ _ h; omega
  | succ M ih =>
    intro j pre p hp hj hM
    simp only [Z10L, Z11]
    by_cases h : j < ks.length
    · have hg : (pre ++ [p]).getD j (0, (0, [])) = p := by
        rw [List.getD_eq_getElem?_getD, List.getElem?_append_right (by omega), ← hp]; simp
      have hv : spec_MutateMatrix.g p (ks.getD j 0) = mutG p (ks.getD j 0) := rfl
      rw [ct (dt (by omega)), ct (inB_nat (by simp; omega)), ct (inB_nat h), both_self]
      simp only [Int.toNat_natCast, hg, hv]
      rw [drop_getD 0 h, walkK, w64_succ (by rw [maxLen_val]; omega)]
      cases hb : (mutG p (ks.getD j 0)).2
      · rw [ct' (by rw [lk_eq]; rfl), if_neg (by simp)]
      · rw [cf' (by rw [lk_eq]; rfl), if_pos rfl, ct (by rw [Nat.blt_eq]; simp; omega)]
        rw [ih (j + 1) (pre ++ [p]) _ (by simp; omega) h (by omega)]
        cases hc : (walkK mutG (mutG p (ks.getD j 0)).1 (ks.drop (j + 1))).2
        · simp
        · simp
    · rw [cf (df (by omega)), List.drop_of_length_le (by omega), walkK, if_pos rfl]; rfl
theorem ok : Spec := fun m ks hb hv => ⟨ks.length + 10, fun N hN => by
  have e0 : spec_l4Square.g (m.1, (m.2.1, m.2.2)) = ((sizesK m && !decide (facK m = [])) && (decide (m.2.1 = m.1) && decide (2 * m.1 ≤ 8))) := rfl
  simp only [Z0, Z1, Z2, Z3, e0, g, lk_eq]
  cases h1 : ((sizesK m && !decide (facK m = [])) && (decide (m.2.1 = m.1) && decide (2 * m.1 ≤ 8)))
  · rfl
  have hs : sizesK m = true := by
    simp only [Bool.and_eq_true] at h1
    exact h1.1.1
  have hd := shaped_dim (sizes_shaped hs)
  by_cases h2 : (ks.length : Int) ≤ 40
  · rw [df (show ¬ (40 : Int) < ks.length by omega), dt h2]
    simp only [Bool.not_true, cond_false, Z4, Z5]
    rw [ct (show spec_l1Principal.P (m.1, (m.2.1, m.2.2)) = true from hd)]
    simp only [Z6, Z7, Z8, Z9, Z10]
    have := loop (ρ := Unit × List (Int × Int × List Int) × Bool × Unit) N (fun t4 t5 => some ((), (t4, (t5, ())))) ks (by omega) N 0 [] (princK m) rfl (by omega) (by omega)
    rw [show ((0 : Nat) : Int) = 0 from rfl, List.drop_zero] at this
    refine this.trans ?_
    simp only [Bool.and_true, if_true, List.nil_append]
    cases hw : walkK mutG (princK m) ks with
    | mk a b =>
      cases b
      · have : a = [] := by
          cases ks with
          | nil => rw [walkK] at hw; cases hw
          | cons k ks =>
            rw [walkK] at hw
            split at hw
            · split at hw
              · cases hw
              · cases hw; rfl
            · cases hw; rfl
        subst this
        rfl
      · rfl
  · rw [dt (show (40 : Int) < ks.length by omega), df h2]; rfl⟩
theorem last {m : Int × Int × List Int} {ks : List Int} (h : (g m ks).2 = true) : (g m ks).1.length = ks.length + 1 ∧ dimK ((g m ks).1.getD ks.length (0, (0, []))) = true ∧ ((g m ks).1.getD ks.length (0, (0, []))).1 = m.1 ∧ ks.length ≤ 40 ∧ dimK m = true := by
  unfold g at h ⊢
  split
  · rename_i hc
    rw [if_pos hc] at h
    simp only [Bool.and_eq_true, decide_eq_true_eq] at hc
    have hd := shaped_dim (sizes_shaped hc.1.1.1)
    obtain ⟨h1, h2, h3⟩ := walk_last (fun m k h => dim_mutG h) ks (princK m) (dim_princ hd hc.1.2.1 hc.1.2.2) h
    exact ⟨h1, h2, h3, by omega, hd⟩
  · rename_i hc
    rw [if_neg hc] at h; cases h

end spec_l4Along
end
end Go.Fw
/-! Both programs walk alike. -/
set_option linter.unusedVariables false
namespace Go.Fw
theorem walk_alike (m : Int × Int × List Int) (ks : List Int) : impl_walk.g m ks = spec_l4Along.g m ks := by
  unfold impl_walk.g spec_l4Along.g impl_PrincipalMatrix.g
  rw [impl_mutG, ok_alike]
  cases ((sizesK m && !decide (facK m = [])) && (decide (m.2.1 = m.1) && decide (2 * m.1 ≤ 8))) <;> rfl
end Go.Fw
set_option linter.unusedVariables false
set_option linter.unusedSimpArgs false
set_option maxRecDepth 100000
namespace Go.Fw
noncomputable section
namespace spec_l4Lower
def P (m : Int × Int × List Int) : Bool := dimK m
def g (m : Int × Int × List Int) : List (List Int) := lowK m
end spec_l4Lower
namespace spec_l4Lower
def Z1 {ρ : Type} (N : Nat) (m0 : Int × Int × List Int) (kn : Int → Int → List Int → Option ρ) : Option ρ :=
 kn m0.1 m0.2.1 m0.2.2
def Z3 {ρ : Type} (N : Nat) (m1_0 : Int) (m1_1 : Int) (m1_2 : List Int) (kn : List (List Int) → Int → Int → List Int → Option ρ) : Option ρ :=
 kn ([] : List (List Int)) m1_0 m1_1 m1_2
def Z6 {ρ : Type} (N : Nat) (out3 : List (List Int)) (m1_0 : Int) (m1_1 : Int) (m1_2 : List Int) (kn : List (List Int) → Int → Int → Int → List Int → Option ρ) : Option ρ :=
 kn out3 m1_0 m1_0 m1_1 m1_2
def Z9 {ρ : Type} (N : Nat) (out3 : List (List Int)) (i4 : Int) (m1_0 : Int) (m1_1 : Int) (m1_2 : List Int) (kn : List (List Int) → Int → Int → Int → List Int → Option ρ) (k0 : List (List Int) → Option ρ) : Option ρ :=
 cond (lk N (decide (i4 < m1_1)))
 (
  cond (lk N (leB 0 (w64 (i4 * m1_0)) && (leB (w64 (i4 * m1_0)) (w64 ((w64 (i4 * m1_0)) + m1_0)) && leB (w64 ((w64 (i4 * m1_0)) + m1_0)) m1_2.length))) (
   cond (lk N (spec_l1Ints.P ((m1_2.drop (w64 (i4 * m1_0)).toNat).take ((w64 ((w64 (i4 * m1_0)) + m1_0)) - (w64 (i4 * m1_0))).toNat))) (
    cond (lk N (Nat.blt (out3.length + ([(spec_l1Ints.g ((m1_2.drop (w64 (i4 * m1_0)).toNat).take ((w64 ((w64 (i4 * m1_0)) + m1_0)) - (w64 (i4 * m1_0))).toNat))] : List (List Int)).length) 1099511627776)) (
     kn (out3 ++ ([(spec_l1Ints.g ((m1_2.drop (w64 (i4 * m1_0)).toNat).take ((w64 ((w64 (i4 * m1_0)) + m1_0)) - (w64 (i4 * m1_0))).toNat))] : List (List Int))) (w64 (i4 + 1)) m1_0 m1_1 m1_2) none) none) none)
 (
  k0 out3)
def Z8L {ρ : Type} (N : Nat) (k0 : List (List Int) → Option ρ) : Nat → List (List Int) → Int → Int → Int → List Int → Option ρ
  | 0, _, _, _, _, _ => none
  | M + 1, out3, i4, m1_0, m1_1, m1_2 => Z9 N out3 i4 m1_0 m1_1 m1_2 (fun out3 i4 m1_0 m1_1 m1_2 => Z8L N k0 M out3 i4 m1_0 m1_1 m1_2) k0
def Z8 {ρ : Type} (N : Nat) (out3 : List (List Int)) (i4 : Int) (m1_0 : Int) (m1_1 : Int) (m1_2 : List Int) (k0 : List (List Int) → Option ρ) : Option ρ := Z8L N k0 N out3 i4 m1_0 m1_1 m1_2
def Z7 {ρ : Type} (N : Nat) (out3 : List (List Int)) (i4 : Int) (m1_0 : Int) (m1_1 : Int) (m1_2 : List Int) (kn : List (List Int) → Option ρ) : Option ρ := Z8 N out3 i4 m1_0 m1_1 m1_2 kn
def Z5 {ρ : Type} (N : Nat) (out3 : List (List Int)) (m1_0 : Int) (m1_1 : Int) (m1_2 : List Int) (kn : List (List Int) → Option ρ) : Option ρ := Z6 N out3 m1_0 m1_1 m1_2 (fun out3 i4 m1_0 m1_1 m1_2 => Z7 N out3 i4 m1_0 m1_1 m1_2 kn)
def Z10 {ρ : Type} (N : Nat) (out3 : List (List Int)) (kr : List (List Int) → Option ρ) : Option ρ :=
 kr out3
def Z4 {ρ : Type} (N : Nat) (out3 : List (List Int)) (m1_0 : Int) (m1_1 : Int) (m1_2 : List Int) (kr : List (List Int) → Option ρ) : Option ρ := Z5 N out3 m1_0 m1_1 m1_2 (fun out3 => Z10 N out3 kr)
def Z2 {ρ : Type} (N : Nat) (m1_0 : Int) (m1_1 : Int) (m1_2 : List Int) (kr : List (List Int) → Option ρ) : Option ρ := Z3 N m1_0 m1_1 m1_2 (fun out3 m1_0 m1_1 m1_2 => Z4 N out3 m1_0 m1_1 m1_2 kr)
def Z0 {ρ : Type} (N : Nat) (m0 : Int × Int × List Int) (kr : List (List Int) → Option ρ) : Option ρ := Z1 N m0 (fun m1_0 m1_1 m1_2 => Z2 N m1_0 m1_1 m1_2 kr)
def Spec : Prop := ∀  (m0 : Int × Int × List Int), Ty.bd (.pair (.int .i64) (.pair (.int .i64) (.sl 0 (.int .i64)))) m0 → P m0 = true → ∃ N0, ∀ N, N0 ≤ N → Z0 N m0 (fun t2 => some ((), (t2, ()))) = some ((), ((g m0), ()))

theorem loop {ρ : Type} {N : Nat} {m : Int × Int × List Int} (hd : dimK m = true) (k0 : List (List Int) → Option ρ) : ∀ (M t : Nat), t ≤ m.2.1.toNat - m.1.toNat → m.2.1.toNat - m.1.toNat - t < M →
    Z8L N k0 M ((lowK m).take t) ((m.1.toNat + t : Nat) : Int) m.1 m.2.1 m.2.2 = k0 (lowK m) := by
  obtain ⟨n, r, hn, hr, hn1, hn5, hnr, hr8, hl⟩ := dim_nat hd
  have hcl : (lowK m).length = m.2.1.toNat - m.1.toNat := by simp [lowK]
  intro M
  induction M with
  | zero => intro t _ h; omega
  | succ M ih =>
    intro t ht hM
    simp only [Z8L, Z9]
    by_cases h : t < m.2.1.toNat - m.1.toNat
    · have ha : (lowK m).take t ++ [rowK m (m.1.toNat + t)] = (lowK m).take (t + 1) := car_take (fun t => rowK m (m.1.toNat + t)) h
      have e : ((m.1.toNat + t : Nat) : Int) * m.1 = (((m.1.toNat + t) * m.1.toNat : Nat) : Int) := by rw [Int.natCast_mul, hn]; simp
      have hb1 : (m.1.toNat + t) * m.1.toNat ≤ 8 * 5 := Nat.mul_le_mul (by omega) (by omega)
      have hb2 : (m.1.toNat + t) * m.1.toNat + m.1.toNat ≤ m.2.2.length := by
        have := Nat.mul_le_mul_right n (show m.1.toNat + t + 1 ≤ r by omega)
        rw [Nat.add_mul, Nat.one_mul] at this
        rw [hl, show m.1.toNat = n by omega]
        rw [show m.1.toNat = n by omega] at this
        exact this
      have e1 : w64 ((((m.1.toNat + t) * m.1.toNat : Nat) : Int)) = (((m.1.toNat + t) * m.1.toNat : Nat) : Int) := w64_id (by omega) (by omega)
      have e2 : w64 ((((m.1.toNat + t) * m.1.toNat : Nat) : Int) + m.1) = (((m.1.toNat + t) * m.1.toNat : Nat) : Int) + m.1 := w64_id (by omega) (by omega)
      have hsl : (m.2.2.drop ((((m.1.toNat + t) * m.1.toNat : Nat) : Int)).toNat).take (((((m.1.toNat + t) * m.1.toNat : Nat) : Int) + m.1) - (((m.1.toNat + t) * m.1.toNat : Nat) : Int)).toNat = rowK m (m.1.toNat + t) := by
        rw [Int.toNat_natCast, show ((((m.1.toNat + t) * m.1.toNat : Nat) : Int) + m.1 - (((m.1.toNat + t) * m.1.toNat : Nat) : Int)).toNat = m.1.toNat by omega]
        exact row_slice hd (by omega)
      rw [ct (dt (by omega))]
      simp only [e, e1, e2, hsl]
      have hrl : (rowK m (m.1.toNat + t)).length = m.1.toNat := by simp [rowK]
      rw [ct (by rw [leB_t (by omega), leB_t (by omega), leB_t (by omega)]; rfl), ct (show spec_l1Ints.P (rowK m (m.1.toNat + t)) = true from dt (by omega)), ct (by rw [Nat.blt_eq, List.length_take, hcl, List.length_singleton]; omega),
        show spec_l1Ints.g (rowK m (m.1.toNat + t)) = rowK m (m.1.toNat + t) from rfl, ha, w64_succ (by rw [maxLen_val]; omega)]
      exact ih (t + 1) h (by omega)
    · rw [cf (df (by omega)), List.take_of_length_le (by rw [hcl]; omega)]
theorem ok : Spec := fun m hb hp => ⟨10, fun N hN => by
  have hd : dimK m = true := hp
  obtain ⟨n, r, hn, hr, hn1, hn5, hnr, hr8, hl⟩ := dim_nat hd
  simp only [Z0, Z1, Z2, Z3, Z4, Z5, Z6, Z7, Z8]
  have := loop (ρ := Unit × List (List Int) × Unit) (N := N) hd (fun out3 => Z10 N out3 (fun t2 => some ((), (t2, ())))) N 0 (by omega) (by omega)
  rw [List.take_zero, Nat.add_zero, show ((m.1.toNat : Nat) : Int) = m.1 by omega] at this
  exact this⟩

end spec_l4Lower
end
end Go.Fw
set_option linter.unusedVariables false
set_option linter.unusedSimpArgs false
set_option maxRecDepth 100000
namespace Go.Fw
noncomputable section
namespace spec_CVectorsOf
def g (m : Int × Int × List Int) (ks : List Int) : List (List Int) × Bool :=
  if (spec_l4Along.g m ks).2 = true then (lowK ((spec_l4Along.g m ks).1.getD ks.length (0, (0, []))), true) else ([], false)
end spec_CVectorsOf
namespace spec_CVectorsOf
def Z0 {ρ : Type} (N : Nat) (m0 : Int × Int × List Int) (ks1 : List Int) (kr : List (List Int) → Bool → Option ρ) : Option ρ :=
 cond (!(lk N ((spec_l4Along.g m0 ks1).2)))
 (
  kr ([] : List (List Int)) false)
 (
  cond (lk N (inB (w64 (((spec_l4Along.g m0 ks1).1.length : Int) - 1)) (spec_l4Along.g m0 ks1).1.length)) (
   cond (lk N (spec_l4Lower.P ((spec_l4Along.g m0 ks1).1.getD (w64 (((spec_l4Along.g m0 ks1).1.length : Int) - 1)).toNat (0, (0, []))))) (
    kr (spec_l4Lower.g ((spec_l4Along.g m0 ks1).1.getD (w64 (((spec_l4Along.g m0 ks1).1.length : Int) - 1)).toNat (0, (0, [])))) true) none) none)
def Spec : Prop := ∀  (m0 : Int × Int × List Int) (ks1 : List Int), Ty.bd (.pair (.int .i64) (.pair (.int .i64) (.sl 0 (.int .i64)))) m0 → Ty.bd (.sl 0 (.int .i64)) ks1 → ∃ N0, ∀ N, N0 ≤ N → Z0 N m0 ks1 (fun t4 t5 => some ((), (t4, (t5, ())))) = some ((), ((g m0 ks1).1, ((g m0 ks1).2, ())))

theorem ok : Spec := fun m ks hb hv => ⟨0, fun N hN => by
  simp only [Z0, lk_eq]
  by_cases h : (spec_l4Along.g m ks).2 = true
  · obtain ⟨h1, h2, h3, h4, h5⟩ := spec_l4Along.last h
    have e : w64 (((spec_l4Along.g m ks).1.length : Int) - 1) = (ks.length : Int) := by
      rw [h1, w64_id (by omega) (by omega)]; omega
    rw [e, Int.toNat_natCast, inB_nat (by omega), show spec_l4Lower.P ((spec_l4Along.g m ks).1.getD ks.length (0, (0, []))) = true from h2, g, h, if_pos rfl]
    rfl
  · have hf : (spec_l4Along.g m ks).2 = false := by
      cases hc : (spec_l4Along.g m ks).2
      · rfl
      · exact absurd hc h
    rw [g, hf]
    rfl⟩

end spec_CVectorsOf
end
end Go.Fw
set_option linter.unusedVariables false
set_option linter.unusedSimpArgs false
set_option maxRecDepth 100000
namespace Go.Fw
noncomputable section
namespace spec_l4Sign
def P (c : List (List Int)) (k : Int) : Bool := c.all fun r => inB k r.length
def g (c : List (List Int)) (k : Int) : Int := signL (c.map fun r => r.getD k.toNat 0)
end spec_l4Sign
namespace spec_l4Sign
def Z1 {ρ : Type} (N : Nat) (c0 : List (List Int)) (k1 : Int) (kn : List (List Int) → Int → Option ρ) : Option ρ :=
 kn c0 k1
def Z3 {ρ : Type} (N : Nat) (c0 : List (List Int)) (k1 : Int) (kn : List (List Int) → Int → Bool → Option ρ) : Option ρ :=
 kn c0 k1 false
def Z5 {ρ : Type} (N : Nat) (c0 : List (List Int)) (k1 : Int) (up5 : Bool) (kn : List (List Int) → Int → Bool → Bool → Option ρ) : Option ρ :=
 kn c0 k1 up5 false
def Z8 {ρ : Type} (N : Nat) (c0 : List (List Int)) (k1 : Int) (up5 : Bool) (down6 : Bool) (kn : List (List Int) → Int → Bool → Bool → Int → Option ρ) : Option ρ :=
 kn c0 k1 up5 down6 0
def Z11 {ρ : Type} (N : Nat) (c0 : List (List Int)) (k1 : Int) (up5 : Bool) (down6 : Bool) (i7 : Int) (kn : List (List Int) → Int → Bool → Bool → Int → Option ρ) (k0 : Bool → Bool → Option ρ) : Option ρ :=
 cond (lk N (decide (i7 < (c0.length : Int))))
 (
  cond (up5)
  (
   cond (down6)
   (
    kn c0 k1 true true (w64 (i7 + 1)))
   (
    cond (lk N (inB i7 c0.length)) (
     cond (lk N (inB k1 (c0.getD i7.toNat []).length)) (
      kn c0 k1 true (lk N (decide (((c0.getD i7.toNat []).getD k1.toNat 0) < 0))) (w64 (i7 + 1))) none) none))
  (
   cond (lk N (inB i7 c0.length)) (
    cond (lk N (inB k1 (c0.getD i7.toNat []).length)) (
     cond (down6)
     (
      kn c0 k1 (lk N (decide (0 < ((c0.getD i7.toNat []).getD k1.toNat 0)))) true (w64 (i7 + 1)))
     (
      cond (lk N (inB i7 c0.length)) (
       cond (lk N (inB k1 (c0.getD i7.toNat []).length)) (
        kn c0 k1 (lk N (decide (0 < ((c0.getD i7.toNat []).getD k1.toNat 0)))) (lk N (decide (((c0.getD i7.toNat []).getD k1.toNat 0) < 0))) (w64 (i7 + 1))) none) none)) none) none))
 (
  k0 up5 down6)
def Z10L {ρ : Type} (N : Nat) (k0 : Bool → Bool → Option ρ) : Nat → List (List Int) → Int → Bool → Bool → Int → Option ρ
  | 0, _, _, _, _, _ => none
  | M + 1, c0, k1, up5, down6, i7 => Z11 N c0 k1 up5 down6 i7 (fun c0 k1 up5 down6 i7 => Z10L N k0 M c0 k1 up5 down6 i7) k0
def Z10 {ρ : Type} (N : Nat) (c0 : List (List Int)) (k1 : Int) (up5 : Bool) (down6 : Bool) (i7 : Int) (k0 : Bool → Bool → Option ρ) : Option ρ := Z10L N k0 N c0 k1 up5 down6 i7
def Z9 {ρ : Type} (N : Nat) (c0 : List (List Int)) (k1 : Int) (up5 : Bool) (down6 : Bool) (i7 : Int) (kn : Bool → Bool → Option ρ) : Option ρ := Z10 N c0 k1 up5 down6 i7 kn
def Z7 {ρ : Type} (N : Nat) (c0 : List (List Int)) (k1 : Int) (up5 : Bool) (down6 : Bool) (kn : Bool → Bool → Option ρ) : Option ρ := Z8 N c0 k1 up5 down6 (fun c0 k1 up5 down6 i7 => Z9 N c0 k1 up5 down6 i7 kn)
def Z12 {ρ : Type} (N : Nat) (up5 : Bool) (down6 : Bool) (kr : Int → Option ρ) : Option ρ :=
 cond (up5)
 (
  cond (!(down6))
  (
   kr 1)
  (
   cond (down6)
   (
    cond (!(up5))
    (
     kr (-1))
    (
     kr 0))
   (
    kr 0)))
 (
  cond (down6)
  (
   cond (!(up5))
   (
    kr (-1))
   (
    kr 0))
  (
   kr 0))
def Z6 {ρ : Type} (N : Nat) (c0 : List (List Int)) (k1 : Int) (up5 : Bool) (down6 : Bool) (kr : Int → Option ρ) : Option ρ := Z7 N c0 k1 up5 down6 (fun up5 down6 => Z12 N up5 down6 kr)
def Z4 {ρ : Type} (N : Nat) (c0 : List (List Int)) (k1 : Int) (up5 : Bool) (kr : Int → Option ρ) : Option ρ := Z5 N c0 k1 up5 (fun c0 k1 up5 down6 => Z6 N c0 k1 up5 down6 kr)
def Z2 {ρ : Type} (N : Nat) (c0 : List (List Int)) (k1 : Int) (kr : Int → Option ρ) : Option ρ := Z3 N c0 k1 (fun c0 k1 up5 => Z4 N c0 k1 up5 kr)
def Z0 {ρ : Type} (N : Nat) (c0 : List (List Int)) (k1 : Int) (kr : Int → Option ρ) : Option ρ := Z1 N c0 k1 (fun c0 k1 => Z2 N c0 k1 kr)
def Spec : Prop := ∀  (c0 : List (List Int)) (k1 : Int), Ty.bd (.sl 0 (.sl 0 (.int .i64))) c0 → P c0 k1 = true → ∃ N0, ∀ N, N0 ≤ N → Z0 N c0 k1 (fun t4 => some ((), (t4, ()))) = some ((), ((g c0 k1), ()))

theorem loop {ρ : Type} (N : Nat) (k0 : Bool → Bool → Option ρ) (c : List (List Int)) (hc : c.length ≤ maxLen) (k : Int) (hp : P c k = true) : ∀ (M j : Nat) (u d : Bool), j ≤ c.length → c.length - j < M →
    Z10L N k0 M c k u d (j : Int) = k0 (u || ((c.drop j).any fun r => decide (0 < r.getD k.toNat 0))) (d || ((c.drop j).any fun r => decide (r.getD k.toNat 0 < 0))) := by
  intro M
  induction M with
  | zero => intro j _ _ _ h; omega
  | succ M ih =>
    intro j u d hj hM
    simp only [Z10L, Z11]
    by_cases h : j < c.length
    · have hi : inB k (c.getD j []).length = true := (List.all_eq_true.1 hp) _ (getD_mem [] h)
      rw [ct (dt (by omega)), drop_getD [] h, List.any_cons, List.any_cons]
      simp only [Int.toNat_natCast, lk_eq, hi, inB_nat h, cond_true]
      rw [w64_succ (by omega)]
      simp only [ih (j + 1) _ _ h (show c.length - (j + 1) < M by omega)]
      cases u <;> cases d <;> simp
    · rw [cf (df (by omega)), List.drop_of_length_le (by omega)]
      simp
theorem ok : Spec := fun c k hb hp => ⟨c.length + 1, fun N hN => by
  simp only [Z0, Z1, Z2, Z3, Z4, Z5, Z6, Z7, Z8, Z9, Z10]
  have := loop (ρ := Unit × Int × Unit) N (fun up5 down6 => Z12 N up5 down6 (fun t4 => some ((), (t4, ())))) c hb.1 k hp N 0 false false (by omega) (by omega)
  rw [show ((0 : Nat) : Int) = 0 from rfl, List.drop_zero] at this
  refine this.trans ?_
  simp only [Bool.false_or, Z12, g, signL, List.any_map]
  have e1 : (c.any ((fun x => decide (0 < x)) ∘ fun r => r.getD k.toNat 0)) = c.any fun r => decide (0 < r.getD k.toNat 0) := rfl
  have e2 : (c.any ((fun x => decide (x < 0)) ∘ fun r => r.getD k.toNat 0)) = c.any fun r => decide (r.getD k.toNat 0 < 0) := rfl
  rw [e1, e2]
  cases (c.any fun r => decide (0 < r.getD k.toNat 0)) <;> cases (c.any fun r => decide (r.getD k.toNat 0 < 0)) <;> rfl⟩

end spec_l4Sign
end
end Go.Fw
set_option linter.unusedVariables false
set_option linter.unusedSimpArgs false
set_option maxRecDepth 100000
namespace Go.Fw
noncomputable section
namespace spec_ColourOf
def g (m : Int × Int × List Int) (ks : List Int) (k : Int) : Int :=
  if ((spec_CVectorsOf.g m ks).2 && inK k 0 (m.1 - 1)) = true then signL ((spec_CVectorsOf.g m ks).1.map fun r => r.getD k.toNat 0) else 0
end spec_ColourOf
namespace spec_ColourOf
def Z0 {ρ : Type} (N : Nat) (m0 : Int × Int × List Int) (ks1 : List Int) (k2 : Int) (kr : Int → Option ρ) : Option ρ :=
 cond (!(lk N ((spec_CVectorsOf.g m0 ks1).2)))
 (
  kr 0)
 (
  cond (!(lk N ((spec_l1In.g k2 0 (w64 (m0.1 - 1))))))
  (
   kr 0)
  (
   cond (lk N (spec_l4Sign.P (spec_CVectorsOf.g m0 ks1).1 k2)) (
    kr (spec_l4Sign.g (spec_CVectorsOf.g m0 ks1).1 k2)) none))
def Spec : Prop := ∀  (m0 : Int × Int × List Int) (ks1 : List Int) (k2 : Int), Ty.bd (.pair (.int .i64) (.pair (.int .i64) (.sl 0 (.int .i64)))) m0 → Ty.bd (.sl 0 (.int .i64)) ks1 → ∃ N0, ∀ N, N0 ≤ N → Z0 N m0 ks1 k2 (fun t6 => some ((), (t6, ()))) = some ((), ((g m0 ks1 k2), ()))

theorem ok : Spec := fun m ks k hb hv => ⟨0, fun N hN => by
  simp only [Z0, lk_eq, spec_l1In.g]
  unfold g
  cases h : (spec_CVectorsOf.g m ks).2
  · rfl
  have hw : (spec_l4Along.g m ks).2 = true := by
    unfold spec_CVectorsOf.g at h
    cases hc : (spec_l4Along.g m ks).2
    · rw [hc] at h; cases h
    · rfl
  obtain ⟨h1, h2, h3, h4, h5⟩ := spec_l4Along.last hw
  obtain ⟨n, r, hn, hr, hn1, hn5, hnr, hr8, hl⟩ := dim_nat h5
  rw [w64_id (by omega) (by omega)]
  cases hk : inK k 0 (m.1 - 1)
  · rfl
  have hk' := inK_iff.1 hk
  have hP : spec_l4Sign.P (spec_CVectorsOf.g m ks).1 k = true := by
    unfold spec_CVectorsOf.g spec_l4Sign.P
    rw [if_pos hw, List.all_eq_true]
    intro x hx
    simp only [lowK, List.mem_map] at hx
    obtain ⟨t, _, rfl⟩ := hx
    refine inB_int (by omega) ?_
    simp only [rowK, List.length_map, List.length_range, h3]
    omega
  rw [hP]
  rfl⟩

end spec_ColourOf
end
end Go.Fw
set_option linter.unusedVariables false
set_option linter.unusedSimpArgs false
set_option maxRecDepth 100000
namespace Go.Fw
noncomputable section
namespace impl_colour
def P (m : Int × Int × List Int) (k : Int) : Bool := dimK m && (decide (0 ≤ k) && decide (k < m.1))
def g (m : Int × Int × List Int) (k : Int) : Int := signL (colK m k.toNat)
end impl_colour
namespace impl_colour
def Z1 {ρ : Type} (N : Nat) (p0 : Int × Int × List Int) (k1 : Int) (kn : Int → Int → Int → List Int → Option ρ) : Option ρ :=
 kn k1 p0.1 p0.2.1 p0.2.2
def Z3 {ρ : Type} (N : Nat) (k1 : Int) (p2_0 : Int) (p2_1 : Int) (p2_2 : List Int) (kn : Int → Bool → Bool → Int → Int → List Int → Option ρ) : Option ρ :=
 kn k1 false false p2_0 p2_1 p2_2
def Z6 {ρ : Type} (N : Nat) (k1 : Int) (some5 : Bool) (none6 : Bool) (p2_0 : Int) (p2_1 : Int) (p2_2 : List Int) (kn : Int → Bool → Bool → Int → Int → Int → List Int → Option ρ) : Option ρ :=
 kn k1 some5 none6 p2_0 p2_0 p2_1 p2_2
def Z9 {ρ : Type} (N : Nat) (k1 : Int) (some5 : Bool) (none6 : Bool) (i7 : Int) (p2_0 : Int) (p2_1 : Int) (p2_2 : List Int) (kn : Int → Bool → Bool → Int → Int → Int → List Int → Option ρ) (k0 : Bool → Bool → Option ρ) : Option ρ :=
 cond (lk N (decide (i7 < p2_1)))
 (
  cond (some5)
  (
   cond (none6)
   (
    kn k1 true true (w64 (i7 + 1)) p2_0 p2_1 p2_2)
   (
    cond (lk N (impl_Matrix_at.P (p2_0, (p2_1, p2_2)) i7 k1)) (
     kn k1 true (lk N (decide ((impl_Matrix_at.g (p2_0, (p2_1, p2_2)) i7 k1) < 0))) (w64 (i7 + 1)) p2_0 p2_1 p2_2) none))
  (
   cond (lk N (impl_Matrix_at.P (p2_0, (p2_1, p2_2)) i7 k1)) (
    cond (none6)
    (
     kn k1 (lk N (decide (0 < (impl_Matrix_at.g (p2_0, (p2_1, p2_2)) i7 k1)))) true (w64 (i7 + 1)) p2_0 p2_1 p2_2)
    (
     cond (lk N (impl_Matrix_at.P (p2_0, (p2_1, p2_2)) i7 k1)) (
      kn k1 (lk N (decide (0 < (impl_Matrix_at.g (p2_0, (p2_1, p2_2)) i7 k1)))) (lk N (decide ((impl_Matrix_at.g (p2_0, (p2_1, p2_2)) i7 k1) < 0))) (w64 (i7 + 1)) p2_0 p2_1 p2_2) none)) none))
 (
  k0 some5 none6)
def Z8L {ρ : Type} (N : Nat) (k0 : Bool → Bool → Option ρ) : Nat → Int → Bool → Bool → Int → Int → Int → List Int → Option ρ
  | 0, _, _, _, _, _, _, _ => none
  | M + 1, k1, some5, none6, i7, p2_0, p2_1, p2_2 => Z9 N k1 some5 none6 i7 p2_0 p2_1 p2_2 (fun k1 some5 none6 i7 p2_0 p2_1 p2_2 => Z8L N k0 M k1 some5 none6 i7 p2_0 p2_1 p2_2) k0
def Z8 {ρ : Type} (N : Nat) (k1 : Int) (some5 : Bool) (none6 : Bool) (i7 : Int) (p2_0 : Int) (p2_1 : Int) (p2_2 : List Int) (k0 : Bool → Bool → Option ρ) : Option ρ := Z8L N k0 N k1 some5 none6 i7 p2_0 p2_1 p2_2
def Z7 {ρ : Type} (N : Nat) (k1 : Int) (some5 : Bool) (none6 : Bool) (i7 : Int) (p2_0 : Int) (p2_1 : Int) (p2_2 : List Int) (kn : Bool → Bool → Option ρ) : Option ρ := Z8 N k1 some5 none6 i7 p2_0 p2_1 p2_2 kn
def Z5 {ρ : Type} (N : Nat) (k1 : Int) (some5 : Bool) (none6 : Bool) (p2_0 : Int) (p2_1 : Int) (p2_2 : List Int) (kn : Bool → Bool → Option ρ) : Option ρ := Z6 N k1 some5 none6 p2_0 p2_1 p2_2 (fun k1 some5 none6 i7 p2_0 p2_1 p2_2 => Z7 N k1 some5 none6 i7 p2_0 p2_1 p2_2 kn)
def Z10 {ρ : Type} (N : Nat) (some5 : Bool) (none6 : Bool) (kr : Int → Option ρ) : Option ρ :=
 cond (some5)
 (
  cond (!(none6))
  (
   kr 1)
  (
   cond (none6)
   (
    cond (!(some5))
    (
     kr (-1))
    (
     kr 0))
   (
    kr 0)))
 (
  cond (none6)
  (
   cond (!(some5))
   (
    kr (-1))
   (
    kr 0))
  (
   kr 0))
def Z4 {ρ : Type} (N : Nat) (k1 : Int) (some5 : Bool) (none6 : Bool) (p2_0 : Int) (p2_1 : Int) (p2_2 : List Int) (kr : Int → Option ρ) : Option ρ := Z5 N k1 some5 none6 p2_0 p2_1 p2_2 (fun some5 none6 => Z10 N some5 none6 kr)
def Z2 {ρ : Type} (N : Nat) (k1 : Int) (p2_0 : Int) (p2_1 : Int) (p2_2 : List Int) (kr : Int → Option ρ) : Option ρ := Z3 N k1 p2_0 p2_1 p2_2 (fun k1 some5 none6 p2_0 p2_1 p2_2 => Z4 N k1 some5 none6 p2_0 p2_1 p2_2 kr)
def Z0 {ρ : Type} (N : Nat) (p0 : Int × Int × List Int) (k1 : Int) (kr : Int → Option ρ) : Option ρ := Z1 N p0 k1 (fun k1 p2_0 p2_1 p2_2 => Z2 N k1 p2_0 p2_1 p2_2 kr)
def Spec : Prop := ∀  (p0 : Int × Int × List Int) (k1 : Int), Ty.bd (.pair (.int .i64) (.pair (.int .i64) (.sl 0 (.int .i64)))) p0 → P p0 k1 = true → ∃ N0, ∀ N, N0 ≤ N → Z0 N p0 k1 (fun t4 => some ((), (t4, ()))) = some ((), ((g p0 k1), ()))

theorem loop {ρ : Type} (N : Nat) (k0 : Bool → Bool → Option ρ) {m : Int × Int × List Int} (hd : dimK m = true) {k : Nat} (hk : k < m.1.toNat) : ∀ (M t : Nat) (u d : Bool), t ≤ m.2.1.toNat - m.1.toNat → m.2.1.toNat - m.1.toNat - t < M →
    Z8L N k0 M (k : Int) u d ((m.1.toNat + t : Nat) : Int) m.1 m.2.1 m.2.2 = k0 (u || (((colK m k).drop t).any fun x => decide (0 < x))) (d || (((colK m k).drop t).any fun x => decide (x < 0))) := by
  obtain ⟨n, r, hn, hr, hn1, hn5, hnr, hr8, hl⟩ := dim_nat hd
  have hcl : (colK m k).length = m.2.1.toNat - m.1.toNat := by simp [colK]
  intro M
  induction M with
  | zero => intro t _ _ _ h; omega
  | succ M ih =>
    intro t u d ht hM
    simp only [Z8L, Z9]
    by_cases h : t < m.2.1.toNat - m.1.toNat
    · have hP : impl_Matrix_at.P (m.1, (m.2.1, m.2.2)) ((m.1.toNat + t : Nat) : Int) (k : Int) = true := at_ok hd (by omega) hk
      have hA : impl_Matrix_at.g (m.1, (m.2.1, m.2.2)) ((m.1.toNat + t : Nat) : Int) (k : Int) = ent m (m.1.toNat + t) k := atK_nat (by omega) _ _
      have hg : (colK m k).getD t 0 = ent m (m.1.toNat + t) k := map_getD h 0
      rw [ct (dt (by omega)), drop_getD 0 (by omega), List.any_cons, List.any_cons, hg]
      simp only [lk_eq, hP, hA, cond_true]
      rw [w64_succ (by rw [maxLen_val]; omega)]
      have ih' := fun u d => ih (t + 1) u d h (by omega)
      simp only [← Nat.add_assoc] at ih'
      simp only [ih']
      cases u <;> cases d <;> simp
    · rw [cf (df (by omega)), List.drop_of_length_le (by omega)]
      simp
theorem ok : Spec := fun m k hb hp => ⟨10, fun N hN => by
  simp only [P, Bool.and_eq_true, decide_eq_true_eq] at hp
  obtain ⟨hd, h0, h1⟩ := hp
  obtain ⟨x, rfl⟩ := Int.eq_ofNat_of_zero_le h0
  obtain ⟨n, r, hn, hr, hn1, hn5, hnr, hr8, hl⟩ := dim_nat hd
  simp only [Z0, Z1, Z2, Z3, Z4, Z5, Z6, Z7, Z8]
  have := loop (ρ := Unit × Int × Unit) N (fun some5 none6 => Z10 N some5 none6 (fun t4 => some ((), (t4, ())))) hd (k := x) (by omega) N 0 false false (by omega) (by omega)
  rw [Nat.add_zero, show ((m.1.toNat : Nat) : Int) = m.1 by omega, List.drop_zero] at this
  refine this.trans ?_
  simp only [Bool.false_or, Z10, g, Int.toNat_natCast]
  cases hu : ((colK m x).any fun x => decide (0 < x)) <;> cases hd' : ((colK m x).any fun x => decide (x < 0)) <;> rw [signL_eq hu hd'] <;> rfl⟩

end impl_colour
end
end Go.Fw
set_option linter.unusedVariables false
set_option linter.unusedSimpArgs false
set_option maxRecDepth 100000
namespace Go.Fw
noncomputable section
namespace impl_ColourOf
def g (m : Int × Int × List Int) (ks : List Int) (k : Int) : Int :=
  if ((impl_walk.g m ks).2 && inK k 0 (m.1 - 1)) = true then signL (colK ((impl_walk.g m ks).1.getD ks.length (0, (0, []))) k.toNat) else 0
end impl_ColourOf
namespace impl_ColourOf
def Z0 {ρ : Type} (N : Nat) (m0 : Int × Int × List Int) (ks1 : List Int) (k2 : Int) (kr : Int → Option ρ) : Option ρ :=
 cond (!(lk N ((impl_walk.g m0 ks1).2)))
 (
  kr 0)
 (
  cond (!(lk N ((impl_within.g k2 0 (w64 (m0.1 - 1))))))
  (
   kr 0)
  (
   cond (lk N (inB (w64 (((impl_walk.g m0 ks1).1.length : Int) - 1)) (impl_walk.g m0 ks1).1.length)) (
    cond (lk N (impl_colour.P ((impl_walk.g m0 ks1).1.getD (w64 (((impl_walk.g m0 ks1).1.length : Int) - 1)).toNat (0, (0, []))) k2)) (
     kr (impl_colour.g ((impl_walk.g m0 ks1).1.getD (w64 (((impl_walk.g m0 ks1).1.length : Int) - 1)).toNat (0, (0, []))) k2)) none) none))
def Spec : Prop := ∀  (m0 : Int × Int × List Int) (ks1 : List Int) (k2 : Int), Ty.bd (.pair (.int .i64) (.pair (.int .i64) (.sl 0 (.int .i64)))) m0 → Ty.bd (.sl 0 (.int .i64)) ks1 → ∃ N0, ∀ N, N0 ≤ N → Z0 N m0 ks1 k2 (fun t6 => some ((), (t6, ()))) = some ((), ((g m0 ks1 k2), ()))

theorem ok : Spec := fun m ks k hb hv => ⟨0, fun N hN => by
  simp only [Z0, lk_eq, impl_within.g]
  unfold g
  cases h : (impl_walk.g m ks).2
  · rfl
  obtain ⟨h1, h2, h3, h4, h5⟩ := impl_walk.last h
  obtain ⟨n, r, hn, hr, hn1, hn5, hnr, hr8, hl⟩ := dim_nat h5
  have e : w64 (((impl_walk.g m ks).1.length : Int) - 1) = (ks.length : Int) := by
    rw [h1, w64_id (by omega) (by omega)]; omega
  rw [w64_id (n := m.1 - 1) (by omega) (by omega), e, Int.toNat_natCast]
  cases hk : inK k 0 (m.1 - 1)
  · rfl
  have hk' := inK_iff.1 hk
  have hP : impl_colour.P ((impl_walk.g m ks).1.getD ks.length (0, (0, []))) k = true := by
    simp only [impl_colour.P, Bool.and_eq_true, decide_eq_true_eq]
    exact ⟨h2, by omega, by omega⟩
  rw [hP, inB_nat (by omega)]
  rfl⟩

end impl_ColourOf
end
end Go.Fw
set_option linter.unusedVariables false
set_option linter.unusedSimpArgs false
set_option maxRecDepth 100000
namespace Go.Fw
noncomputable section
namespace laws_eqIntS
def g (a b : List Int) : Bool := decide (a = b)
end laws_eqIntS
namespace laws_eqIntS
def Z1 {ρ : Type} (N : Nat) (a0 : List Int) (b1 : List Int) (kn : List Int → List Int → Option ρ) : Option ρ :=
 kn a0 b1
def Z3 {ρ : Type} (N : Nat) (a0 : List Int) (b1 : List Int) (kn : List Int → List Int → Option ρ) (kr : Bool → Option ρ) : Option ρ :=
 cond (lk N (!(decide ((a0.length : Int) = (b1.length : Int)))))
 (
  kr false)
 (
  kn a0 b1)
def Z6 {ρ : Type} (N : Nat) (a0 : List Int) (b1 : List Int) (kn : List Int → List Int → Int → Option ρ) : Option ρ :=
 kn a0 b1 0
def Z9 {ρ : Type} (N : Nat) (a0 : List Int) (b1 : List Int) (i5 : Int) (kn : List Int → List Int → Int → Option ρ) (k0 : Option ρ) (kr : Bool → Option ρ) : Option ρ :=
 cond (lk N (decide (i5 < (a0.length : Int))))
 (
  cond (lk N (inB i5 a0.length)) (
   cond (lk N (inB i5 b1.length)) (
    cond (lk N (!(decide ((a0.getD i5.toNat 0) = (b1.getD i5.toNat 0)))))
    (
     kr false)
    (
     kn a0 b1 (w64 (i5 + 1)))) none) none)
 (
  k0)
def Z8L {ρ : Type} (N : Nat) (k0 : Option ρ) (kr : Bool → Option ρ) : Nat → List Int → List Int → Int → Option ρ
  | 0, _, _, _ => none
  | M + 1, a0, b1, i5 => Z9 N a0 b1 i5 (fun a0 b1 i5 => Z8L N k0 kr M a0 b1 i5) k0 kr
def Z8 {ρ : Type} (N : Nat) (a0 : List Int) (b1 : List Int) (i5 : Int) (k0 : Option ρ) (kr : Bool → Option ρ) : Option ρ := Z8L N k0 kr N a0 b1 i5
def Z7 {ρ : Type} (N : Nat) (a0 : List Int) (b1 : List Int) (i5 : Int) (kn : Option ρ) (kr : Bool → Option ρ) : Option ρ := Z8 N a0 b1 i5 kn kr
def Z5 {ρ : Type} (N : Nat) (a0 : List Int) (b1 : List Int) (kn : Option ρ) (kr : Bool → Option ρ) : Option ρ := Z6 N a0 b1 (fun a0 b1 i5 => Z7 N a0 b1 i5 kn kr)
def Z10 {ρ : Type} (N : Nat)  (kr : Bool → Option ρ) : Option ρ :=
 kr true
def Z4 {ρ : Type} (N : Nat) (a0 : List Int) (b1 : List Int) (kr : Bool → Option ρ) : Option ρ := Z5 N a0 b1 (Z10 N kr) kr
def Z2 {ρ : Type} (N : Nat) (a0 : List Int) (b1 : List Int) (kr : Bool → Option ρ) : Option ρ := Z3 N a0 b1 (fun a0 b1 => Z4 N a0 b1 kr) kr
def Z0 {ρ : Type} (N : Nat) (a0 : List Int) (b1 : List Int) (kr : Bool → Option ρ) : Option ρ := Z1 N a0 b1 (fun a0 b1 => Z2 N a0 b1 kr)
def Spec : Prop := ∀  (a0 : List Int) (b1 : List Int), Ty.bd (.sl 0 (.int .i64)) a0 → Ty.bd (.sl 0 (.int .i64)) b1 → ∃ N0, ∀ N, N0 ≤ N → Z0 N a0 b1 (fun t4 => some ((), (t4, ()))) = some ((), ((g a0 b1), ()))

theorem loop {ρ : Type} (N : Nat) (k0 : Option ρ) (kr : Bool → Option ρ) (a b : List Int) (hl : a.length = b.length) (ha : a.length ≤ maxLen) : ∀ (M j : Nat), j ≤ a.length → a.length - j < M →
    Z8L N k0 kr M a b (j : Int) = if a.drop j = b.drop j then k0 else kr false := by
  intro M
  induction M with
  | zero => intro j _ h; omega
  | succ M ih =>
    intro j hj hM
    simp only [Z8L, Z9]
    by_cases h : j < a.length
    · rw [ct (dt (by omega)), ct (inB_nat h), ct (inB_nat (by omega)), Int.toNat_natCast, w64_succ (by omega), ih (j + 1) h (by omega), drop_getD 0 h, drop_getD (l := b) (j := j) 0 (by omega)]
      by_cases e : a.getD j 0 = b.getD j 0
      · rw [cf (nf e), e]
        simp only [List.cons.injEq, true_and]
      · rw [ct (nt e), if_neg (by simp only [List.cons.injEq]; exact fun h => e h.1)]
    · rw [cf (df (by omega)), if_pos (by rw [List.drop_of_length_le (by omega), List.drop_of_length_le (by omega)])]
theorem ok : Spec := fun a b ha hb => ⟨a.length + 1, fun N hN => by
  simp only [Z1, Z3, Z6, Z9, Z8, Z7, Z5, Z10, Z4, Z2, Z0]
  by_cases hl : a.length = b.length
  · rw [cf (nf (by omega))]
    rw [show (0 : Int) = ((0 : Nat) : Int) from rfl, loop _ _ _ a b hl ha.1 N 0 (by omega) (by omega)]
    by_cases e : a = b <;> simp [e, g]
  · rw [ct (nt (by omega))]
    have : a ≠ b := fun e => hl (by rw [e])
    simp [g, this]⟩

end laws_eqIntS
end
end Go.Fw
set_option linter.unusedVariables false
set_option linter.unusedSimpArgs false
set_option maxRecDepth 100000
namespace Go.Fw
noncomputable section
namespace laws_eqMatrix
def g (a b : Int × Int × List Int) : Bool := decide (a = b)
end laws_eqMatrix
namespace laws_eqMatrix
def Z0 {ρ : Type} (N : Nat) (a0 : Int × Int × List Int) (b1 : Int × Int × List Int) (kr : Bool → Option ρ) : Option ρ :=
 cond (lk N (!(decide (a0.1 = b1.1))))
 (
  kr false)
 (
  cond (lk N (!(decide (a0.2.1 = b1.2.1))))
  (
   kr false)
  (
   cond (!(lk N ((laws_eqIntS.g a0.2.2 b1.2.2))))
   (
    kr false)
   (
    kr true)))
def Spec : Prop := ∀  (a0 : Int × Int × List Int) (b1 : Int × Int × List Int), Ty.bd (.pair (.int .i64) (.pair (.int .i64) (.sl 0 (.int .i64)))) a0 → Ty.bd (.pair (.int .i64) (.pair (.int .i64) (.sl 0 (.int .i64)))) b1 → ∃ N0, ∀ N, N0 ≤ N → Z0 N a0 b1 (fun t4 => some ((), (t4, ()))) = some ((), ((g a0 b1), ()))

theorem ok : Spec := fun a b ha hb => ⟨0, fun N hN => by
  obtain ⟨a1, a2, a3⟩ := a
  obtain ⟨b1, b2, b3⟩ := b
  simp only [Z0, lk_eq, g, laws_eqIntS.g, Prod.mk.injEq]
  by_cases h1 : a1 = b1 <;> by_cases h2 : a2 = b2 <;> by_cases h3 : a3 = b3 <;> simp [h1, h2, h3]⟩

end laws_eqMatrix
end
end Go.Fw
set_option linter.unusedVariables false
set_option linter.unusedSimpArgs false
set_option maxRecDepth 100000
namespace Go.Fw
noncomputable section
namespace laws_FnExactColourOf
def g (_ : Int × Int × List Int) (_ : List Int) (_ : Int) : Bool := true
end laws_FnExactColourOf
namespace laws_FnExactColourOf
def Z0 {ρ : Type} (N : Nat) (aM0 : Int × Int × List Int) (aKs1 : List Int) (aK2 : Int) (kr : Bool → Option ρ) : Option ρ :=
 cond (lk N (decide (1048576 < (aKs1.length : Int))))
 (
  kr true)
 (
  cond (lk N (decide ((laws_szMatrix.g aM0 1048576) < 0)))
  (
   kr true)
  (
   cond (lk N (laws_toMatrix.P aM0)) (
    cond (lk N (laws_toIntS.P aKs1)) (
     cond (lk N (laws_toMatrix.P aM0)) (
      cond (lk N (laws_toIntS.P aKs1)) (
       cond (lk N (!(decide ((impl_ColourOf.g (laws_toMatrix.g aM0) (laws_toIntS.g aKs1) aK2) = (spec_ColourOf.g (laws_toMatrix.g aM0) (laws_toIntS.g aKs1) aK2)))))
       (
        kr false)
       (
        cond (lk N (laws_toMatrix.P aM0)) (
         cond (!(lk N ((laws_eqMatrix.g (laws_toMatrix.g aM0) (laws_toMatrix.g aM0)))))
         (
          kr false)
         (
          cond (lk N (laws_toIntS.P aKs1)) (
           cond (!(lk N ((laws_eqIntS.g (laws_toIntS.g aKs1) (laws_toIntS.g aKs1)))))
           (
            kr false)
           (
            kr true)) none)) none)) none) none) none) none))
def Spec : Prop := ∀  (aM0 : Int × Int × List Int) (aKs1 : List Int) (aK2 : Int), Ty.bd (.pair (.int .i64) (.pair (.int .i64) (.sl 0 (.int .i64)))) aM0 → Ty.bd (.sl 0 (.int .i64)) aKs1 → ∃ N0, ∀ N, N0 ≤ N → Z0 N aM0 aKs1 aK2 (fun t6 => some ((), (t6, ()))) = some ((), ((g aM0 aKs1 aK2), ()))

theorem alike (m : Int × Int × List Int) (ks : List Int) (k : Int) : impl_ColourOf.g m ks k = spec_ColourOf.g m ks k := by
  unfold impl_ColourOf.g spec_ColourOf.g spec_CVectorsOf.g
  rw [walk_alike]
  cases h : (spec_l4Along.g m ks).2
  · rfl
  obtain ⟨h1, h2, h3, h4, h5⟩ := spec_l4Along.last h
  obtain ⟨n, r, hn, hr, hn1, hn5, hnr, hr8, hl⟩ := dim_nat h5
  cases hk : inK k 0 (m.1 - 1)
  · rfl
  have hk' := inK_iff.1 hk
  simp only [Bool.and_true, if_true]
  rw [low_col (by omega)]
theorem ok : Spec := fun m ks k hb hv => ⟨0, fun N hN => by
  by_cases h0 : (1048576 : Int) < ks.length
  · simp only [Z0]
    rw [ct (dt h0)]
    rfl
  by_cases hl : laws_szMatrix.g m 1048576 < 0
  · simp only [Z0]
    rw [cf (df h0), ct (dt hl)]
    rfl
  obtain ⟨hP, hlen⟩ := szMat_P m hb.2.2.1 hl
  have hQ := toInt_P ks (by omega)
  simp only [Z0, lk_eq, laws_toMatrix.g, laws_toIntS.g, hP, hQ, nf (alike m ks k), laws_eqMatrix.g, laws_eqIntS.g, df h0, df hl, dt (rfl : m = _), dt (rfl : ks = _)]
  rfl⟩

end laws_FnExactColourOf
end
end Go.Fw
