/- The plain part: what the functions compute, in lists and numbers. Nothing is assumed. -/
import Derived.Test.YtillpdbmnjkjiaaFwc
import Derived.Test.YtillpdbmnjkjiaaPuFnExactAreAlikea
set_option linter.unusedVariables false
set_option linter.unusedSimpArgs false
set_option maxRecDepth 100000
namespace Go.Fw
noncomputable section
variable {ρ : Type}
namespace spec_MatrixOk
def g (m : Int × Int × List Int) : Bool := sizesK m && !decide (facK m = [])
end spec_MatrixOk
namespace spec_MatrixOk
def Z0 {ρ : Type} (N : Nat) (v0 : MT) (kr : Bool → Option ρ) : Option ρ :=
 cond (!(lk N ((spec_l1Sizes.g v0))))
 (
  kr false)
 (
  cond (lk N (spec_l1Factors.P v0)) (
   kr (lk N ((spec_l1Factors.g v0).2))) none)
def Spec : Prop := ∀  (v0 : MT), Ty.bd (.pair (.int .i64) (.pair (.int .i64) (.sl 0 (.int .i64)))) v0 → ∃ N0, ∀ N, N0 ≤ N → Z0 N v0 (fun v2 => some ((), (v2, ()))) = some ((), ((g v0), ()))
theorem ok : Spec := fun m hb => ⟨0, fun N hN => by
  simp only [Z0, lk_eq, g, spec_l1Sizes.g, spec_l1Factors.P, spec_l1Factors.g]
  cases sizesK m <;> rfl⟩
end spec_MatrixOk
end
end Go.Fw
namespace Go.Fw
noncomputable section
variable {ρ : Type}
namespace spec_l1Ints
def P (a : List Int) : Bool := decide (a.length < 1099511627776)
abbrev g (a : List Int) : List Int := a
end spec_l1Ints
namespace spec_l1Ints
def Z0 {ρ : Type} (N : Nat) (v0 : LI) (kr : LI → Option ρ) : Option ρ :=
 cond (lk N (Nat.blt (([] : List Int).length + v0.length) 1099511627776)) (
  kr (([] : List Int) ++ v0)) none
def Spec : Prop := ∀  (v0 : LI), Ty.bd (.sl 0 (.int .i64)) v0 → P v0 = true → ∃ N0, ∀ N, N0 ≤ N → Z0 N v0 (fun v2 => some ((), (v2, ()))) = some ((), ((g v0), ()))
theorem ok : Spec := fun a hb hp => ⟨0, fun N hN => by
  have hl : a.length < 1099511627776 := by simpa [P] using hp
  have hc : Nat.blt (([] : List Int).length + a.length) 1099511627776 = true := by simpa using hl
  simp only [Z0, lk_eq, g, hc, cond_true, List.nil_append]⟩
end spec_l1Ints
end
end Go.Fw
namespace Go.Fw
noncomputable section
variable {ρ : Type}
namespace spec_l1CopyMatrix
def P (m : Int × Int × List Int) : Bool := spec_l1Ints.P m.2.2
abbrev g (m : Int × Int × List Int) : Int × Int × List Int := m
end spec_l1CopyMatrix
namespace spec_l1CopyMatrix
def Z0 {ρ : Type} (N : Nat) (v0 : MT) (kr : LI → I2 (Option ρ)) : Option ρ :=
 cond (lk N (spec_l1Ints.P v0.2.2)) (
  kr (spec_l1Ints.g v0.2.2) v0.1 v0.2.1) none
def Spec : Prop := ∀  (v0 : MT), Ty.bd (.pair (.int .i64) (.pair (.int .i64) (.sl 0 (.int .i64)))) v0 → P v0 = true → ∃ N0, ∀ N, N0 ≤ N → Z0 N v0 (fun v2_2 v2_0 v2_1 => some ((), ((v2_0, (v2_1, v2_2)), ()))) = some ((), ((g v0), ()))
theorem ok : Spec := fun m hb hp => ⟨0, fun N hN => by
  simp only [Z0]
  exact ct (show spec_l1Ints.P m.2.2 = true from hp)⟩
end spec_l1CopyMatrix
end
end Go.Fw
namespace Go.Fw
noncomputable section
variable {ρ : Type}
namespace spec_l1Orders
def P (f : List Int) (n : Int) (l : List (List Int)) : Bool := decide (0 ≤ n) && (decide (n ≤ 5) && (decide (f.length ≤ n.toNat) && decide (l.length + 5 ^ (n.toNat - f.length) ≤ 4000)))
def g (f : List Int) (n : Int) (l : List (List Int)) : List (List Int) := l ++ ordS n.toNat (n.toNat - f.length) f
def mu (f : List Int) (n : Int) (_ : List (List Int)) : Nat := n.toNat - f.length
end spec_l1Orders
namespace spec_l1Orders
def Z1 {ρ : Type} (N m : Nat) (v0 : LI) (v1 : Int) (v2 : LL) (kn : LI → LL → Int → Option ρ) : Option ρ :=
 kn v0 v2 v1
def Z3 {ρ : Type} (N m : Nat) (v0 : LI) (v2 : LL) (v1 : Int) (kn : LI → LL → Int → Option ρ) (kr : LL → Option ρ) : Option ρ :=
 cond (lk N (decide ((v0.length : Int) = v1)))
 (
  cond (lk N (Nat.blt (v2.length + ([v0] : List (LI)).length) 1099511627776)) (
   kr (v2 ++ ([v0] : List (LI)))) none)
 (
  kn v0 v2 v1)
def Z6 {ρ : Type} (N m : Nat) (v0 : LI) (v2 : LL) (v1 : Int) (kn : LI → LL → I2 (Option ρ)) : Option ρ :=
 kn v0 v2 v1 0
def Z9 {ρ : Type} (N m : Nat) (v0 : LI) (v2 : LL) (v1 v7 : Int) (kn : LI → LL → I2 (Option ρ)) (k0 : LL → Option ρ) : Option ρ :=
 cond (lk N (decide (v7 < v1)))
 (
  cond (!(lk N ((spec_l1Has.g v0 v7))))
  (
   cond (lk N (spec_l1Ints.P v0)) (
    cond (lk N (Nat.blt ((spec_l1Ints.g v0).length + ([v7] : List Int).length) 1099511627776)) (
     cond (lk N (Nat.blt (mu ((spec_l1Ints.g v0) ++ ([v7] : List Int)) v1 v2) m && P ((spec_l1Ints.g v0) ++ ([v7] : List Int)) v1 v2)) (
      kn v0 (g ((spec_l1Ints.g v0) ++ ([v7] : List Int)) v1 v2) v1 (w64 (v7 + 1))) none) none) none)
  (
   kn v0 v2 v1 (w64 (v7 + 1))))
 (
  k0 v2)
def Z8L {ρ : Type} (N m : Nat) (k0 : LL → Option ρ) : Nat → LI → LL → Int → Int → Option ρ
  | 0, _, _, _, _ => none
  | M + 1, v0, v2, v1, v7 => Z9 N m v0 v2 v1 v7 (fun v0 v2 v1 v7 => Z8L N m k0 M v0 v2 v1 v7) k0
def Z8 N m v0 v2 v1 v7 k0 := (Z8L N m k0 N v0 v2 v1 v7 : Option ρ)
def Z7 N m v0 v2 v1 v7 kn := (Z8 N m v0 v2 v1 v7 kn : Option ρ)
def Z5 N m v0 v2 v1 kn := (Z6 N m v0 v2 v1 (fun v0 v2 v1 v7 => Z7 N m v0 v2 v1 v7 kn) : Option ρ)
def Z10 {ρ : Type} (N m : Nat) (v2 : LL) (kr : LL → Option ρ) : Option ρ :=
 kr v2
def Z4 N m v0 v2 v1 kr := (Z5 N m v0 v2 v1 (fun v2 => Z10 N m v2 kr) : Option ρ)
def Z2 N m v0 v2 v1 kr := (Z3 N m v0 v2 v1 (fun v0 v2 v1 => Z4 N m v0 v2 v1 kr) kr : Option ρ)
def Z0 N m v0 v1 v2 kr := (Z1 N m v0 v1 v2 (fun v0 v2 v1 => Z2 N m v0 v2 v1 kr) : Option ρ)
def Spec : Prop := ∀ (m : Nat) (v0 : LI) (v1 : Int) (v2 : LL), Ty.bd (.sl 0 (.int .i64)) v0 → Ty.bd (.sl 0 (.sl 0 (.int .i64))) v2 → (Nat.blt (mu v0 v1 v2) (m + 1) && P v0 v1 v2) = true → ∃ N0, ∀ N, N0 ≤ N → Z0 N m v0 v1 v2 (fun v6 => some ((), (v6, ()))) = some ((), ((g v0 v1 v2), ()))
def rest (n k : Nat) (f : List Int) (j : Nat) : List (List Int) := ((List.range n).drop j).flatMap fun x => cond (f.any fun y => decide (y = ((x : Nat) : Int))) [] (ordS n k (f ++ [((x : Nat) : Int)]))
theorem loop {ρ : Type} {N m n k q : Nat} (hq : 5 ^ k = q) (hn : n ≤ 5) {f : List Int} (hf : f.length + (k + 1) = n) (hm : k < m) (k0 : List (List Int) → Option ρ) : ∀ (M j : Nat) (l : List (List Int)), j ≤ n → l.length + (n - j) * q ≤ 4000 → n - j < M →
    Z8L N m k0 M f l (n : Int) (j : Int) = k0 (l ++ rest n k f j) := by
  intro M
  induction M with
  | zero => intro j l _ _ h; omega
  | succ M ih =>
    intro j l hj hl hM
    simp only [Z8L, Z9]
    by_cases h : j < n
    · rw [ct (dt (by omega))]
      have e : (n - j) * q = (n - (j + 1)) * q + q := by
        rw [← Nat.succ_mul]
        congr 1
        omega
      have hr : rest n k f j = cond (f.any fun y => decide (y = ((j : Nat) : Int))) [] (ordS n k (f ++ [((j : Nat) : Int)])) ++ rest n k f (j + 1) := by
        unfold rest
        rw [range_drop h, List.flatMap_cons]
      rw [hr, w64_succ (by rw [maxLen_val]; omega)]
      have e0 : spec_l1Has.g f (j : Int) = f.any fun y => decide (y = ((j : Nat) : Int)) := rfl
      rw [e0]
      cases f.any fun y => decide (y = ((j : Nat) : Int))
      · have hI : spec_l1Ints.P f = true := dt (by omega)
        have hIg : spec_l1Ints.g f = f := rfl
        have hP : (Nat.blt (mu (f ++ [(j : Int)]) (n : Int) l) m && P (f ++ [(j : Int)]) (n : Int) l) = true := by
          have hlen : (f ++ [(j : Int)]).length = f.length + 1 := by simp
          simp only [mu, P, hlen, Int.toNat_natCast, Bool.and_eq_true, decide_eq_true_eq]
          refine ⟨Nat.ble_eq_true_of_le (by omega), by omega, by omega, by omega, ?_⟩
          rw [show n - (f.length + 1) = k by omega, hq]
          omega
        have hg : g (f ++ [(j : Int)]) (n : Int) l = l ++ ordS n k (f ++ [(j : Int)]) := by
          have hlen : (f ++ [(j : Int)]).length = f.length + 1 := by simp
          rw [g, hlen, Int.toNat_natCast, show n - (f.length + 1) = k by omega]
        have hb : Nat.blt (f.length + ([(j : Int)] : List Int).length) 1099511627776 = true := Nat.ble_eq_true_of_le (by simp; omega)
        have hol := ordS_len n hn k (f ++ [(j : Int)])
        rw [hq] at hol
        rw [lk_eq, ct' (show (!false) = true from rfl), ct hI, hIg, ct hb, ct hP, hg, ih (j + 1) _ h (by rw [List.length_append]; omega) (by omega), cond_false, List.append_assoc]
      · rw [lk_eq, cf' (show (!true) = false from rfl), ih (j + 1) l h (by omega) (by omega), cond_true, List.nil_append]
    · rw [cf (df (by omega)), show j = n by omega]
      unfold rest
      rw [List.drop_of_length_le (by simp)]
      simp
theorem ok : Spec := fun m f n l hb hb2 hp => ⟨10, fun N hN => by
  simp only [P, mu, Bool.and_eq_true, decide_eq_true_eq] at hp
  obtain ⟨h0, h1, h2, h3, h4⟩ := hp
  have h0 : n.toNat - f.length < m + 1 := Nat.le_of_ble_eq_true h0
  obtain ⟨n, rfl⟩ := Int.eq_ofNat_of_zero_le h1
  simp only [Int.toNat_natCast] at h0 h3 h4
  have hn : n ≤ 5 := by omega
  simp only [Z0, Z1, Z2, Z3]
  by_cases h : f.length = n
  · have hp := Nat.pow_pos (a := 5) (n := n - f.length) (by omega)
    have hb : Nat.blt (l.length + ([f] : List (List Int)).length) 1099511627776 = true := Nat.ble_eq_true_of_le (by simp; omega)
    rw [ct (dt (by omega)), ct hb, g, Int.toNat_natCast, show n - f.length = 0 by omega]
    rfl
  · rw [cf (df (by omega))]
    simp only [Z4, Z5, Z6, Z7, Z8]
    obtain ⟨k, hk⟩ : ∃ k, f.length + (k + 1) = n := ⟨n - f.length - 1, by omega⟩
    have e : n - f.length = k + 1 := by omega
    rw [e, Nat.pow_succ] at h4
    have h5 : n * 5 ^ k ≤ 5 ^ k * 5 := by rw [Nat.mul_comm]; exact Nat.mul_le_mul_left _ hn
    refine (loop rfl hn hk (by omega) _ N 0 l (Nat.zero_le _) (by rw [Nat.sub_zero]; exact Nat.le_trans (Nat.add_le_add_left h5 _) h4) (by omega)).trans ?_
    rw [g, Int.toNat_natCast, e]
    rfl⟩
end spec_l1Orders
end
end Go.Fw
namespace Go.Fw
noncomputable section
variable {ρ : Type}
namespace spec_l1Rename
def P (m : Int × Int × List Int) (names : List Int) : Bool := dimK m && namesK names m.1
def g (m : Int × Int × List Int) (names : List Int) : Int × Int × List Int := renK m names
end spec_l1Rename
namespace spec_l1Rename
def Z1 {ρ : Type} (N : Nat) (v0 : MT) (v1 : LI) (kn : LI → I2 (LI → I2 (Option ρ))) : Option ρ :=
 kn v1 v0.1 v0.2.1 v0.2.2 0 0
def Z3 {ρ : Type} (N : Nat) (v1 : LI) (v2_0 v2_1 : Int) (v2_2 : LI) (v4_0 v4_1 : Int) (kn : LI → LI → I2 (LI → I4 (Option ρ))) : Option ρ :=
 cond (lk N (spec_l1CopyMatrix.P (v2_0, (v2_1, v2_2)))) (
  kn (spec_l1CopyMatrix.g (v2_0, (v2_1, v2_2))).2.2 v1 v2_0 v2_1 v2_2 v4_0 v4_1 (spec_l1CopyMatrix.g (v2_0, (v2_1, v2_2))).1 (spec_l1CopyMatrix.g (v2_0, (v2_1, v2_2))).2.1) none
def Z6 {ρ : Type} (N : Nat) (v5_2 v1 : LI) (v2_0 v2_1 : Int) (v2_2 : LI) (v4_0 v4_1 v5_0 v5_1 : Int) (kn : LI → LI → I3 (LI → I4 (Option ρ))) : Option ρ :=
 kn v5_2 v1 0 v2_0 v2_1 v2_2 v4_0 v4_1 v5_0 v5_1
def Z10 {ρ : Type} (N : Nat) (v5_2 v1 : LI) (v6 v2_0 v2_1 : Int) (v2_2 : LI) (v4_0 v4_1 v5_0 v5_1 : Int) (kn : LI → LI → I3 (LI → I4 (Option ρ))) (k0 : LI → I4 (Option ρ)) : Option ρ :=
 cond (lk N (decide (v6 < v2_1)))
 (
  kn v5_2 v1 v6 v2_0 v2_1 v2_2 v4_0 v4_1 v5_0 v5_1)
 (
  k0 v5_2 v4_0 v4_1 v5_0 v5_1)
def Z14 {ρ : Type} (N : Nat) (v5_2 v1 : LI) (v6 v2_0 v2_1 : Int) (v2_2 : LI) (v4_0 v4_1 v5_0 v5_1 : Int) (kn : LI → LI → I4 (LI → I4 (Option ρ))) : Option ρ :=
 kn v5_2 v1 v6 v6 v2_0 v2_1 v2_2 v4_0 v4_1 v5_0 v5_1
def Z16 {ρ : Type} (N : Nat) (v5_2 v1 : LI) (v6 v7 v2_0 v2_1 : Int) (v2_2 : LI) (v4_0 v4_1 v5_0 v5_1 : Int) (kn : LI → LI → I4 (LI → I4 (Option ρ))) : Option ρ :=
 cond (lk N (decide (v6 < v2_0)))
 (
  cond (lk N (inB v6 v1.length)) (
   kn v5_2 v1 v6 (v1.getD v6.toNat 0) v2_0 v2_1 v2_2 v4_0 v4_1 v5_0 v5_1) none)
 (
  kn v5_2 v1 v6 v7 v2_0 v2_1 v2_2 v4_0 v4_1 v5_0 v5_1)
def Z18 {ρ : Type} (N : Nat) (v5_2 v1 : LI) (v6 v7 v2_0 v2_1 : Int) (v2_2 : LI) (v4_0 v4_1 v5_0 v5_1 : Int) (kn : LI → LI → I5 (LI → I4 (Option ρ))) : Option ρ :=
 kn v5_2 v1 v6 v7 0 v2_0 v2_1 v2_2 v4_0 v4_1 v5_0 v5_1
def Z21 {ρ : Type} (N : Nat) (v5_2 v1 : LI) (v6 v7 v8 v2_0 v2_1 : Int) (v2_2 : LI) (v4_0 v4_1 v5_0 v5_1 : Int) (kn : LI → LI → I5 (LI → I4 (Option ρ))) (k2 : LI → LI → I3 (LI → I4 (Option ρ))) : Option ρ :=
 cond (lk N (decide (v8 < v2_0)))
 (
  cond (lk N (inB v8 v1.length)) (
   cond (lk N (spec_l1At.P (v2_0, (v2_1, v2_2)) v6 v8)) (
    cond (lk N (inB (w64 ((w64 (v7 * v2_0)) + (v1.getD v8.toNat 0))) v5_2.length)) (
     kn (v5_2.set (w64 ((w64 (v7 * v2_0)) + (v1.getD v8.toNat 0))).toNat (spec_l1At.g (v2_0, (v2_1, v2_2)) v6 v8)) v1 v6 v7 (w64 (v8 + 1)) v2_0 v2_1 v2_2 v4_0 v4_1 v5_0 v5_1) none) none) none)
 (
  k2 v5_2 v1 v6 v2_0 v2_1 v2_2 v4_0 v4_1 v5_0 v5_1)
def Z20L {ρ : Type} (N : Nat) (k2 : LI → LI → I3 (LI → I4 (Option ρ))) : Nat → LI → LI → Int → Int → Int → Int → Int → LI → Int → Int → Int → Int → Option ρ
  | 0, _, _, _, _, _, _, _, _, _, _, _, _ => none
  | M + 1, v5_2, v1, v6, v7, v8, v2_0, v2_1, v2_2, v4_0, v4_1, v5_0, v5_1 => Z21 N v5_2 v1 v6 v7 v8 v2_0 v2_1 v2_2 v4_0 v4_1 v5_0 v5_1 (fun v5_2 v1 v6 v7 v8 v2_0 v2_1 v2_2 v4_0 v4_1 v5_0 v5_1 => Z20L N k2 M v5_2 v1 v6 v7 v8 v2_0 v2_1 v2_2 v4_0 v4_1 v5_0 v5_1) k2
def Z20 N v5_2 v1 v6 v7 v8 v2_0 v2_1 v2_2 v4_0 v4_1 v5_0 v5_1 k2 := (Z20L N k2 N v5_2 v1 v6 v7 v8 v2_0 v2_1 v2_2 v4_0 v4_1 v5_0 v5_1 : Option ρ)
def Z19 N v5_2 v1 v6 v7 v8 v2_0 v2_1 v2_2 v4_0 v4_1 v5_0 v5_1 kn := (Z20 N v5_2 v1 v6 v7 v8 v2_0 v2_1 v2_2 v4_0 v4_1 v5_0 v5_1 kn : Option ρ)
def Z17 N v5_2 v1 v6 v7 v2_0 v2_1 v2_2 v4_0 v4_1 v5_0 v5_1 kn := (Z18 N v5_2 v1 v6 v7 v2_0 v2_1 v2_2 v4_0 v4_1 v5_0 v5_1 (fun v5_2 v1 v6 v7 v8 v2_0 v2_1 v2_2 v4_0 v4_1 v5_0 v5_1 => Z19 N v5_2 v1 v6 v7 v8 v2_0 v2_1 v2_2 v4_0 v4_1 v5_0 v5_1 kn) : Option ρ)
def Z15 N v5_2 v1 v6 v7 v2_0 v2_1 v2_2 v4_0 v4_1 v5_0 v5_1 kn := (Z16 N v5_2 v1 v6 v7 v2_0 v2_1 v2_2 v4_0 v4_1 v5_0 v5_1 (fun v5_2 v1 v6 v7 v2_0 v2_1 v2_2 v4_0 v4_1 v5_0 v5_1 => Z17 N v5_2 v1 v6 v7 v2_0 v2_1 v2_2 v4_0 v4_1 v5_0 v5_1 kn) : Option ρ)
def Z13 N v5_2 v1 v6 v2_0 v2_1 v2_2 v4_0 v4_1 v5_0 v5_1 kn := (Z14 N v5_2 v1 v6 v2_0 v2_1 v2_2 v4_0 v4_1 v5_0 v5_1 (fun v5_2 v1 v6 v7 v2_0 v2_1 v2_2 v4_0 v4_1 v5_0 v5_1 => Z15 N v5_2 v1 v6 v7 v2_0 v2_1 v2_2 v4_0 v4_1 v5_0 v5_1 kn) : Option ρ)
def Z12 N v5_2 v1 v6 v2_0 v2_1 v2_2 v4_0 v4_1 v5_0 v5_1 kn := (Z13 N v5_2 v1 v6 v2_0 v2_1 v2_2 v4_0 v4_1 v5_0 v5_1 kn : Option ρ)
def Z22 {ρ : Type} (N : Nat) (v5_2 v1 : LI) (v6 v2_0 v2_1 : Int) (v2_2 : LI) (v4_0 v4_1 v5_0 v5_1 : Int) (kn : LI → LI → I3 (LI → I4 (Option ρ))) : Option ρ :=
 kn v5_2 v1 (w64 (v6 + 1)) v2_0 v2_1 v2_2 v4_0 v4_1 v5_0 v5_1
def Z11 N v5_2 v1 v6 v2_0 v2_1 v2_2 v4_0 v4_1 v5_0 v5_1 kn := (Z12 N v5_2 v1 v6 v2_0 v2_1 v2_2 v4_0 v4_1 v5_0 v5_1 (fun v5_2 v1 v6 v2_0 v2_1 v2_2 v4_0 v4_1 v5_0 v5_1 => Z22 N v5_2 v1 v6 v2_0 v2_1 v2_2 v4_0 v4_1 v5_0 v5_1 kn) : Option ρ)
def Z9 N v5_2 v1 v6 v2_0 v2_1 v2_2 v4_0 v4_1 v5_0 v5_1 kn k0 := (Z10 N v5_2 v1 v6 v2_0 v2_1 v2_2 v4_0 v4_1 v5_0 v5_1 (fun v5_2 v1 v6 v2_0 v2_1 v2_2 v4_0 v4_1 v5_0 v5_1 => Z11 N v5_2 v1 v6 v2_0 v2_1 v2_2 v4_0 v4_1 v5_0 v5_1 kn) k0 : Option ρ)
def Z8L {ρ : Type} (N : Nat) (k0 : LI → I4 (Option ρ)) : Nat → LI → LI → Int → Int → Int → LI → Int → Int → Int → Int → Option ρ
  | 0, _, _, _, _, _, _, _, _, _, _ => none
  | M + 1, v5_2, v1, v6, v2_0, v2_1, v2_2, v4_0, v4_1, v5_0, v5_1 => Z9 N v5_2 v1 v6 v2_0 v2_1 v2_2 v4_0 v4_1 v5_0 v5_1 (fun v5_2 v1 v6 v2_0 v2_1 v2_2 v4_0 v4_1 v5_0 v5_1 => Z8L N k0 M v5_2 v1 v6 v2_0 v2_1 v2_2 v4_0 v4_1 v5_0 v5_1) k0
def Z8 N v5_2 v1 v6 v2_0 v2_1 v2_2 v4_0 v4_1 v5_0 v5_1 k0 := (Z8L N k0 N v5_2 v1 v6 v2_0 v2_1 v2_2 v4_0 v4_1 v5_0 v5_1 : Option ρ)
def Z7 N v5_2 v1 v6 v2_0 v2_1 v2_2 v4_0 v4_1 v5_0 v5_1 kn := (Z8 N v5_2 v1 v6 v2_0 v2_1 v2_2 v4_0 v4_1 v5_0 v5_1 kn : Option ρ)
def Z5 N v5_2 v1 v2_0 v2_1 v2_2 v4_0 v4_1 v5_0 v5_1 kn := (Z6 N v5_2 v1 v2_0 v2_1 v2_2 v4_0 v4_1 v5_0 v5_1 (fun v5_2 v1 v6 v2_0 v2_1 v2_2 v4_0 v4_1 v5_0 v5_1 => Z7 N v5_2 v1 v6 v2_0 v2_1 v2_2 v4_0 v4_1 v5_0 v5_1 kn) : Option ρ)
def Z23 {ρ : Type} (N : Nat) (v5_2 : LI) (v4_0 v4_1 v5_0 v5_1 : Int) (kr : LI → I2 (Option ρ)) : Option ρ :=
 kr v5_2 v5_0 v5_1
def Z4 N v5_2 v1 v2_0 v2_1 v2_2 v4_0 v4_1 v5_0 v5_1 kr := (Z5 N v5_2 v1 v2_0 v2_1 v2_2 v4_0 v4_1 v5_0 v5_1 (fun v5_2 v4_0 v4_1 v5_0 v5_1 => Z23 N v5_2 v4_0 v4_1 v5_0 v5_1 kr) : Option ρ)
def Z2 N v1 v2_0 v2_1 v2_2 v4_0 v4_1 kr := (Z3 N v1 v2_0 v2_1 v2_2 v4_0 v4_1 (fun v5_2 v1 v2_0 v2_1 v2_2 v4_0 v4_1 v5_0 v5_1 => Z4 N v5_2 v1 v2_0 v2_1 v2_2 v4_0 v4_1 v5_0 v5_1 kr) : Option ρ)
def Z0 N v0 v1 kr := (Z1 N v0 v1 (fun v1 v2_0 v2_1 v2_2 v4_0 v4_1 => Z2 N v1 v2_0 v2_1 v2_2 v4_0 v4_1 kr) : Option ρ)
def Spec : Prop := ∀  (v0 : MT) (v1 : LI), Ty.bd (.pair (.int .i64) (.pair (.int .i64) (.sl 0 (.int .i64)))) v0 → Ty.bd (.sl 0 (.int .i64)) v1 → P v0 v1 = true → ∃ N0, ∀ N, N0 ≤ N → Z0 N v0 v1 (fun v4_2 v4_0 v4_1 => some ((), ((v4_0, (v4_1, v4_2)), ()))) = some ((), ((g v0 v1), ()))
section
variable {ρ : Type} {N : Nat} {m : Int × Int × List Int} {L : List Nat}
theorem at_g (hd : 0 ≤ m.1) (a b : Nat) : spec_l1At.g (m.1, (m.2.1, m.2.2)) (a : Int) (b : Int) = ent m a b := atK_nat hd a b
theorem at_p (hd : dimK m = true) {a b : Nat} (ha : a < m.2.1.toNat) (hb : b < m.1.toNat) : spec_l1At.P (m.1, (m.2.1, m.2.2)) (a : Int) (b : Int) = true := at_ok hd ha hb
def cur (m : Int × Int × List Int) (L : List Nat) (st : List Int) (t : Nat) : List Int := scat m.2.2.length t (backN m.1.toNat L) (fun p => m.2.2.getD (backN m.1.toNat L p) 0) (fun p => st.getD p 0)
theorem inner (hd : dimK m = true) (h1 : L.Nodup) (h2 : ∀ x ∈ L, x < m.1.toNat) (h3 : L.length = m.1.toNat) (st : List Int) (k2 : List Int → List Int → Int → Int → Int → List Int → Int → Int → Int → Int → Option ρ) (t0 t1 o0 o1 : Int) {i : Nat} (hi : i < m.2.1.toNat) : ∀ (M j : Nat), j ≤ m.1.toNat → m.1.toNat - j < M →
    Z20L N k2 M (cur m L st (i * m.1.toNat + j)) (ints L) (i : Int) ((rowN m.1.toNat L i : Nat) : Int) (j : Int) m.1 m.2.1 m.2.2 t0 t1 o0 o1 = k2 (cur m L st (i * m.1.toNat + m.1.toNat)) (ints L) (i : Int) m.1 m.2.1 m.2.2 t0 t1 o0 o1 := by
  obtain ⟨n, r, hn, hr, hn1, hn5, hnr, hr8, hl⟩ := dim_nat hd
  have hnr' : m.1.toNat ≤ m.2.1.toNat := by omega
  intro M
  induction M with
  | zero => intro j _ h; omega
  | succ M ih =>
    intro j hj hM
    simp only [Z20L, Z21]
    by_cases h : j < m.1.toNat
    · have hx := h2 _ (getD_mem (l := L) (j := j) 0 (by omega))
      have hrow := rowN_lt h1 h2 h3 hnr' hi
      have hlt : rowN m.1.toNat L i * m.1.toNat + L.getD j 0 < m.2.2.length := by
        have := ent_lt (n := m.1.toNat) (r := m.2.1.toNat) hrow hx
        rw [hl]
        have e : m.2.1.toNat * m.1.toNat = r * n := by rw [hn, hr]; rfl
        omega
      have hidx : w64 (w64 (((rowN m.1.toNat L i : Nat) : Int) * m.1) + ((L.getD j 0 : Nat) : Int)) = ((rowN m.1.toNat L i * m.1.toNat + L.getD j 0 : Nat) : Int) := by
        have e : ((rowN m.1.toNat L i : Nat) : Int) * m.1 = ((rowN m.1.toNat L i * m.1.toNat : Nat) : Int) := by rw [hn, Int.natCast_mul]; simp
        have hb : rowN m.1.toNat L i * m.1.toNat ≤ 8 * 5 := Nat.mul_le_mul (by omega) (by omega)
        have e2 : w64 (((rowN m.1.toNat L i * m.1.toNat : Nat) : Int)) = ((rowN m.1.toNat L i * m.1.toNat : Nat) : Int) := w64_id (by omega) (by omega)
        rw [e, e2, w64_id (by omega) (by omega)]
        omega
      have hset : (cur m L st (i * m.1.toNat + j)).set (rowN m.1.toNat L i * m.1.toNat + L.getD j 0) (ent m i j) = cur m L st (i * m.1.toNat + (j + 1)) := by
        have e := scat_set (total := m.2.2.length) (t := i * m.1.toNat + j) (p := rowN m.1.toNat L i * m.1.toNat + L.getD j 0) (back := backN m.1.toNat L) (F := fun p => m.2.2.getD (backN m.1.toNat L p) 0) (G := fun p => st.getD p 0) hlt (back_fwd h1 h2 h3 hnr' h) (fun q _ hq => back_inj h1 h2 h3 hnr' h hq)
        simp only [back_fwd h1 h2 h3 hnr' h] at e
        exact e
      rw [ct (dt (by omega)), ct (inB_nat (by rw [ints_len]; omega)), ct (at_p hd hi h)]
      simp only [Int.toNat_natCast, ints_getD, hidx]
      rw [ct (inB_nat (by rw [cur, scat_len]; exact hlt)), at_g (by omega), hset, w64_succ (by rw [maxLen_val]; omega)]
      exact ih (j + 1) h (by omega)
    · rw [cf (df (by omega)), show j = m.1.toNat by omega]
theorem outer (hN : 10 ≤ N) (hd : dimK m = true) (h1 : L.Nodup) (h2 : ∀ x ∈ L, x < m.1.toNat) (h3 : L.length = m.1.toNat) (st : List Int) (k0 : List Int → Int → Int → Int → Int → Option ρ) (t0 t1 o0 o1 : Int) : ∀ (M i : Nat), i ≤ m.2.1.toNat → m.2.1.toNat - i < M →
    Z8L N k0 M (cur m L st (i * m.1.toNat)) (ints L) (i : Int) m.1 m.2.1 m.2.2 t0 t1 o0 o1 = k0 (cur m L st (m.2.1.toNat * m.1.toNat)) t0 t1 o0 o1 := by
  obtain ⟨n, r, hn, hr, hn1, hn5, hnr, hr8, hl⟩ := dim_nat hd
  intro M
  induction M with
  | zero => intro i _ h; omega
  | succ M ih =>
    intro i hi hM
    simp only [Z8L, Z9, Z10]
    by_cases h : i < m.2.1.toNat
    · have hin := inner (ρ := ρ) (N := N) hd h1 h2 h3 st (fun out5_2 names1 i6 m2_0 m2_1 m2_2 t4_0 t4_1 out5_0 out5_1 => Z22 N out5_2 names1 i6 m2_0 m2_1 m2_2 t4_0 t4_1 out5_0 out5_1 (fun out5_2 names1 i6 m2_0 m2_1 m2_2 t4_0 t4_1 out5_0 out5_1 => Z8L N k0 M out5_2 names1 i6 m2_0 m2_1 m2_2 t4_0 t4_1 out5_0 out5_1)) t0 t1 o0 o1 h N 0 (by omega) (by omega)
      rw [show ((0 : Nat) : Int) = 0 from rfl, Nat.add_zero] at hin
      have hnext := ih (i + 1) h (by omega)
      rw [Nat.add_mul, Nat.one_mul] at hnext
      rw [ct (dt (by omega))]
      simp only [Z11, Z12, Z13, Z14, Z15, Z16]
      by_cases hin' : i < m.1.toNat
      · rw [ct (dt (by omega)), ct (inB_nat (by rw [ints_len]; omega)), Int.toNat_natCast, ints_getD]
        rw [rowN, if_pos hin'] at hin
        simp only [Z17, Z18, Z19, Z20]
        rw [hin]
        simp only [Z22]
        rw [w64_succ (by rw [maxLen_val]; omega)]
        exact hnext
      · rw [cf (df (by omega))]
        rw [rowN, if_neg hin'] at hin
        simp only [Z17, Z18, Z19, Z20]
        rw [hin]
        simp only [Z22]
        rw [w64_succ (by rw [maxLen_val]; omega)]
        exact hnext
    · rw [cf (df (by omega)), show i = m.2.1.toNat by omega]
theorem cur_start (L : List Nat) : cur m L m.2.2 0 = m.2.2 := by
  unfold cur
  rw [scat_zero]
  exact list_map 0 rfl
theorem cur_end (hd : dimK m = true) (h1 : L.Nodup) (h2 : ∀ x ∈ L, x < m.1.toNat) (h3 : L.length = m.1.toNat) (st : List Int) : cur m L st (m.2.1.toNat * m.1.toNat) = (renK m (ints L)).2.2 := by
  obtain ⟨n, r, hn, hr, hn1, hn5, hnr, hr8, hl⟩ := dim_nat hd
  have e : m.2.1.toNat * m.1.toNat = m.2.2.length := by rw [hl, hn, hr]; simp
  rw [e]
  unfold cur renK
  rw [toNat_ints]
  exact scat_full (fun p hp => by
    have := back_lt h1 h2 h3 (r := m.2.1.toNat) (by omega) (by omega) (q := p) (by omega)
    omega)
end
theorem ok : Spec := fun m names hb hv hp => ⟨10, fun N hN => by
  simp only [P, Bool.and_eq_true] at hp
  obtain ⟨hd, hnm⟩ := hp
  obtain ⟨L, rfl, h1, h2, h3⟩ := names_nat hnm
  obtain ⟨n, r, hn, hr, hn1, hn5, hnr, hr8, hl⟩ := dim_nat hd
  have hlen : m.2.2.length ≤ 8 * 5 := by rw [hl]; exact Nat.mul_le_mul hr8 hn5
  simp only [Z0, Z1, Z2, Z3]
  rw [ct (show spec_l1CopyMatrix.P (m.1, (m.2.1, m.2.2)) = true from dt (show m.2.2.length < 1099511627776 by omega))]
  simp only [Z4, Z5, Z6, Z7, Z8]
  have := outer (ρ := Unit × (Int × Int × List Int) × Unit) hN hd h1 h2 h3 m.2.2 (fun out5_2 t4_0 t4_1 out5_0 out5_1 => Z23 N out5_2 t4_0 t4_1 out5_0 out5_1 (fun t4_2 t4_0 t4_1 => some ((), ((t4_0, (t4_1, t4_2)), ())))) 0 0 m.1 m.2.1 N 0 (by omega) (by omega)
  rw [Nat.zero_mul, cur_start, cur_end hd h1 h2 h3] at this
  exact this⟩
end spec_l1Rename
end
end Go.Fw
namespace Go.Fw
noncomputable section
variable {ρ : Type}
namespace spec_l1Less
def g (a b : List Int) : Bool := lexLt a b
end spec_l1Less
namespace spec_l1Less
def Z1 {ρ : Type} (N : Nat) (v0 v1 : LI) (kn : LI → LI → Option ρ) : Option ρ :=
 kn v0 v1
def Z4 {ρ : Type} (N : Nat) (v0 v1 : LI) (kn : LI → LI → Int → Option ρ) : Option ρ :=
 kn v0 v1 0
def Z7 {ρ : Type} (N : Nat) (v0 v1 : LI) (v5 : Int) (kn : LI → LI → Int → Option ρ) (k0 : LI → LI → Option ρ) (kr : Bool → Option ρ) : Option ρ :=
 cond (lk N (decide (v5 < (v0.length : Int))))
 (
  cond (lk N (decide (v5 < (v1.length : Int))))
  (
   cond (lk N (inB v5 v0.length)) (
    cond (lk N (inB v5 v1.length)) (
     cond (lk N (!(decide ((v0.getD v5.toNat 0) = (v1.getD v5.toNat 0)))))
     (
      cond (lk N (inB v5 v0.length)) (
       cond (lk N (inB v5 v1.length)) (
        kr (lk N (decide ((v0.getD v5.toNat 0) < (v1.getD v5.toNat 0))))) none) none)
     (
      kn v0 v1 (w64 (v5 + 1)))) none) none)
  (
   k0 v0 v1))
 (
  k0 v0 v1)
def Z6L {ρ : Type} (N : Nat) (k0 : LI → LI → Option ρ) (kr : Bool → Option ρ) : Nat → LI → LI → Int → Option ρ
  | 0, _, _, _ => none
  | M + 1, v0, v1, v5 => Z7 N v0 v1 v5 (fun v0 v1 v5 => Z6L N k0 kr M v0 v1 v5) k0 kr
def Z6 N v0 v1 v5 k0 kr := (Z6L N k0 kr N v0 v1 v5 : Option ρ)
def Z5 N v0 v1 v5 kn kr := (Z6 N v0 v1 v5 kn kr : Option ρ)
def Z3 N v0 v1 kn kr := (Z4 N v0 v1 (fun v0 v1 v5 => Z5 N v0 v1 v5 kn kr) : Option ρ)
def Z8 {ρ : Type} (N : Nat) (v0 v1 : LI) (kr : Bool → Option ρ) : Option ρ :=
 kr (lk N (decide ((v0.length : Int) < (v1.length : Int))))
def Z2 N v0 v1 kr := (Z3 N v0 v1 (fun v0 v1 => Z8 N v0 v1 kr) kr : Option ρ)
def Z0 N v0 v1 kr := (Z1 N v0 v1 (fun v0 v1 => Z2 N v0 v1 kr) : Option ρ)
def Spec : Prop := ∀  (v0 v1 : LI), Ty.bd (.sl 0 (.int .i64)) v0 → Ty.bd (.sl 0 (.int .i64)) v1 → ∃ N0, ∀ N, N0 ≤ N → Z0 N v0 v1 (fun v4 => some ((), (v4, ()))) = some ((), ((g v0 v1), ()))
theorem loop {ρ : Type} (N : Nat) (k0 : List Int → List Int → Option ρ) (kr : Bool → Option ρ) (a b : List Int) (ha : a.length ≤ maxLen) (h0 : k0 a b = kr (decide (a.length < b.length))) : ∀ (M j : Nat), j ≤ a.length → j ≤ b.length → a.length - j < M →
    Z6L N k0 kr M a b (j : Int) = kr (lexLt (a.drop j) (b.drop j)) := by
  intro M
  induction M with
  | zero => intro j _ _ h; omega
  | succ M ih =>
    intro j hj hb hM
    simp only [Z6L, Z7]
    by_cases h : j < a.length
    · rw [ct (dt (by omega)), drop_getD 0 h]
      by_cases h2 : j < b.length
      · rw [ct (dt (by omega)), ct (inB_nat h), ct (inB_nat h2), Int.toNat_natCast, w64_succ (by omega), drop_getD (l := b) 0 h2, lexLt, ih (j + 1) h h2 (by omega)]
        by_cases e : a.getD j 0 = b.getD j 0
        · rw [cf (nf e), if_pos e]
        · rw [ct (nt e), if_neg e, ct (inB_nat h), ct (inB_nat h2), lk_eq]
      · rw [cf (df (by omega)), List.drop_of_length_le (l := b) (by omega), h0, df (by omega)]
        rfl
    · rw [cf (df (by omega)), List.drop_of_length_le (by omega), h0]
      by_cases h2 : j < b.length
      · rw [dt (by omega), drop_getD (l := b) 0 h2]; rfl
      · rw [df (by omega), List.drop_of_length_le (l := b) (by omega)]; rfl
theorem ok : Spec := fun a b ha hb => ⟨a.length + 1, fun N hN => by
  simp only [Z1, Z4, Z7, Z6, Z5, Z3, Z8, Z2, Z0]
  refine (loop N _ (fun t => some ((), (t, ()))) a b ha.1 ?_ N 0 (by omega) (by omega) (by omega)).trans rfl
  rw [lk_eq, show decide ((a.length : Int) < (b.length : Int)) = decide (a.length < b.length) from decide_eq_decide.2 (by omega)]⟩
end spec_l1Less
end
end Go.Fw
namespace Go.Fw
noncomputable section
variable {ρ : Type}
namespace spec_l1Canonical
def P (m : Int × Int × List Int) : Bool := dimK m && decide (m.2.1 = m.1)
def g (m : Int × Int × List Int) : Int × Int × List Int := canS m
end spec_l1Canonical
namespace spec_l1Canonical
def Z1 {ρ : Type} (N : Nat) (v0 : MT) (kn : I2 (LI → I2 (Option ρ))) : Option ρ :=
 kn v0.1 v0.2.1 v0.2.2 0 0
def Z3 {ρ : Type} (N : Nat) (v1_0 v1_1 : Int) (v1_2 : LI) (v2_0 v2_1 : Int) (kn : LI → I2 (LI → I4 (Option ρ))) : Option ρ :=
 cond (lk N (spec_l1CopyMatrix.P (v1_0, (v1_1, v1_2)))) (
  kn (spec_l1CopyMatrix.g (v1_0, (v1_1, v1_2))).2.2 v1_0 v1_1 v1_2 v2_0 v2_1 (spec_l1CopyMatrix.g (v1_0, (v1_1, v1_2))).1 (spec_l1CopyMatrix.g (v1_0, (v1_1, v1_2))).2.1) none
def Z5 {ρ : Type} (N : Nat) (v3_2 : LI) (v1_0 v1_1 : Int) (v1_2 : LI) (v2_0 v2_1 v3_0 v3_1 : Int) (kn : LL → LI → I2 (LI → I4 (Option ρ))) : Option ρ :=
 cond (lk N (spec_l1Orders.P ([] : List Int) v1_0 ([] : List (LI)))) (
  kn (spec_l1Orders.g ([] : List Int) v1_0 ([] : List (LI))) v3_2 v1_0 v1_1 v1_2 v2_0 v2_1 v3_0 v3_1) none
def Z8 {ρ : Type} (N : Nat) (v4 : LL) (v3_2 : LI) (v1_0 v1_1 : Int) (v1_2 : LI) (v2_0 v2_1 v3_0 v3_1 : Int) (kn : LL → LI → I3 (LI → I4 (Option ρ))) : Option ρ :=
 kn v4 v3_2 0 v1_0 v1_1 v1_2 v2_0 v2_1 v3_0 v3_1
def Z11 {ρ : Type} (N : Nat) (v4 : LL) (v3_2 : LI) (v5 v1_0 v1_1 : Int) (v1_2 : LI) (v2_0 v2_1 v3_0 v3_1 : Int) (kn : LL → LI → I3 (LI → I4 (Option ρ))) (k0 : LI → I4 (Option ρ)) : Option ρ :=
 cond (lk N (decide (v5 < (v4.length : Int))))
 (
  cond (lk N (inB v5 v4.length)) (
   both (
    cond (lk N (spec_l1Rename.P (v1_0, (v1_1, v1_2)) (v4.getD v5.toNat []))) (
     cond (lk N ((spec_l1Less.g (spec_l1Rename.g (v1_0, (v1_1, v1_2)) (v4.getD v5.toNat [])).2.2 v3_2)))
     (
      kn v4 (spec_l1Rename.g (v1_0, (v1_1, v1_2)) (v4.getD v5.toNat [])).2.2 (w64 (v5 + 1)) v1_0 v1_1 v1_2 v2_0 v2_1 (spec_l1Rename.g (v1_0, (v1_1, v1_2)) (v4.getD v5.toNat [])).1 (spec_l1Rename.g (v1_0, (v1_1, v1_2)) (v4.getD v5.toNat [])).2.1)
     (
      kn v4 v3_2 (w64 (v5 + 1)) v1_0 v1_1 v1_2 v2_0 v2_1 v3_0 v3_1)) none)
   (
    cond (lk N (spec_l1Rename.P (v1_0, (v1_1, v1_2)) (v4.getD v5.toNat []))) (
     cond (lk N ((spec_l1Less.g (spec_l1Rename.g (v1_0, (v1_1, v1_2)) (v4.getD v5.toNat [])).2.2 v3_2)))
     (
      kn v4 (spec_l1Rename.g (v1_0, (v1_1, v1_2)) (v4.getD v5.toNat [])).2.2 (w64 (v5 + 1)) v1_0 v1_1 v1_2 v2_0 v2_1 (spec_l1Rename.g (v1_0, (v1_1, v1_2)) (v4.getD v5.toNat [])).1 (spec_l1Rename.g (v1_0, (v1_1, v1_2)) (v4.getD v5.toNat [])).2.1)
     (
      kn v4 v3_2 (w64 (v5 + 1)) v1_0 v1_1 v1_2 v2_0 v2_1 v3_0 v3_1)) none)) none)
 (
  k0 v3_2 v2_0 v2_1 v3_0 v3_1)
def Z10L {ρ : Type} (N : Nat) (k0 : LI → I4 (Option ρ)) : Nat → LL → LI → Int → Int → Int → LI → Int → Int → Int → Int → Option ρ
  | 0, _, _, _, _, _, _, _, _, _, _ => none
  | M + 1, v4, v3_2, v5, v1_0, v1_1, v1_2, v2_0, v2_1, v3_0, v3_1 => Z11 N v4 v3_2 v5 v1_0 v1_1 v1_2 v2_0 v2_1 v3_0 v3_1 (fun v4 v3_2 v5 v1_0 v1_1 v1_2 v2_0 v2_1 v3_0 v3_1 => Z10L N k0 M v4 v3_2 v5 v1_0 v1_1 v1_2 v2_0 v2_1 v3_0 v3_1) k0
def Z10 N v4 v3_2 v5 v1_0 v1_1 v1_2 v2_0 v2_1 v3_0 v3_1 k0 := (Z10L N k0 N v4 v3_2 v5 v1_0 v1_1 v1_2 v2_0 v2_1 v3_0 v3_1 : Option ρ)
def Z9 N v4 v3_2 v5 v1_0 v1_1 v1_2 v2_0 v2_1 v3_0 v3_1 kn := (Z10 N v4 v3_2 v5 v1_0 v1_1 v1_2 v2_0 v2_1 v3_0 v3_1 kn : Option ρ)
def Z7 N v4 v3_2 v1_0 v1_1 v1_2 v2_0 v2_1 v3_0 v3_1 kn := (Z8 N v4 v3_2 v1_0 v1_1 v1_2 v2_0 v2_1 v3_0 v3_1 (fun v4 v3_2 v5 v1_0 v1_1 v1_2 v2_0 v2_1 v3_0 v3_1 => Z9 N v4 v3_2 v5 v1_0 v1_1 v1_2 v2_0 v2_1 v3_0 v3_1 kn) : Option ρ)
def Z12 {ρ : Type} (N : Nat) (v3_2 : LI) (v2_0 v2_1 v3_0 v3_1 : Int) (kr : LI → I2 (Option ρ)) : Option ρ :=
 kr v3_2 v3_0 v3_1
def Z6 N v4 v3_2 v1_0 v1_1 v1_2 v2_0 v2_1 v3_0 v3_1 kr := (Z7 N v4 v3_2 v1_0 v1_1 v1_2 v2_0 v2_1 v3_0 v3_1 (fun v3_2 v2_0 v2_1 v3_0 v3_1 => Z12 N v3_2 v2_0 v2_1 v3_0 v3_1 kr) : Option ρ)
def Z4 N v3_2 v1_0 v1_1 v1_2 v2_0 v2_1 v3_0 v3_1 kr := (Z5 N v3_2 v1_0 v1_1 v1_2 v2_0 v2_1 v3_0 v3_1 (fun v4 v3_2 v1_0 v1_1 v1_2 v2_0 v2_1 v3_0 v3_1 => Z6 N v4 v3_2 v1_0 v1_1 v1_2 v2_0 v2_1 v3_0 v3_1 kr) : Option ρ)
def Z2 N v1_0 v1_1 v1_2 v2_0 v2_1 kr := (Z3 N v1_0 v1_1 v1_2 v2_0 v2_1 (fun v3_2 v1_0 v1_1 v1_2 v2_0 v2_1 v3_0 v3_1 => Z4 N v3_2 v1_0 v1_1 v1_2 v2_0 v2_1 v3_0 v3_1 kr) : Option ρ)
def Z0 N v0 kr := (Z1 N v0 (fun v1_0 v1_1 v1_2 v2_0 v2_1 => Z2 N v1_0 v1_1 v1_2 v2_0 v2_1 kr) : Option ρ)
def Spec : Prop := ∀  (v0 : MT), Ty.bd (.pair (.int .i64) (.pair (.int .i64) (.sl 0 (.int .i64)))) v0 → P v0 = true → ∃ N0, ∀ N, N0 ≤ N → Z0 N v0 (fun v2_2 v2_0 v2_1 => some ((), ((v2_0, (v2_1, v2_2)), ()))) = some ((), ((g v0), ()))
theorem loop {ρ : Type} {N : Nat} {m : Int × Int × List Int} (hd : dimK m = true) {l : List (List Int)} (hl : ∀ o ∈ l, namesK o m.1 = true) (hl2 : l.length ≤ 4000) (k0 : List Int → Int → Int → Int → Int → Option ρ) (t0 t1 : Int) :
    ∀ (M j : Nat) (b : List Int), j ≤ l.length → l.length - j < M → Z10L N k0 M l b (j : Int) m.1 m.2.1 m.2.2 t0 t1 m.1 m.2.1 = k0 (minL (renD m) b (l.drop j)) t0 t1 m.1 m.2.1 := by
  intro M
  induction M with
  | zero => intro j b _ h; omega
  | succ M ih =>
    intro j b hj hM
    simp only [Z10L, Z11]
    by_cases h : j < l.length
    · have hP : spec_l1Rename.P (m.1, (m.2.1, m.2.2)) (l.getD j []) = true := by
        have := hl _ (getD_mem (l := l) [] h)
        simp only [spec_l1Rename.P, Bool.and_eq_true]
        exact ⟨hd, this⟩
      have e1 : (spec_l1Rename.g (m.1, (m.2.1, m.2.2)) (l.getD j [])).2.2 = renD m (l.getD j []) := rfl
      have e2 : (spec_l1Rename.g (m.1, (m.2.1, m.2.2)) (l.getD j [])).1 = m.1 := rfl
      have e3 : (spec_l1Rename.g (m.1, (m.2.1, m.2.2)) (l.getD j [])).2.1 = m.2.1 := rfl
      have e4 : spec_l1Less.g (renD m (l.getD j [])) b = lexLt (renD m (l.getD j [])) b := rfl
      rw [ct (dt (by omega)), ct (inB_nat h)]
      simp only [Int.toNat_natCast, both_self, e1, e2, e3, e4, lk_eq, hP, cond_true]
      rw [w64_succ (by rw [maxLen_val]; omega), ih (j + 1) _ h (by omega), ih (j + 1) _ h (by omega), drop_getD (l := l) [] h]
      have e5 : minL (renD m) b (l.getD j [] :: l.drop (j + 1)) = minL (renD m) (if lexLt (renD m (l.getD j [])) b = true then renD m (l.getD j []) else b) (l.drop (j + 1)) := rfl
      rw [e5]
      cases lexLt (renD m (l.getD j [])) b <;> rfl
    · rw [cf (df (by omega)), List.drop_of_length_le (by omega)]
      rfl
theorem ok : Spec := fun m hb hp => ⟨5000, fun N hN => by
  simp only [P, Bool.and_eq_true, decide_eq_true_eq] at hp
  obtain ⟨hd, hr⟩ := hp
  obtain ⟨n, r, hn, hr', hn1, hn5, hnr, hr8, hl⟩ := dim_nat hd
  have hlen : m.2.2.length ≤ 8 * 5 := by rw [hl]; exact Nat.mul_le_mul hr8 hn5
  have e1 : m.1.toNat = n := by omega
  have h5 : 5 ^ n ≤ 5 ^ 5 := Nat.pow_le_pow_right (by omega) hn5
  have hOP : spec_l1Orders.P [] m.1 [] = true := by
    simp only [spec_l1Orders.P, List.length_nil, Bool.and_eq_true, decide_eq_true_eq, e1, Nat.sub_zero, Nat.zero_add]
    exact ⟨by omega, by omega, by omega, Nat.le_trans h5 (by decide)⟩
  have hO : spec_l1Orders.g [] m.1 [] = ordS n n [] := by
    rw [spec_l1Orders.g, e1]
    rfl
  have hol := ordS_len n hn5 n []
  have hol : (ordS n n []).length ≤ 4000 := Nat.le_trans hol (Nat.le_trans h5 (by decide))
  have hnm : ∀ o ∈ ordS n n [], namesK o m.1 = true := fun o ho => by
    rw [hn]
    exact ord_names hn5 ((ord_same hn5 o).2 ho)
  simp only [Z0, Z1, Z2, Z3]
  rw [ct (show spec_l1CopyMatrix.P (m.1, (m.2.1, m.2.2)) = true from dt (show m.2.2.length < 1099511627776 by omega))]
  simp only [Z4, Z5]
  rw [ct hOP, hO]
  simp only [Z6, Z7, Z8, Z9, Z10]
  refine (loop hd hnm hol _ _ _ N 0 _ (Nat.zero_le _) (by omega)).trans ?_
  rw [List.drop_zero, g, canS, e1]
  rfl⟩
end spec_l1Canonical
end
end Go.Fw
namespace Go.Fw
noncomputable section
variable {ρ : Type}
namespace spec_CanonicalMatrix
def g (m : Int × Int × List Int) : (Int × Int × List Int) × Bool := if ((sizesK m && !decide (facK m = [])) && decide (m.2.1 = m.1)) = true then (canS m, true) else ((0, 0, []), false)
end spec_CanonicalMatrix
namespace spec_CanonicalMatrix
def Z0 {ρ : Type} (N : Nat) (v0 : MT) (kr : LI → Bool → I2 (Option ρ)) : Option ρ :=
 cond (!(lk N ((spec_MatrixOk.g v0))))
 (
  kr ([] : List Int) false 0 0)
 (
  cond (lk N (!(decide (v0.2.1 = v0.1))))
  (
   kr ([] : List Int) false 0 0)
  (
   cond (lk N (spec_l1Canonical.P v0)) (
    kr (spec_l1Canonical.g v0).2.2 true (spec_l1Canonical.g v0).1 (spec_l1Canonical.g v0).2.1) none))
def Spec : Prop := ∀  (v0 : MT), Ty.bd (.pair (.int .i64) (.pair (.int .i64) (.sl 0 (.int .i64)))) v0 → ∃ N0, ∀ N, N0 ≤ N → Z0 N v0 (fun v2_2 v3 v2_0 v2_1 => some ((), ((v2_0, (v2_1, v2_2)), (v3, ())))) = some ((), ((g v0).1, ((g v0).2, ())))
theorem ok : Spec := fun m hb => ⟨0, fun N hN => by
  simp only [Z0, lk_eq, g, spec_MatrixOk.g]
  cases h1 : (sizesK m && !decide (facK m = []))
  · rfl
  have hs : sizesK m = true := by
    simp only [Bool.and_eq_true] at h1
    exact h1.1
  have hd := shaped_dim (sizes_shaped hs)
  by_cases h2 : m.2.1 = m.1
  · have hP : spec_l1Canonical.P m = true := by
      simp only [spec_l1Canonical.P, Bool.and_eq_true, decide_eq_true_eq]
      exact ⟨hd, h2⟩
    rw [dt h2, hP]
    rfl
  · rw [df h2]
    rfl⟩
end spec_CanonicalMatrix
end
end Go.Fw
namespace Go.Fw
theorem can_alike (m : Int × Int × List Int) : impl_CanonicalMatrix.g m = spec_CanonicalMatrix.g m := by
  unfold impl_CanonicalMatrix.g spec_CanonicalMatrix.g
  rw [ok_alike]
  split
  · rename_i h
    simp only [Bool.and_eq_true, decide_eq_true_eq] at h
    rw [can_same (shaped_dim (sizes_shaped h.1.1)) h.2]
  · rfl
theorem can_square {m : Int × Int × List Int} (h : (spec_CanonicalMatrix.g m).2 = true) : (spec_CanonicalMatrix.g m).1.2.1 = (spec_CanonicalMatrix.g m).1.1 := by
  unfold spec_CanonicalMatrix.g at h ⊢
  split
  · rename_i h'
    simp only [Bool.and_eq_true, decide_eq_true_eq] at h'
    exact h'.2
  · rfl
end Go.Fw
namespace Go.Fw
theorem szMat_le (a : Int × Int × List Int) (left : Int) (hb : a.2.2.length ≤ maxLen) (h0 : 0 ≤ left) (h1 : left ≤ 1048576) (h : ¬ laws_szMatrix.g a left < 0) : laws_toMatrix.P a = true ∧ a.2.2.length ≤ 1048576 ∧ 0 ≤ laws_szMatrix.g a left ∧ laws_szMatrix.g a left ≤ left := by
  unfold laws_szMatrix.g at h ⊢
  by_cases e : laws_szIntS.g a.2.2 left < 0
  · rw [if_pos e] at h; omega
  · rw [if_neg e]
    obtain ⟨k1, k2⟩ := szInt_le a.2.2 left hb h0 h1 e
    exact ⟨toInt_P _ (by omega), by omega, by omega, by omega⟩
theorem szMat_P2 (a b : Int × Int × List Int) (ha : a.2.2.length ≤ maxLen) (hb : b.2.2.length ≤ maxLen) (h1 : ¬ laws_szMatrix.g a 1048576 < 0) (h2 : ¬ laws_szMatrix.g b (laws_szMatrix.g a 1048576) < 0) : laws_toMatrix.P b = true := by
  obtain ⟨_, _, h3, h4⟩ := szMat_le a 1048576 ha (by omega) (by omega) h1
  exact (szMat_le b _ hb h3 h4 h2).1
end Go.Fw
namespace Go.Fw
noncomputable section
variable {ρ : Type}
namespace spec_l1Same
def g (a b : List Int) : Bool := decide (a = b)
end spec_l1Same
namespace spec_l1Same
def Z1 {ρ : Type} (N : Nat) (v0 v1 : LI) (kn : LI → LI → Option ρ) : Option ρ :=
 kn v0 v1
def Z3 {ρ : Type} (N : Nat) (v0 v1 : LI) (kn : LI → LI → Option ρ) (kr : Bool → Option ρ) : Option ρ :=
 cond (lk N (!(decide ((v0.length : Int) = (v1.length : Int)))))
 (
  kr false)
 (
  kn v0 v1)
def Z6 {ρ : Type} (N : Nat) (v0 v1 : LI) (kn : LI → LI → Int → Option ρ) : Option ρ :=
 kn v0 v1 0
def Z9 {ρ : Type} (N : Nat) (v0 v1 : LI) (v5 : Int) (kn : LI → LI → Int → Option ρ) (k0 : Option ρ) (kr : Bool → Option ρ) : Option ρ :=
 cond (lk N (decide (v5 < (v0.length : Int))))
 (
  cond (lk N (inB v5 v0.length)) (
   cond (lk N (inB v5 v1.length)) (
    cond (lk N (!(decide ((v0.getD v5.toNat 0) = (v1.getD v5.toNat 0)))))
    (
     kr false)
    (
     kn v0 v1 (w64 (v5 + 1)))) none) none)
 (
  k0)
def Z8L {ρ : Type} (N : Nat) (k0 : Option ρ) (kr : Bool → Option ρ) : Nat → LI → LI → Int → Option ρ
  | 0, _, _, _ => none
  | M + 1, v0, v1, v5 => Z9 N v0 v1 v5 (fun v0 v1 v5 => Z8L N k0 kr M v0 v1 v5) k0 kr
def Z8 N v0 v1 v5 k0 kr := (Z8L N k0 kr N v0 v1 v5 : Option ρ)
def Z7 N v0 v1 v5 kn kr := (Z8 N v0 v1 v5 kn kr : Option ρ)
def Z5 N v0 v1 kn kr := (Z6 N v0 v1 (fun v0 v1 v5 => Z7 N v0 v1 v5 kn kr) : Option ρ)
def Z10 {ρ : Type} (N : Nat)  (kr : Bool → Option ρ) : Option ρ :=
 kr true
def Z4 N v0 v1 kr := (Z5 N v0 v1 (Z10 N kr) kr : Option ρ)
def Z2 N v0 v1 kr := (Z3 N v0 v1 (fun v0 v1 => Z4 N v0 v1 kr) kr : Option ρ)
def Z0 N v0 v1 kr := (Z1 N v0 v1 (fun v0 v1 => Z2 N v0 v1 kr) : Option ρ)
def Spec : Prop := ∀  (v0 v1 : LI), Ty.bd (.sl 0 (.int .i64)) v0 → Ty.bd (.sl 0 (.int .i64)) v1 → ∃ N0, ∀ N, N0 ≤ N → Z0 N v0 v1 (fun v4 => some ((), (v4, ()))) = some ((), ((g v0 v1), ()))
theorem loop {ρ : Type} (N : Nat) (k0 : Option ρ) (kr : Bool → Option ρ) (a b : List Int) (hl : a.length = b.length) (ha : a.length ≤ maxLen) : ∀ (M j : Nat), j ≤ a.length → a.length - j < M →
    Z8L N k0 kr M a b (j : Int) = if a.drop j = b.drop j then k0 else kr false := by
  intro M
  induction M with
  | zero => intro j _ h; omega
  | succ M ih =>
    intro j hj hM
    simp only [Z8L, Z9]
    by_cases h : j < a.length
    · rw [ct (dt (by omega)), ct (inB_nat h), ct (inB_nat (by omega)), Int.toNat_natCast, w64_succ (by omega), ih (j + 1) h (by omega), drop_getD 0 h, drop_getD (l := b) (j := j) 0 (by omega)]
      by_cases e : a.getD j 0 = b.getD j 0
      · rw [cf (nf e), e]
        simp only [List.cons.injEq, true_and]
      · rw [ct (nt e), if_neg (by simp only [List.cons.injEq]; exact fun h => e h.1)]
    · rw [cf (df (by omega)), if_pos (by rw [List.drop_of_length_le (by omega), List.drop_of_length_le (by omega)])]
theorem ok : Spec := fun a b ha hb => ⟨a.length + 1, fun N hN => by
  simp only [Z1, Z3, Z6, Z9, Z8, Z7, Z5, Z10, Z4, Z2, Z0]
  by_cases hl : a.length = b.length
  · rw [cf (nf (by omega))]
    rw [show (0 : Int) = ((0 : Nat) : Int) from rfl, loop _ _ _ a b hl ha.1 N 0 (by omega) (by omega)]
    by_cases e : a = b <;> simp [e, g]
  · rw [ct (nt (by omega))]
    have : a ≠ b := fun e => hl (by rw [e])
    simp [g, this]⟩
end spec_l1Same
end
end Go.Fw
namespace Go.Fw
noncomputable section
variable {ρ : Type}
namespace spec_AreAlike
def g (a b : Int × Int × List Int) : Bool := (spec_CanonicalMatrix.g a).2 && ((spec_CanonicalMatrix.g b).2 && (decide ((spec_CanonicalMatrix.g a).1.1 = (spec_CanonicalMatrix.g b).1.1) && decide ((spec_CanonicalMatrix.g a).1.2.2 = (spec_CanonicalMatrix.g b).1.2.2)))
end spec_AreAlike
namespace spec_AreAlike
def Z0 {ρ : Type} (N : Nat) (v0 v1 : MT) (kr : Bool → Option ρ) : Option ρ :=
 cond (lk N ((spec_CanonicalMatrix.g v0).2))
 (
  cond (lk N ((spec_CanonicalMatrix.g v1).2))
  (
   cond (lk N (decide ((spec_CanonicalMatrix.g v0).1.1 = (spec_CanonicalMatrix.g v1).1.1)))
   (
    kr (lk N ((spec_l1Same.g (spec_CanonicalMatrix.g v0).1.2.2 (spec_CanonicalMatrix.g v1).1.2.2))))
   (
    kr false))
  (
   kr false))
 (
  kr false)
def Spec : Prop := ∀  (v0 v1 : MT), Ty.bd (.pair (.int .i64) (.pair (.int .i64) (.sl 0 (.int .i64)))) v0 → Ty.bd (.pair (.int .i64) (.pair (.int .i64) (.sl 0 (.int .i64)))) v1 → ∃ N0, ∀ N, N0 ≤ N → Z0 N v0 v1 (fun v4 => some ((), (v4, ()))) = some ((), ((g v0 v1), ()))
theorem ok : Spec := fun a b ha hb => ⟨0, fun N hN => by
  simp only [Z0, lk_eq, g, spec_l1Same.g]
  cases (spec_CanonicalMatrix.g a).2
  · rfl
  · cases (spec_CanonicalMatrix.g b).2
    · rfl
    · cases decide ((spec_CanonicalMatrix.g a).1.1 = (spec_CanonicalMatrix.g b).1.1) <;> rfl⟩
end spec_AreAlike
end
end Go.Fw
namespace Go.Fw
noncomputable section
variable {ρ : Type}
namespace slices_Equal_int_int
def g (a b : List Int) : Bool := decide (a = b)
end slices_Equal_int_int
namespace slices_Equal_int_int
def Z1 {ρ : Type} (N : Nat) (v0 v1 : LI) (kn : LI → LI → Option ρ) : Option ρ :=
 kn v0 v1
def Z3 {ρ : Type} (N : Nat) (v0 v1 : LI) (kn : LI → LI → Option ρ) (kr : Bool → Option ρ) : Option ρ :=
 cond (lk N (!(decide ((v0.length : Int) = (v1.length : Int)))))
 (
  kr false)
 (
  kn v0 v1)
def Z6 {ρ : Type} (N : Nat) (v0 v1 : LI) (kn : LI → LI → I2 (Option ρ)) : Option ρ :=
 kn v0 v1 (v0.length : Int) 0
def Z9 {ρ : Type} (N : Nat) (v0 v1 : LI) (v12 v13 : Int) (kn : LI → LI → I2 (Option ρ)) (k0 : Option ρ) (kr : Bool → Option ρ) : Option ρ :=
 cond (lk N (decide (v13 < v12)))
 (
  cond (lk N (inB v13 v0.length)) (
   cond (lk N (inB v13 v1.length)) (
    cond (lk N (!(decide ((v0.getD v13.toNat 0) = (v1.getD v13.toNat 0)))))
    (
     kr false)
    (
     kn v0 v1 v12 (w64 (v13 + 1)))) none) none)
 (
  k0)
def Z8L {ρ : Type} (N : Nat) (k0 : Option ρ) (kr : Bool → Option ρ) : Nat → LI → LI → Int → Int → Option ρ
  | 0, _, _, _, _ => none
  | M + 1, v0, v1, v12, v13 => Z9 N v0 v1 v12 v13 (fun v0 v1 v12 v13 => Z8L N k0 kr M v0 v1 v12 v13) k0 kr
def Z8 N v0 v1 v12 v13 k0 kr := (Z8L N k0 kr N v0 v1 v12 v13 : Option ρ)
def Z7 N v0 v1 v12 v13 kn kr := (Z8 N v0 v1 v12 v13 kn kr : Option ρ)
def Z5 N v0 v1 kn kr := (Z6 N v0 v1 (fun v0 v1 v12 v13 => Z7 N v0 v1 v12 v13 kn kr) : Option ρ)
def Z10 {ρ : Type} (N : Nat)  (kr : Bool → Option ρ) : Option ρ :=
 kr true
def Z4 N v0 v1 kr := (Z5 N v0 v1 (Z10 N kr) kr : Option ρ)
def Z2 N v0 v1 kr := (Z3 N v0 v1 (fun v0 v1 => Z4 N v0 v1 kr) kr : Option ρ)
def Z0 N v0 v1 kr := (Z1 N v0 v1 (fun v0 v1 => Z2 N v0 v1 kr) : Option ρ)
def Spec : Prop := ∀  (v0 v1 : LI), Ty.bd (.sl 0 (.int .i64)) v0 → Ty.bd (.sl 0 (.int .i64)) v1 → ∃ N0, ∀ N, N0 ≤ N → Z0 N v0 v1 (fun v4 => some ((), (v4, ()))) = some ((), ((g v0 v1), ()))
theorem loop {ρ : Type} (N : Nat) (k0 : Option ρ) (kr : Bool → Option ρ) (a b : List Int) (hl : a.length = b.length) (ha : a.length ≤ maxLen) : ∀ (M j : Nat), j ≤ a.length → a.length - j < M →
    Z8L N k0 kr M a b (a.length : Int) (j : Int) = if a.drop j = b.drop j then k0 else kr false := by
  intro M
  induction M with
  | zero => intro j _ h; omega
  | succ M ih =>
    intro j hj hM
    simp only [Z8L, Z9]
    by_cases h : j < a.length
    · rw [ct (dt (by omega)), ct (inB_nat h), ct (inB_nat (by omega)), Int.toNat_natCast, w64_succ (by omega), ih (j + 1) h (by omega), drop_getD 0 h, drop_getD (l := b) (j := j) 0 (by omega)]
      by_cases e : a.getD j 0 = b.getD j 0
      · rw [cf (nf e), e]
        simp only [List.cons.injEq, true_and]
      · rw [ct (nt e), if_neg (by simp only [List.cons.injEq]; exact fun h => e h.1)]
    · rw [cf (df (by omega)), if_pos (by rw [List.drop_of_length_le (by omega), List.drop_of_length_le (by omega)])]
theorem ok : Spec := fun a b ha hb => ⟨a.length + 1, fun N hN => by
  simp only [Z1, Z3, Z6, Z9, Z8, Z7, Z5, Z10, Z4, Z2, Z0]
  by_cases hl : a.length = b.length
  · rw [cf (nf (by omega))]
    rw [show (0 : Int) = ((0 : Nat) : Int) from rfl, loop _ _ _ a b hl ha.1 N 0 (by omega) (by omega)]
    by_cases e : a = b <;> simp [e, g]
  · rw [ct (nt (by omega))]
    have : a ≠ b := fun e => hl (by rw [e])
    simp [g, this]⟩
end slices_Equal_int_int
end
end Go.Fw
namespace Go.Fw
noncomputable section
variable {ρ : Type}
namespace impl_sameMatrix
def g (a b : Int × Int × List Int) : Bool := decide (a.1 = b.1) && (decide (a.2.1 = b.2.1) && decide (a.2.2 = b.2.2))
end impl_sameMatrix
namespace impl_sameMatrix
def Z0 {ρ : Type} (N : Nat) (v0 v1 : MT) (kr : Bool → Option ρ) : Option ρ :=
 cond (lk N (decide (v0.1 = v1.1)))
 (
  cond (lk N (decide (v0.2.1 = v1.2.1)))
  (
   kr (lk N ((slices_Equal_int_int.g v0.2.2 v1.2.2))))
  (
   kr false))
 (
  kr false)
def Spec : Prop := ∀  (v0 v1 : MT), Ty.bd (.pair (.int .i64) (.pair (.int .i64) (.sl 0 (.int .i64)))) v0 → Ty.bd (.pair (.int .i64) (.pair (.int .i64) (.sl 0 (.int .i64)))) v1 → ∃ N0, ∀ N, N0 ≤ N → Z0 N v0 v1 (fun v4 => some ((), (v4, ()))) = some ((), ((g v0 v1), ()))
theorem ok : Spec := fun a b ha hb => ⟨0, fun N hN => by
  simp only [Z0, lk_eq, g, slices_Equal_int_int.g]
  cases decide (a.1 = b.1)
  · rfl
  · cases decide (a.2.1 = b.2.1) <;> rfl⟩
end impl_sameMatrix
end
end Go.Fw
namespace Go.Fw
noncomputable section
variable {ρ : Type}
namespace impl_AreAlike
def g (a b : Int × Int × List Int) : Bool := (impl_CanonicalMatrix.g a).2 && ((impl_CanonicalMatrix.g b).2 && impl_sameMatrix.g (impl_CanonicalMatrix.g a).1 (impl_CanonicalMatrix.g b).1)
end impl_AreAlike
namespace impl_AreAlike
def Z0 {ρ : Type} (N : Nat) (v0 v1 : MT) (kr : Bool → Option ρ) : Option ρ :=
 cond (lk N ((impl_CanonicalMatrix.g v0).2))
 (
  cond (lk N ((impl_CanonicalMatrix.g v1).2))
  (
   kr (lk N ((impl_sameMatrix.g (impl_CanonicalMatrix.g v0).1 (impl_CanonicalMatrix.g v1).1))))
  (
   kr false))
 (
  kr false)
def Spec : Prop := ∀  (v0 v1 : MT), Ty.bd (.pair (.int .i64) (.pair (.int .i64) (.sl 0 (.int .i64)))) v0 → Ty.bd (.pair (.int .i64) (.pair (.int .i64) (.sl 0 (.int .i64)))) v1 → ∃ N0, ∀ N, N0 ≤ N → Z0 N v0 v1 (fun v4 => some ((), (v4, ()))) = some ((), ((g v0 v1), ()))
theorem ok : Spec := fun a b ha hb => ⟨0, fun N hN => by
  simp only [Z0, lk_eq, g]
  cases (impl_CanonicalMatrix.g a).2
  · rfl
  · cases (impl_CanonicalMatrix.g b).2 <;> rfl⟩
end impl_AreAlike
end
end Go.Fw
namespace Go.Fw
noncomputable section
variable {ρ : Type}
namespace laws_eqIntS
def g (a b : List Int) : Bool := decide (a = b)
end laws_eqIntS
namespace laws_eqIntS
def Z1 {ρ : Type} (N : Nat) (v0 v1 : LI) (kn : LI → LI → Option ρ) : Option ρ :=
 kn v0 v1
def Z3 {ρ : Type} (N : Nat) (v0 v1 : LI) (kn : LI → LI → Option ρ) (kr : Bool → Option ρ) : Option ρ :=
 cond (lk N (!(decide ((v0.length : Int) = (v1.length : Int)))))
 (
  kr false)
 (
  kn v0 v1)
def Z6 {ρ : Type} (N : Nat) (v0 v1 : LI) (kn : LI → LI → Int → Option ρ) : Option ρ :=
 kn v0 v1 0
def Z9 {ρ : Type} (N : Nat) (v0 v1 : LI) (v5 : Int) (kn : LI → LI → Int → Option ρ) (k0 : Option ρ) (kr : Bool → Option ρ) : Option ρ :=
 cond (lk N (decide (v5 < (v0.length : Int))))
 (
  cond (lk N (inB v5 v0.length)) (
   cond (lk N (inB v5 v1.length)) (
    cond (lk N (!(decide ((v0.getD v5.toNat 0) = (v1.getD v5.toNat 0)))))
    (
     kr false)
    (
     kn v0 v1 (w64 (v5 + 1)))) none) none)
 (
  k0)
def Z8L {ρ : Type} (N : Nat) (k0 : Option ρ) (kr : Bool → Option ρ) : Nat → LI → LI → Int → Option ρ
  | 0, _, _, _ => none
  | M + 1, v0, v1, v5 => Z9 N v0 v1 v5 (fun v0 v1 v5 => Z8L N k0 kr M v0 v1 v5) k0 kr
def Z8 N v0 v1 v5 k0 kr := (Z8L N k0 kr N v0 v1 v5 : Option ρ)
def Z7 N v0 v1 v5 kn kr := (Z8 N v0 v1 v5 kn kr : Option ρ)
def Z5 N v0 v1 kn kr := (Z6 N v0 v1 (fun v0 v1 v5 => Z7 N v0 v1 v5 kn kr) : Option ρ)
def Z10 {ρ : Type} (N : Nat)  (kr : Bool → Option ρ) : Option ρ :=
 kr true
def Z4 N v0 v1 kr := (Z5 N v0 v1 (Z10 N kr) kr : Option ρ)
def Z2 N v0 v1 kr := (Z3 N v0 v1 (fun v0 v1 => Z4 N v0 v1 kr) kr : Option ρ)
def Z0 N v0 v1 kr := (Z1 N v0 v1 (fun v0 v1 => Z2 N v0 v1 kr) : Option ρ)
def Spec : Prop := ∀  (v0 v1 : LI), Ty.bd (.sl 0 (.int .i64)) v0 → Ty.bd (.sl 0 (.int .i64)) v1 → ∃ N0, ∀ N, N0 ≤ N → Z0 N v0 v1 (fun v4 => some ((), (v4, ()))) = some ((), ((g v0 v1), ()))
theorem loop {ρ : Type} (N : Nat) (k0 : Option ρ) (kr : Bool → Option ρ) (a b : List Int) (hl : a.length = b.length) (ha : a.length ≤ maxLen) : ∀ (M j : Nat), j ≤ a.length → a.length - j < M →
    Z8L N k0 kr M a b (j : Int) = if a.drop j = b.drop j then k0 else kr false := by
  intro M
  induction M with
  | zero => intro j _ h; omega
  | succ M ih =>
    intro j hj hM
    simp only [Z8L, Z9]
    by_cases h : j < a.length
    · rw [ct (dt (by omega)), ct (inB_nat h), ct (inB_nat (by omega)), Int.toNat_natCast, w64_succ (by omega), ih (j + 1) h (by omega), drop_getD 0 h, drop_getD (l := b) (j := j) 0 (by omega)]
      by_cases e : a.getD j 0 = b.getD j 0
      · rw [cf (nf e), e]
        simp only [List.cons.injEq, true_and]
      · rw [ct (nt e), if_neg (by simp only [List.cons.injEq]; exact fun h => e h.1)]
    · rw [cf (df (by omega)), if_pos (by rw [List.drop_of_length_le (by omega), List.drop_of_length_le (by omega)])]
theorem ok : Spec := fun a b ha hb => ⟨a.length + 1, fun N hN => by
  simp only [Z1, Z3, Z6, Z9, Z8, Z7, Z5, Z10, Z4, Z2, Z0]
  by_cases hl : a.length = b.length
  · rw [cf (nf (by omega))]
    rw [show (0 : Int) = ((0 : Nat) : Int) from rfl, loop _ _ _ a b hl ha.1 N 0 (by omega) (by omega)]
    by_cases e : a = b <;> simp [e, g]
  · rw [ct (nt (by omega))]
    have : a ≠ b := fun e => hl (by rw [e])
    simp [g, this]⟩
end laws_eqIntS
end
end Go.Fw
namespace Go.Fw
noncomputable section
variable {ρ : Type}
namespace laws_eqMatrix
def g (a b : Int × Int × List Int) : Bool := decide (a = b)
end laws_eqMatrix
namespace laws_eqMatrix
def Z0 {ρ : Type} (N : Nat) (v0 v1 : MT) (kr : Bool → Option ρ) : Option ρ :=
 cond (lk N (!(decide (v0.1 = v1.1))))
 (
  kr false)
 (
  cond (lk N (!(decide (v0.2.1 = v1.2.1))))
  (
   kr false)
  (
   cond (!(lk N ((laws_eqIntS.g v0.2.2 v1.2.2))))
   (
    kr false)
   (
    kr true)))
def Spec : Prop := ∀  (v0 v1 : MT), Ty.bd (.pair (.int .i64) (.pair (.int .i64) (.sl 0 (.int .i64)))) v0 → Ty.bd (.pair (.int .i64) (.pair (.int .i64) (.sl 0 (.int .i64)))) v1 → ∃ N0, ∀ N, N0 ≤ N → Z0 N v0 v1 (fun v4 => some ((), (v4, ()))) = some ((), ((g v0 v1), ()))
theorem ok : Spec := fun a b ha hb => ⟨0, fun N hN => by
  obtain ⟨a1, a2, a3⟩ := a
  obtain ⟨b1, b2, b3⟩ := b
  simp only [Z0, lk_eq, g, laws_eqIntS.g, Prod.mk.injEq]
  by_cases h1 : a1 = b1 <;> by_cases h2 : a2 = b2 <;> by_cases h3 : a3 = b3 <;> simp [h1, h2, h3]⟩
end laws_eqMatrix
end
end Go.Fw
namespace Go.Fw
noncomputable section
variable {ρ : Type}
namespace laws_FnExactAreAlike
def g (_ : Int × Int × List Int) (_ : Int × Int × List Int) : Bool := true
end laws_FnExactAreAlike
namespace laws_FnExactAreAlike
def Z0 {ρ : Type} (N : Nat) (v0 v1 : MT) (kr : Bool → Option ρ) : Option ρ :=
 cond (lk N (decide ((laws_szMatrix.g v0 1048576) < 0)))
 (
  kr true)
 (
  cond (lk N (decide ((laws_szMatrix.g v1 (laws_szMatrix.g v0 1048576)) < 0)))
  (
   kr true)
  (
   cond (lk N (laws_toMatrix.P v0)) (
    cond (lk N (laws_toMatrix.P v1)) (
     cond (lk N (laws_toMatrix.P v0)) (
      cond (lk N (laws_toMatrix.P v1)) (
       cond (lk N (!(((lk N ((impl_AreAlike.g (laws_toMatrix.g v0) (laws_toMatrix.g v1)))) == (lk N ((spec_AreAlike.g (laws_toMatrix.g v0) (laws_toMatrix.g v1))))))))
       (
        kr false)
       (
        cond (lk N (laws_toMatrix.P v0)) (
         cond (!(lk N ((laws_eqMatrix.g (laws_toMatrix.g v0) (laws_toMatrix.g v0)))))
         (
          kr false)
         (
          cond (lk N (laws_toMatrix.P v1)) (
           cond (!(lk N ((laws_eqMatrix.g (laws_toMatrix.g v1) (laws_toMatrix.g v1)))))
           (
            kr false)
           (
            kr true)) none)) none)) none) none) none) none))
def Spec : Prop := ∀  (v0 v1 : MT), Ty.bd (.pair (.int .i64) (.pair (.int .i64) (.sl 0 (.int .i64)))) v0 → Ty.bd (.pair (.int .i64) (.pair (.int .i64) (.sl 0 (.int .i64)))) v1 → ∃ N0, ∀ N, N0 ≤ N → Z0 N v0 v1 (fun v4 => some ((), (v4, ()))) = some ((), ((g v0 v1), ()))
theorem ok : Spec := fun a b ha hb => ⟨0, fun N hN => by
  by_cases h1 : laws_szMatrix.g a 1048576 < 0
  · simp only [Z0]
    rw [ct (dt h1)]
    rfl
  by_cases h2 : laws_szMatrix.g b (laws_szMatrix.g a 1048576) < 0
  · simp only [Z0]
    rw [cf (df h1), ct (dt h2)]
    rfl
  obtain ⟨hP, hlen⟩ := szMat_P a ha.2.2.1 h1
  have hQ := szMat_P2 a b ha.2.2.1 hb.2.2.1 h1 h2
  have he : impl_AreAlike.g a b = spec_AreAlike.g a b := by
    unfold impl_AreAlike.g spec_AreAlike.g impl_sameMatrix.g
    rw [can_alike, can_alike]
    cases hx : (spec_CanonicalMatrix.g a).2
    · rfl
    cases hy : (spec_CanonicalMatrix.g b).2
    · rfl
    have e1 := can_square hx
    have e2 := can_square hy
    rw [e1, e2]
    cases decide ((spec_CanonicalMatrix.g a).1.1 = (spec_CanonicalMatrix.g b).1.1) <;> rfl
  simp only [Z0, lk_eq, laws_toMatrix.g, hP, hQ, he, laws_eqMatrix.g, df h1, df h2, dt (rfl : a = _), dt (rfl : b = _), cond_true, cond_false]
  cases spec_AreAlike.g a b <;> rfl⟩
end laws_FnExactAreAlike
end
end Go.Fw
