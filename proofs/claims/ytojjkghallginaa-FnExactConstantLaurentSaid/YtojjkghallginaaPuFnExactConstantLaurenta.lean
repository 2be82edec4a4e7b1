/- The plain part: what the functions compute, in lists and numbers. Nothing is assumed. -/
import Derived.Test.YtojjkghallginaaFwb
/-! Common words of the plain part. -/
set_option linter.unusedVariables false
namespace Go.Fw
/-- The lexicographic order. -/
def lexLt : List Int → List Int → Bool
  | [], [] => false
  | [], _ :: _ => true
  | _ :: _, [] => false
  | x :: xs, y :: ys => if x = y then lexLt xs ys else decide (x < y)
def lexCmp : List Int → List Int → Int
  | [], [] => 0
  | [], _ :: _ => -1
  | _ :: _, [] => 1
  | x :: xs, y :: ys => if x = y then lexCmp xs ys else if x < y then -1 else 1
theorem lexCmp_le : ∀ a b : List Int, decide (lexCmp a b ≤ 0) = !(lexLt b a)
  | [], [] => rfl
  | [], _ :: _ => rfl
  | _ :: _, [] => rfl
  | x :: xs, y :: ys => by
    rw [lexCmp, lexLt]
    by_cases h : x = y
    · rw [if_pos h, if_pos h.symm, lexCmp_le xs ys]
    · rw [if_neg h, if_neg (show ¬ y = x from fun e => h e.symm)]
      by_cases h2 : x < y
      · rw [if_pos h2, df (show ¬ y < x by omega)]; rfl
      · rw [if_neg h2, dt (show y < x by omega)]; rfl
theorem lexCmp_lt : ∀ a b : List Int, decide (lexCmp a b < 0) = lexLt a b
  | [], [] => rfl
  | [], _ :: _ => rfl
  | _ :: _, [] => rfl
  | x :: xs, y :: ys => by
    rw [lexCmp, lexLt]
    by_cases h : x = y
    · rw [if_pos h, if_pos h, lexCmp_lt xs ys]
    · rw [if_neg h, if_neg h]
      by_cases h2 : x < y
      · rw [if_pos h2, dt h2]; rfl
      · rw [if_neg h2, df h2]; rfl
def inK (n lo hi : Int) : Bool := decide (lo ≤ n) && decide (n ≤ hi)
def expK (vars : Int) (e : List Int) : Bool := decide ((e.length : Int) = vars) && e.all fun x => inK x (-20) 20
def coefK (c : Int) : Bool := !(decide (c = 0)) && inK c (-1000000) 1000000
def prevE (l : List (List Int × Int)) : Nat → Option (List Int)
  | 0 => none
  | j + 1 => some (l.getD j ([], 0)).1
def belowK : Option (List Int) → List Int → Bool
  | none, _ => true
  | some p, e => lexLt e p
def termsK (vars : Int) : List (List Int × Int) → Option (List Int) → Bool
  | [], _ => true
  | t :: ts, p => expK vars t.1 && (coefK t.2 && (belowK p t.1 && termsK vars ts (some t.1)))
/-- Is a sum right? -/
def lokK (f : Int × List (List Int × Int)) : Bool := inK f.1 1 8 && (decide (f.2.length ≤ 600) && termsK f.1 f.2 none)
end Go.Fw
set_option linter.unusedVariables false
set_option linter.unusedSimpArgs false
set_option maxRecDepth 100000
namespace Go.Fw
noncomputable section
namespace laws_markIntS
def mk : List Int → Int → List Int × Int
  | [], k => ([], k)
  | _ :: xs, k => (k :: (mk xs (w64 (k + 1))).1, (mk xs (w64 (k + 1))).2)
def g (a : List Int) (k : Int) : List Int × Int := mk a k
end laws_markIntS
namespace laws_markIntS
def Z1 {ρ : Type} (N : Nat) (a0 : List Int) (k1 : Int) (kn : List Int → Int → Option ρ) : Option ρ :=
 kn a0 k1
def Z4 {ρ : Type} (N : Nat) (a0 : List Int) (k1 : Int) (kn : List Int → Int → Int → Option ρ) : Option ρ :=
 kn a0 k1 0
def Z7 {ρ : Type} (N : Nat) (a0 : List Int) (k1 : Int) (i5 : Int) (kn : List Int → Int → Int → Option ρ) (k0 : List Int → Int → Option ρ) : Option ρ :=
 cond (lk N (decide (i5 < (a0.length : Int))))
 (
  cond (lk N (inB i5 a0.length)) (
   kn (a0.set i5.toNat k1) (w64 (k1 + 1)) (w64 (i5 + 1))) none)
 (
  k0 a0 k1)
def Z6L {ρ : Type} (N : Nat) (k0 : List Int → Int → Option ρ) : Nat → List Int → Int → Int → Option ρ
  | 0, _, _, _ => none
  | M + 1, a0, k1, i5 => Z7 N a0 k1 i5 (fun a0 k1 i5 => Z6L N k0 M a0 k1 i5) k0
def Z6 {ρ : Type} (N : Nat) (a0 : List Int) (k1 : Int) (i5 : Int) (k0 : List Int → Int → Option ρ) : Option ρ := Z6L N k0 N a0 k1 i5
def Z5 {ρ : Type} (N : Nat) (a0 : List Int) (k1 : Int) (i5 : Int) (kn : List Int → Int → Option ρ) : Option ρ := Z6 N a0 k1 i5 kn
def Z3 {ρ : Type} (N : Nat) (a0 : List Int) (k1 : Int) (kn : List Int → Int → Option ρ) : Option ρ := Z4 N a0 k1 (fun a0 k1 i5 => Z5 N a0 k1 i5 kn)
def Z8 {ρ : Type} (N : Nat) (io100000 : List Int) (k1 : Int) (kr : List Int → Int → Option ρ) : Option ρ :=
 kr io100000 k1
def Z2 {ρ : Type} (N : Nat) (a0 : List Int) (k1 : Int) (kr : List Int → Int → Option ρ) : Option ρ := Z3 N a0 k1 (fun io100000 k1 => Z8 N io100000 k1 kr)
def Z0 {ρ : Type} (N : Nat) (a0 : List Int) (k1 : Int) (kr : List Int → Int → Option ρ) : Option ρ := Z1 N a0 k1 (fun a0 k1 => Z2 N a0 k1 kr)
def Spec : Prop := ∀  (a0 : List Int) (k1 : Int), Ty.bd (.sl 0 (.int .i64)) a0 → ∃ N0, ∀ N, N0 ≤ N → Z0 N a0 k1 (fun io100000 t4 => some (io100000, (t4, ()))) = some ((g a0 k1).1, ((g a0 k1).2, ()))

theorem loop {ρ : Type} (N : Nat) (k0 : List Int → Int → Option ρ) : ∀ (M j : Nat) (a : List Int) (k : Int), a.length ≤ maxLen → j ≤ a.length → a.length - j < M →
    Z6L N k0 M a k (j : Int) = k0 (a.take j ++ (mk (a.drop j) k).1) (mk (a.drop j) k).2 := by
  intro M
  induction M with
  | zero => intro j a k _ _ h; omega
  | succ M ih =>
    intro j a k ha hj hM
    simp only [Z6L, Z7]
    by_cases h : j < a.length
    · rw [ct (dt (by omega)), ct (inB_nat h), Int.toNat_natCast, w64_succ (by omega), ih (j + 1) _ _ (by simpa using ha) (by simp; omega) (by simp; omega), drop_getD 0 h,
        List.drop_set_of_lt (by omega), take_set_s (by omega)]
      simp [mk]
    · have : j = a.length := by omega
      subst this
      rw [cf (df (by omega))]
      simp [mk]
theorem ok : Spec := fun a k ha => ⟨a.length + 1, fun N hN => by
  simp only [Z1, Z4, Z7, Z6, Z5, Z3, Z8, Z2, Z0]
  rw [show (0 : Int) = ((0 : Nat) : Int) from rfl, loop _ _ _ 0 a k ha.1 (by omega) (by omega)]
  simp [g]⟩
theorem mk_len : ∀ (a : List Int) (k : Int), (mk a k).1.length = a.length
  | [], _ => rfl
  | _ :: xs, k => by simp [mk, mk_len xs]
theorem mk_end : ∀ (a : List Int) (k : Int), 0 ≤ k → k + a.length < 9223372036854775808 → (mk a k).2 = k + a.length
  | [], k, _, _ => by simp [mk]
  | _ :: xs, k, h0, h => by
    simp only [mk, List.length_cons] at h ⊢
    rw [w64_id (by omega) (by omega), mk_end xs (k + 1) (by omega) (by omega)]
    omega

end laws_markIntS
end
end Go.Fw
set_option linter.unusedVariables false
set_option linter.unusedSimpArgs false
set_option maxRecDepth 100000
namespace Go.Fw
noncomputable section
namespace laws_heldIntS
def hd : List Int → Int → Int
  | [], k => k
  | x :: xs, k => if x = k then hd xs (w64 (k + 1)) else -1
def g (a : List Int) (k : Int) : Int := hd a k
end laws_heldIntS
namespace laws_heldIntS
def Z1 {ρ : Type} (N : Nat) (a0 : List Int) (k1 : Int) (kn : List Int → Int → Option ρ) : Option ρ :=
 kn a0 k1
def Z4 {ρ : Type} (N : Nat) (a0 : List Int) (k1 : Int) (kn : List Int → Int → Int → Option ρ) : Option ρ :=
 kn a0 k1 0
def Z7 {ρ : Type} (N : Nat) (a0 : List Int) (k1 : Int) (i5 : Int) (kn : List Int → Int → Int → Option ρ) (k0 : Int → Option ρ) (kr : Int → Option ρ) : Option ρ :=
 cond (lk N (decide (i5 < (a0.length : Int))))
 (
  cond (lk N (inB i5 a0.length)) (
   cond (lk N (!(decide ((a0.getD i5.toNat 0) = k1))))
   (
    kr (-1))
   (
    kn a0 (w64 (k1 + 1)) (w64 (i5 + 1)))) none)
 (
  k0 k1)
def Z6L {ρ : Type} (N : Nat) (k0 : Int → Option ρ) (kr : Int → Option ρ) : Nat → List Int → Int → Int → Option ρ
  | 0, _, _, _ => none
  | M + 1, a0, k1, i5 => Z7 N a0 k1 i5 (fun a0 k1 i5 => Z6L N k0 kr M a0 k1 i5) k0 kr
def Z6 {ρ : Type} (N : Nat) (a0 : List Int) (k1 : Int) (i5 : Int) (k0 : Int → Option ρ) (kr : Int → Option ρ) : Option ρ := Z6L N k0 kr N a0 k1 i5
def Z5 {ρ : Type} (N : Nat) (a0 : List Int) (k1 : Int) (i5 : Int) (kn : Int → Option ρ) (kr : Int → Option ρ) : Option ρ := Z6 N a0 k1 i5 kn kr
def Z3 {ρ : Type} (N : Nat) (a0 : List Int) (k1 : Int) (kn : Int → Option ρ) (kr : Int → Option ρ) : Option ρ := Z4 N a0 k1 (fun a0 k1 i5 => Z5 N a0 k1 i5 kn kr)
def Z8 {ρ : Type} (N : Nat) (k1 : Int) (kr : Int → Option ρ) : Option ρ :=
 kr k1
def Z2 {ρ : Type} (N : Nat) (a0 : List Int) (k1 : Int) (kr : Int → Option ρ) : Option ρ := Z3 N a0 k1 (fun k1 => Z8 N k1 kr) kr
def Z0 {ρ : Type} (N : Nat) (a0 : List Int) (k1 : Int) (kr : Int → Option ρ) : Option ρ := Z1 N a0 k1 (fun a0 k1 => Z2 N a0 k1 kr)
def Spec : Prop := ∀  (a0 : List Int) (k1 : Int), Ty.bd (.sl 0 (.int .i64)) a0 → ∃ N0, ∀ N, N0 ≤ N → Z0 N a0 k1 (fun t4 => some ((), (t4, ()))) = some ((), ((g a0 k1), ()))

theorem loop {ρ : Type} (N : Nat) (kr : Int → Option ρ) (a : List Int) (ha : a.length ≤ maxLen) : ∀ (M j : Nat) (k : Int), j ≤ a.length → a.length - j < M →
    Z6L N kr kr M a k (j : Int) = kr (hd (a.drop j) k) := by
  intro M
  induction M with
  | zero => intro j k _ h; omega
  | succ M ih =>
    intro j k hj hM
    simp only [Z6L, Z7]
    by_cases h : j < a.length
    · rw [ct (dt (by omega)), ct (inB_nat h), Int.toNat_natCast, w64_succ (by omega), ih (j + 1) _ h (by omega), drop_getD 0 h]
      by_cases e : a.getD j 0 = k
      · rw [cf (nf e), hd, if_pos e]
      · rw [ct (nt e), hd, if_neg e]
    · rw [cf (df (by omega)), List.drop_of_length_le (by omega), hd]
theorem ok : Spec := fun a k ha => ⟨a.length + 1, fun N hN => by
  simp only [Z1, Z4, Z7, Z6, Z5, Z3, Z8, Z2, Z0]
  rw [show (0 : Int) = ((0 : Nat) : Int) from rfl, loop _ _ a ha.1 N 0 k (by omega) (by omega)]
  simp [g]⟩

end laws_heldIntS
end
end Go.Fw
/-! What was marked is held: numbers. -/
set_option linter.unusedVariables false
namespace Go.Fw
theorem heldInt_mark : ∀ (a : List Int) (k : Int), laws_heldIntS.g (laws_markIntS.g a k).1 k = (laws_markIntS.g a k).2
  | [], k => rfl
  | x :: xs, k => by
    have ih := heldInt_mark xs (w64 (k + 1))
    simp only [laws_heldIntS.g, laws_markIntS.g, laws_markIntS.mk, laws_heldIntS.hd, if_true] at ih ⊢
    exact ih
end Go.Fw
set_option linter.unusedVariables false
set_option linter.unusedSimpArgs false
set_option maxRecDepth 100000
namespace Go.Fw
noncomputable section
namespace laws_markTermS
def mk : List (List Int × Int) → Int → List (List Int × Int) × Int
  | [], k => ([], k)
  | t :: ts, k => (((laws_markIntS.g t.1 k).1, (laws_markIntS.g t.1 k).2) :: (mk ts (w64 ((laws_markIntS.g t.1 k).2 + 1))).1, (mk ts (w64 ((laws_markIntS.g t.1 k).2 + 1))).2)
def g (a : List (List Int × Int)) (k : Int) : List (List Int × Int) × Int := mk a k
end laws_markTermS
namespace laws_markTermS
def Z1 {ρ : Type} (N : Nat) (a0 : List (List Int × Int)) (k1 : Int) (kn : (List (List Int × Int)) → Int → Option ρ) : Option ρ :=
 kn a0 k1
def Z4 {ρ : Type} (N : Nat) (a0 : List (List Int × Int)) (k1 : Int) (kn : (List (List Int × Int)) → Int → Int → Option ρ) : Option ρ :=
 kn a0 k1 0
def Z7 {ρ : Type} (N : Nat) (a0 : List (List Int × Int)) (k1 : Int) (i5 : Int) (kn : (List (List Int × Int)) → Int → Int → Option ρ) (k0 : (List (List Int × Int)) → Int → Option ρ) : Option ρ :=
 cond (lk N (decide (i5 < (a0.length : Int))))
 (
  cond (lk N (inB i5 a0.length)) (
   cond (lk N (inB i5 (a0.set i5.toNat ((laws_markIntS.g (a0.getD i5.toNat ([], 0)).1 k1).1, (a0.getD i5.toNat ([], 0)).2)).length)) (
    kn ((a0.set i5.toNat ((laws_markIntS.g (a0.getD i5.toNat ([], 0)).1 k1).1, (a0.getD i5.toNat ([], 0)).2)).set i5.toNat (((a0.set i5.toNat ((laws_markIntS.g (a0.getD i5.toNat ([], 0)).1 k1).1, (a0.getD i5.toNat ([], 0)).2)).getD i5.toNat ([], 0)).1, (laws_markIntS.g (a0.getD i5.toNat ([], 0)).1 k1).2)) (w64 ((laws_markIntS.g (a0.getD i5.toNat ([], 0)).1 k1).2 + 1)) (w64 (i5 + 1))) none) none)
 (
  k0 a0 k1)
def Z6L {ρ : Type} (N : Nat) (k0 : (List (List Int × Int)) → Int → Option ρ) : Nat → (List (List Int × Int)) → Int → Int → Option ρ
  | 0, _, _, _ => none
  | M + 1, a0, k1, i5 => Z7 N a0 k1 i5 (fun a0 k1 i5 => Z6L N k0 M a0 k1 i5) k0
def Z6 {ρ : Type} (N : Nat) (a0 : List (List Int × Int)) (k1 : Int) (i5 : Int) (k0 : (List (List Int × Int)) → Int → Option ρ) : Option ρ := Z6L N k0 N a0 k1 i5
def Z5 {ρ : Type} (N : Nat) (a0 : List (List Int × Int)) (k1 : Int) (i5 : Int) (kn : (List (List Int × Int)) → Int → Option ρ) : Option ρ := Z6 N a0 k1 i5 kn
def Z3 {ρ : Type} (N : Nat) (a0 : List (List Int × Int)) (k1 : Int) (kn : (List (List Int × Int)) → Int → Option ρ) : Option ρ := Z4 N a0 k1 (fun a0 k1 i5 => Z5 N a0 k1 i5 kn)
def Z8 {ρ : Type} (N : Nat) (io100000 : List (List Int × Int)) (k1 : Int) (kr : (List (List Int × Int)) → Int → Option ρ) : Option ρ :=
 kr io100000 k1
def Z2 {ρ : Type} (N : Nat) (a0 : List (List Int × Int)) (k1 : Int) (kr : (List (List Int × Int)) → Int → Option ρ) : Option ρ := Z3 N a0 k1 (fun io100000 k1 => Z8 N io100000 k1 kr)
def Z0 {ρ : Type} (N : Nat) (a0 : List (List Int × Int)) (k1 : Int) (kr : (List (List Int × Int)) → Int → Option ρ) : Option ρ := Z1 N a0 k1 (fun a0 k1 => Z2 N a0 k1 kr)
def Spec : Prop := ∀  (a0 : List (List Int × Int)) (k1 : Int), Ty.bd (.sl 0 (.pair (.sl 0 (.int .i64)) (.int .i64))) a0 → ∃ N0, ∀ N, N0 ≤ N → Z0 N a0 k1 (fun io100000 t4 => some (io100000, (t4, ()))) = some ((g a0 k1).1, ((g a0 k1).2, ()))

theorem loop {ρ : Type} (N : Nat) (k0 : List (List Int × Int) → Int → Option ρ) : ∀ (M j : Nat) (a : List (List Int × Int)) (k : Int), a.length ≤ maxLen → j ≤ a.length → a.length - j < M →
    Z6L N k0 M a k (j : Int) = k0 (a.take j ++ (mk (a.drop j) k).1) (mk (a.drop j) k).2 := by
  intro M
  induction M with
  | zero => intro j a k _ _ h; omega
  | succ M ih =>
    intro j a k ha hj hM
    simp only [Z6L, Z7]
    by_cases h : j < a.length
    · rw [ct (dt (by omega)), ct (inB_nat h), Int.toNat_natCast, ct (inB_nat (by simpa using h)), w64_succ (by omega), List.set_set, getD_set_self h, ih (j + 1) _ _ (by simpa using ha) (by simp; omega) (by simp; omega), drop_getD ([], 0) h,
        List.drop_set_of_lt (by omega), take_set_s (by omega)]
      simp [mk]
    · have : j = a.length := by omega
      subst this
      rw [cf (df (by omega))]
      simp [mk]
theorem ok : Spec := fun a k ha => ⟨a.length + 1, fun N hN => by
  simp only [Z1, Z4, Z7, Z6, Z5, Z3, Z8, Z2, Z0]
  rw [show (0 : Int) = ((0 : Nat) : Int) from rfl, loop _ _ _ 0 a k ha.1 (by omega) (by omega)]
  simp [g]⟩

end laws_markTermS
end
end Go.Fw
set_option linter.unusedVariables false
set_option linter.unusedSimpArgs false
set_option maxRecDepth 100000
namespace Go.Fw
noncomputable section
namespace laws_markLaurent
def g (a : Int × List (List Int × Int)) (k : Int) : (Int × List (List Int × Int)) × Int := ((a.1, (laws_markTermS.g a.2 k).1), (laws_markTermS.g a.2 k).2)
end laws_markLaurent
namespace laws_markLaurent
def Z0 {ρ : Type} (N : Nat) (a0 : Int × List (List Int × Int)) (k1 : Int) (kr : (List (List Int × Int)) → Int → Int → Option ρ) : Option ρ :=
 kr (laws_markTermS.g a0.2 k1).1 (laws_markTermS.g a0.2 k1).2 a0.1
def Spec : Prop := ∀  (a0 : Int × List (List Int × Int)) (k1 : Int), Ty.bd (.pair (.int .i64) (.sl 0 (.pair (.sl 0 (.int .i64)) (.int .i64)))) a0 → ∃ N0, ∀ N, N0 ≤ N → Z0 N a0 k1 (fun io100000_1 t4 io100000_0 => some ((io100000_0, io100000_1), (t4, ()))) = some ((g a0 k1).1, ((g a0 k1).2, ()))

theorem ok : Spec := fun a k ha => ⟨0, fun N hN => by simp only [Z0, g]⟩

end laws_markLaurent
end
end Go.Fw
set_option linter.unusedVariables false
set_option linter.unusedSimpArgs false
set_option maxRecDepth 100000
namespace Go.Fw
noncomputable section
namespace laws_heldTermS
def hd : List (List Int × Int) → Int → Int
  | [], k => k
  | t :: ts, k => if laws_heldIntS.g t.1 k < 0 then -1 else if t.2 = laws_heldIntS.g t.1 k then hd ts (w64 (laws_heldIntS.g t.1 k + 1)) else -1
def g (a : List (List Int × Int)) (k : Int) : Int := hd a k
end laws_heldTermS
namespace laws_heldTermS
def Z1 {ρ : Type} (N : Nat) (a0 : List (List Int × Int)) (k1 : Int) (kn : (List (List Int × Int)) → Int → Option ρ) : Option ρ :=
 kn a0 k1
def Z4 {ρ : Type} (N : Nat) (a0 : List (List Int × Int)) (k1 : Int) (kn : (List (List Int × Int)) → Int → Int → Option ρ) : Option ρ :=
 kn a0 k1 0
def Z7 {ρ : Type} (N : Nat) (a0 : List (List Int × Int)) (k1 : Int) (i5 : Int) (kn : (List (List Int × Int)) → Int → Int → Option ρ) (k0 : Int → Option ρ) (kr : Int → Option ρ) : Option ρ :=
 cond (lk N (decide (i5 < (a0.length : Int))))
 (
  cond (lk N (inB i5 a0.length)) (
   cond (lk N (decide ((laws_heldIntS.g (a0.getD i5.toNat ([], 0)).1 k1) < 0)))
   (
    kr (-1))
   (
    cond (lk N (inB i5 a0.length)) (
     cond (lk N (!(decide ((a0.getD i5.toNat ([], 0)).2 = (laws_heldIntS.g (a0.getD i5.toNat ([], 0)).1 k1)))))
     (
      kr (-1))
     (
      kn a0 (w64 ((laws_heldIntS.g (a0.getD i5.toNat ([], 0)).1 k1) + 1)) (w64 (i5 + 1)))) none)) none)
 (
  k0 k1)
def Z6L {ρ : Type} (N : Nat) (k0 : Int → Option ρ) (kr : Int → Option ρ) : Nat → (List (List Int × Int)) → Int → Int → Option ρ
  | 0, _, _, _ => none
  | M + 1, a0, k1, i5 => Z7 N a0 k1 i5 (fun a0 k1 i5 => Z6L N k0 kr M a0 k1 i5) k0 kr
def Z6 {ρ : Type} (N : Nat) (a0 : List (List Int × Int)) (k1 : Int) (i5 : Int) (k0 : Int → Option ρ) (kr : Int → Option ρ) : Option ρ := Z6L N k0 kr N a0 k1 i5
def Z5 {ρ : Type} (N : Nat) (a0 : List (List Int × Int)) (k1 : Int) (i5 : Int) (kn : Int → Option ρ) (kr : Int → Option ρ) : Option ρ := Z6 N a0 k1 i5 kn kr
def Z3 {ρ : Type} (N : Nat) (a0 : List (List Int × Int)) (k1 : Int) (kn : Int → Option ρ) (kr : Int → Option ρ) : Option ρ := Z4 N a0 k1 (fun a0 k1 i5 => Z5 N a0 k1 i5 kn kr)
def Z8 {ρ : Type} (N : Nat) (k1 : Int) (kr : Int → Option ρ) : Option ρ :=
 kr k1
def Z2 {ρ : Type} (N : Nat) (a0 : List (List Int × Int)) (k1 : Int) (kr : Int → Option ρ) : Option ρ := Z3 N a0 k1 (fun k1 => Z8 N k1 kr) kr
def Z0 {ρ : Type} (N : Nat) (a0 : List (List Int × Int)) (k1 : Int) (kr : Int → Option ρ) : Option ρ := Z1 N a0 k1 (fun a0 k1 => Z2 N a0 k1 kr)
def Spec : Prop := ∀  (a0 : List (List Int × Int)) (k1 : Int), Ty.bd (.sl 0 (.pair (.sl 0 (.int .i64)) (.int .i64))) a0 → ∃ N0, ∀ N, N0 ≤ N → Z0 N a0 k1 (fun t4 => some ((), (t4, ()))) = some ((), ((g a0 k1), ()))

theorem loop {ρ : Type} (N : Nat) (kr : Int → Option ρ) (a : List (List Int × Int)) (ha : a.length ≤ maxLen) : ∀ (M j : Nat) (k : Int), j ≤ a.length → a.length - j < M →
    Z6L N kr kr M a k (j : Int) = kr (hd (a.drop j) k) := by
  intro M
  induction M with
  | zero => intro j k _ h; omega
  | succ M ih =>
    intro j k hj hM
    simp only [Z6L, Z7]
    by_cases h : j < a.length
    · rw [ct (dt (by omega)), ct (inB_nat h), Int.toNat_natCast, w64_succ (by omega), ih (j + 1) _ h (by omega), drop_getD ([], 0) h]
      by_cases e1 : laws_heldIntS.g (a.getD j ([], 0)).1 k < 0
      · rw [ct (dt e1), hd, if_pos e1]
      · rw [cf (df e1), hd, if_neg e1, ct (inB_nat h)]
        by_cases e : (a.getD j ([], 0)).2 = laws_heldIntS.g (a.getD j ([], 0)).1 k
        · rw [cf (nf e), if_pos e]
        · rw [ct (nt e), if_neg e]
    · rw [cf (df (by omega)), List.drop_of_length_le (by omega), hd]
theorem ok : Spec := fun a k ha => ⟨a.length + 1, fun N hN => by
  simp only [Z1, Z4, Z7, Z6, Z5, Z3, Z8, Z2, Z0]
  rw [show (0 : Int) = ((0 : Nat) : Int) from rfl, loop _ _ a ha.1 N 0 k (by omega) (by omega)]
  simp [g]⟩

end laws_heldTermS
end
end Go.Fw
set_option linter.unusedVariables false
set_option linter.unusedSimpArgs false
set_option maxRecDepth 100000
namespace Go.Fw
noncomputable section
namespace laws_heldLaurent
def g (a : Int × List (List Int × Int)) (left : Int) : Int := if laws_heldTermS.g a.2 left < 0 then -1 else laws_heldTermS.g a.2 left
end laws_heldLaurent
namespace laws_heldLaurent
def Z0 {ρ : Type} (N : Nat) (a0 : Int × List (List Int × Int)) (k1 : Int) (kr : Int → Option ρ) : Option ρ :=
 cond (lk N (decide ((laws_heldTermS.g a0.2 k1) < 0)))
 (
  kr (-1))
 (
  kr (laws_heldTermS.g a0.2 k1))
def Spec : Prop := ∀  (a0 : Int × List (List Int × Int)) (k1 : Int), Ty.bd (.pair (.int .i64) (.sl 0 (.pair (.sl 0 (.int .i64)) (.int .i64)))) a0 → ∃ N0, ∀ N, N0 ≤ N → Z0 N a0 k1 (fun t4 => some ((), (t4, ()))) = some ((), ((g a0 k1), ()))

theorem ok : Spec := fun a left ha => ⟨0, fun N hN => by
  simp only [Z0, g]
  by_cases h : laws_heldTermS.g a.2 left < 0
  · rw [ct (dt h), if_pos h]
  · rw [cf (df h), if_neg h]⟩

end laws_heldLaurent
end
end Go.Fw
/-! What was marked is held: sums. -/
set_option linter.unusedVariables false
namespace Go.Fw
/-- How many numbers there are. -/
def szT : List (List Int × Int) → Nat
  | [] => 0
  | t :: ts => t.1.length + 1 + szT ts
theorem heldTerm_mark : ∀ (l : List (List Int × Int)) (k : Int), 0 ≤ k → k + szT l < 9223372036854775808 →
    laws_heldTermS.g (laws_markTermS.g l k).1 k = (laws_markTermS.g l k).2 ∧ (laws_markTermS.g l k).2 = k + szT l
  | [], k, _, _ => ⟨rfl, by simp [laws_markTermS.g, laws_markTermS.mk, szT]⟩
  | t :: ts, k, h0, h => by
    simp only [szT] at h ⊢
    have e1 := laws_markIntS.mk_end t.1 k h0 (by omega)
    have e2 := heldInt_mark t.1 k
    have e3 : (laws_markIntS.g t.1 k).2 = k + t.1.length := e1
    have e4 : w64 (k + t.1.length + 1) = k + t.1.length + 1 := w64_id (by omega) (by omega)
    obtain ⟨i1, i2⟩ := heldTerm_mark ts (k + t.1.length + 1) (by omega) (by omega)
    simp only [laws_heldTermS.g, laws_markTermS.g, laws_markTermS.mk, laws_heldTermS.hd, e2, e3, e4, if_true] at i1 i2 ⊢
    rw [if_neg (by omega)]
    exact ⟨i1, by rw [i2]; omega⟩
theorem lau_mark (x : Int × List (List Int × Int)) (h : szT x.2 < 4611686018427387904) :
    laws_heldLaurent.g (x.1, (laws_markLaurent.g x 1).1.2) 1 = (laws_markLaurent.g x 1).2 ∧ 0 ≤ (laws_markLaurent.g x 1).2 := by
  obtain ⟨h1, h2⟩ := heldTerm_mark x.2 1 (by omega) (by omega)
  have e : (laws_markLaurent.g x 1).2 = 1 + szT x.2 := h2
  refine ⟨?_, by rw [e]; omega⟩
  show (if laws_heldTermS.g (laws_markTermS.g x.2 1).1 1 < 0 then -1 else laws_heldTermS.g (laws_markTermS.g x.2 1).1 1) = (laws_markTermS.g x.2 1).2
  rw [h1, if_neg (by rw [h2]; omega)]
end Go.Fw
set_option linter.unusedVariables false
set_option linter.unusedSimpArgs false
set_option maxRecDepth 100000
namespace Go.Fw
noncomputable section
namespace spec_l1In
def g (n low high : Int) : Bool := inK n low high
end spec_l1In
namespace spec_l1In
def Z0 {ρ : Type} (N : Nat) (n0 : Int) (low1 : Int) (high2 : Int) (kr : Bool → Option ρ) : Option ρ :=
 cond (lk N (decide (low1 ≤ n0)))
 (
  kr (lk N (decide (n0 ≤ high2))))
 (
  kr false)
def Spec : Prop := ∀  (n0 : Int) (low1 : Int) (high2 : Int), ∃ N0, ∀ N, N0 ≤ N → Z0 N n0 low1 high2 (fun t6 => some ((), (t6, ()))) = some ((), ((g n0 low1 high2), ()))

theorem ok : Spec := fun n low high => ⟨0, fun N hN => by
  simp only [Z0, lk_eq, g, inK]
  cases decide (low ≤ n) <;> rfl⟩

end spec_l1In
end
end Go.Fw
set_option linter.unusedVariables false
set_option linter.unusedSimpArgs false
set_option maxRecDepth 100000
namespace Go.Fw
noncomputable section
namespace spec_ConstantLaurent
def g (vars k : Int) : Int × List (List Int × Int) :=
  if 1 ≤ vars ∧ vars ≤ 8 ∧ -1000000 ≤ k ∧ k ≤ 1000000 then (if k = 0 then (vars, []) else (vars, [(List.replicate vars.toNat 0, k)])) else (0, [])
end spec_ConstantLaurent
namespace spec_ConstantLaurent
def Z0 {ρ : Type} (N : Nat) (vars0 : Int) (k1 : Int) (kr : (List (List Int × Int)) → Int → Option ρ) : Option ρ :=
 cond (!(lk N ((spec_l1In.g vars0 1 8))))
 (
  kr ([] : List (List Int × Int)) 0)
 (
  cond (!(lk N ((spec_l1In.g k1 (-1000000) 1000000))))
  (
   kr ([] : List (List Int × Int)) 0)
  (
   cond (lk N (decide (k1 = 0)))
   (
    kr ([] : List (List Int × Int)) vars0)
   (
    cond (lk N (leB 0 vars0 && decide (vars0 < 1099511627776))) (
     kr ([((List.replicate vars0.toNat 0), k1)]) vars0) none)))
def Spec : Prop := ∀  (vars0 : Int) (k1 : Int), ∃ N0, ∀ N, N0 ≤ N → Z0 N vars0 k1 (fun t4_1 t4_0 => some ((), ((t4_0, t4_1), ()))) = some ((), ((g vars0 k1), ()))

theorem ok : Spec := fun vars k => ⟨0, fun N hN => by
  simp only [Z0, lk_eq, spec_l1In.g, inK, g]
  by_cases h1 : 1 ≤ vars ∧ vars ≤ 8
  · by_cases h3 : -1000000 ≤ k ∧ k ≤ 1000000
    · have hc : (leB 0 vars && decide (vars < 1099511627776)) = true := by simp [leB]; omega
      by_cases h5 : k = 0 <;> simp [h1, h3, h5, hc]
    · rw [if_neg (fun h => h3 h.2.2)]
      have : (decide (-1000000 ≤ k) && decide (k ≤ 1000000)) = false := by simpa using fun h => by simpa using fun h' => h3 ⟨h, h'⟩
      simp [h1, this]
  · rw [if_neg (fun h => h1 ⟨h.1, h.2.1⟩)]
    have : (decide (1 ≤ vars) && decide (vars ≤ 8)) = false := by simpa using fun h => by simpa using fun h' => h1 ⟨h, h'⟩
    simp [this]⟩

end spec_ConstantLaurent
end
end Go.Fw
set_option linter.unusedVariables false
set_option linter.unusedSimpArgs false
set_option maxRecDepth 100000
namespace Go.Fw
noncomputable section
namespace impl_within
def g (n low high : Int) : Bool := inK n low high
end impl_within
namespace impl_within
def Z0 {ρ : Type} (N : Nat) (n0 : Int) (low1 : Int) (high2 : Int) (kr : Bool → Option ρ) : Option ρ :=
 cond (lk N (decide (low1 ≤ n0)))
 (
  kr (lk N (decide (n0 ≤ high2))))
 (
  kr false)
def Spec : Prop := ∀  (n0 : Int) (low1 : Int) (high2 : Int), ∃ N0, ∀ N, N0 ≤ N → Z0 N n0 low1 high2 (fun t6 => some ((), (t6, ()))) = some ((), ((g n0 low1 high2), ()))

theorem ok : Spec := fun n low high => ⟨0, fun N hN => by
  simp only [Z0, lk_eq, g, inK]
  cases decide (low ≤ n) <;> rfl⟩

end impl_within
end
end Go.Fw
set_option linter.unusedVariables false
set_option linter.unusedSimpArgs false
set_option maxRecDepth 100000
namespace Go.Fw
noncomputable section
namespace impl_ConstantLaurent
def g (vars k : Int) : Int × List (List Int × Int) :=
  if 1 ≤ vars ∧ vars ≤ 8 ∧ -1000000 ≤ k ∧ k ≤ 1000000 then (if k = 0 then (vars, []) else (vars, [(List.replicate vars.toNat 0, k)])) else (0, [])
end impl_ConstantLaurent
namespace impl_ConstantLaurent
def Z0 {ρ : Type} (N : Nat) (vars0 : Int) (k1 : Int) (kr : (List (List Int × Int)) → Int → Option ρ) : Option ρ :=
 cond (!(lk N ((impl_within.g vars0 1 8))))
 (
  kr ([] : List (List Int × Int)) 0)
 (
  cond (!(lk N ((impl_within.g k1 (-1000000) 1000000))))
  (
   kr ([] : List (List Int × Int)) 0)
  (
   cond (lk N (decide (k1 = 0)))
   (
    kr ([] : List (List Int × Int)) vars0)
   (
    cond (lk N (leB 0 vars0 && decide (vars0 < 1099511627776))) (
     kr ([((List.replicate vars0.toNat 0), k1)]) vars0) none)))
def Spec : Prop := ∀  (vars0 : Int) (k1 : Int), ∃ N0, ∀ N, N0 ≤ N → Z0 N vars0 k1 (fun t4_1 t4_0 => some ((), ((t4_0, t4_1), ()))) = some ((), ((g vars0 k1), ()))

theorem ok : Spec := fun vars k => ⟨0, fun N hN => by
  simp only [Z0, lk_eq, impl_within.g, inK, g]
  by_cases h1 : 1 ≤ vars ∧ vars ≤ 8
  · by_cases h3 : -1000000 ≤ k ∧ k ≤ 1000000
    · have hc : (leB 0 vars && decide (vars < 1099511627776)) = true := by simp [leB]; omega
      by_cases h5 : k = 0 <;> simp [h1, h3, h5, hc]
    · rw [if_neg (fun h => h3 h.2.2)]
      have : (decide (-1000000 ≤ k) && decide (k ≤ 1000000)) = false := by simpa using fun h => by simpa using fun h' => h3 ⟨h, h'⟩
      simp [h1, this]
  · rw [if_neg (fun h => h1 ⟨h.1, h.2.1⟩)]
    have : (decide (1 ≤ vars) && decide (vars ≤ 8)) = false := by simpa using fun h => by simpa using fun h' => h1 ⟨h, h'⟩
    simp [this]⟩

end impl_ConstantLaurent
end
end Go.Fw
set_option linter.unusedVariables false
set_option linter.unusedSimpArgs false
set_option maxRecDepth 100000
namespace Go.Fw
noncomputable section
namespace laws_eqIntS
def g (a b : List Int) : Bool := decide (a = b)
end laws_eqIntS
namespace laws_eqIntS
def Z1 {ρ : Type} (N : Nat) (a0 : List Int) (b1 : List Int) (kn : List Int → List Int → Option ρ) : Option ρ :=
 kn a0 b1
def Z3 {ρ : Type} (N : Nat) (a0 : List Int) (b1 : List Int) (kn : List Int → List Int → Option ρ) (kr : Bool → Option ρ) : Option ρ :=
 cond (lk N (!(decide ((a0.length : Int) = (b1.length : Int)))))
 (
  kr false)
 (
  kn a0 b1)
def Z6 {ρ : Type} (N : Nat) (a0 : List Int) (b1 : List Int) (kn : List Int → List Int → Int → Option ρ) : Option ρ :=
 kn a0 b1 0
def Z9 {ρ : Type} (N : Nat) (a0 : List Int) (b1 : List Int) (i5 : Int) (kn : List Int → List Int → Int → Option ρ) (k0 : Option ρ) (kr : Bool → Option ρ) : Option ρ :=
 cond (lk N (decide (i5 < (a0.length : Int))))
 (
  cond (lk N (inB i5 a0.length)) (
   cond (lk N (inB i5 b1.length)) (
    cond (lk N (!(decide ((a0.getD i5.toNat 0) = (b1.getD i5.toNat 0)))))
    (
     kr false)
    (
     kn a0 b1 (w64 (i5 + 1)))) none) none)
 (
  k0)
def Z8L {ρ : Type} (N : Nat) (k0 : Option ρ) (kr : Bool → Option ρ) : Nat → List Int → List Int → Int → Option ρ
  | 0, _, _, _ => none
  | M + 1, a0, b1, i5 => Z9 N a0 b1 i5 (fun a0 b1 i5 => Z8L N k0 kr M a0 b1 i5) k0 kr
def Z8 {ρ : Type} (N : Nat) (a0 : List Int) (b1 : List Int) (i5 : Int) (k0 : Option ρ) (kr : Bool → Option ρ) : Option ρ := Z8L N k0 kr N a0 b1 i5
def Z7 {ρ : Type} (N : Nat) (a0 : List Int) (b1 : List Int) (i5 : Int) (kn : Option ρ) (kr : Bool → Option ρ) : Option ρ := Z8 N a0 b1 i5 kn kr
def Z5 {ρ : Type} (N : Nat) (a0 : List Int) (b1 : List Int) (kn : Option ρ) (kr : Bool → Option ρ) : Option ρ := Z6 N a0 b1 (fun a0 b1 i5 => Z7 N a0 b1 i5 kn kr)
def Z10 {ρ : Type} (N : Nat)  (kr : Bool → Option ρ) : Option ρ :=
 kr true
def Z4 {ρ : Type} (N : Nat) (a0 : List Int) (b1 : List Int) (kr : Bool → Option ρ) : Option ρ := Z5 N a0 b1 (Z10 N kr) kr
def Z2 {ρ : Type} (N : Nat) (a0 : List Int) (b1 : List Int) (kr : Bool → Option ρ) : Option ρ := Z3 N a0 b1 (fun a0 b1 => Z4 N a0 b1 kr) kr
def Z0 {ρ : Type} (N : Nat) (a0 : List Int) (b1 : List Int) (kr : Bool → Option ρ) : Option ρ := Z1 N a0 b1 (fun a0 b1 => Z2 N a0 b1 kr)
def Spec : Prop := ∀  (a0 : List Int) (b1 : List Int), Ty.bd (.sl 0 (.int .i64)) a0 → Ty.bd (.sl 0 (.int .i64)) b1 → ∃ N0, ∀ N, N0 ≤ N → Z0 N a0 b1 (fun t4 => some ((), (t4, ()))) = some ((), ((g a0 b1), ()))

theorem loop {ρ : Type} (N : Nat) (k0 : Option ρ) (kr : Bool → Option ρ) (a b : List Int) (hl : a.length = b.length) (ha : a.length ≤ maxLen) : ∀ (M j : Nat), j ≤ a.length → a.length - j < M →
    Z8L N k0 kr M a b (j : Int) = if a.drop j = b.drop j then k0 else kr false := by
  intro M
  induction M with
  | zero => intro j _ h; omega
  | succ M ih =>
    intro j hj hM
    simp only [Z8L, Z9]
    by_cases h : j < a.length
    · rw [ct (dt (by omega)), ct (inB_nat h), ct (inB_nat (by omega)), Int.toNat_natCast, w64_succ (by omega), ih (j + 1) h (by omega), drop_getD 0 h, drop_getD (l := b) (j := j) 0 (by omega)]
      by_cases e : a.getD j 0 = b.getD j 0
      · rw [cf (nf e), e]
        simp only [List.cons.injEq, true_and]
      · rw [ct (nt e), if_neg (by simp only [List.cons.injEq]; exact fun h => e h.1)]
    · rw [cf (df (by omega)), if_pos (by rw [List.drop_of_length_le (by omega), List.drop_of_length_le (by omega)])]
theorem ok : Spec := fun a b ha hb => ⟨a.length + 1, fun N hN => by
  simp only [Z1, Z3, Z6, Z9, Z8, Z7, Z5, Z10, Z4, Z2, Z0]
  by_cases hl : a.length = b.length
  · rw [cf (nf (by omega))]
    rw [show (0 : Int) = ((0 : Nat) : Int) from rfl, loop _ _ _ a b hl ha.1 N 0 (by omega) (by omega)]
    by_cases e : a = b <;> simp [e, g]
  · rw [ct (nt (by omega))]
    have : a ≠ b := fun e => hl (by rw [e])
    simp [g, this]⟩

end laws_eqIntS
end
end Go.Fw
set_option linter.unusedVariables false
set_option linter.unusedSimpArgs false
set_option maxRecDepth 100000
namespace Go.Fw
noncomputable section
namespace laws_eqTerm
def g (a b : List Int × Int) : Bool := decide (a = b)
end laws_eqTerm
namespace laws_eqTerm
def Z0 {ρ : Type} (N : Nat) (a0 : List Int × Int) (b1 : List Int × Int) (kr : Bool → Option ρ) : Option ρ :=
 cond (!(lk N ((laws_eqIntS.g a0.1 b1.1))))
 (
  kr false)
 (
  cond (lk N (!(decide (a0.2 = b1.2))))
  (
   kr false)
  (
   kr true))
def Spec : Prop := ∀  (a0 : List Int × Int) (b1 : List Int × Int), Ty.bd (.pair (.sl 0 (.int .i64)) (.int .i64)) a0 → Ty.bd (.pair (.sl 0 (.int .i64)) (.int .i64)) b1 → ∃ N0, ∀ N, N0 ≤ N → Z0 N a0 b1 (fun t4 => some ((), (t4, ()))) = some ((), ((g a0 b1), ()))

theorem ok : Spec := fun a b ha hb => ⟨0, fun N hN => by
  obtain ⟨a1, a2⟩ := a
  obtain ⟨b1, b2⟩ := b
  simp only [Z0, lk_eq, g, laws_eqIntS.g, Prod.mk.injEq]
  by_cases h1 : a1 = b1 <;> by_cases h2 : a2 = b2 <;> simp [h1, h2]⟩

end laws_eqTerm
end
end Go.Fw
set_option linter.unusedVariables false
set_option linter.unusedSimpArgs false
set_option maxRecDepth 100000
namespace Go.Fw
noncomputable section
namespace laws_eqTermS
def g (a b : List (List Int × Int)) : Bool := decide (a = b)
end laws_eqTermS
namespace laws_eqTermS
def Z1 {ρ : Type} (N : Nat) (a0 : List (List Int × Int)) (b1 : List (List Int × Int)) (kn : (List (List Int × Int)) → (List (List Int × Int)) → Option ρ) : Option ρ :=
 kn a0 b1
def Z3 {ρ : Type} (N : Nat) (a0 : List (List Int × Int)) (b1 : List (List Int × Int)) (kn : (List (List Int × Int)) → (List (List Int × Int)) → Option ρ) (kr : Bool → Option ρ) : Option ρ :=
 cond (lk N (!(decide ((a0.length : Int) = (b1.length : Int)))))
 (
  kr false)
 (
  kn a0 b1)
def Z6 {ρ : Type} (N : Nat) (a0 : List (List Int × Int)) (b1 : List (List Int × Int)) (kn : (List (List Int × Int)) → (List (List Int × Int)) → Int → Option ρ) : Option ρ :=
 kn a0 b1 0
def Z9 {ρ : Type} (N : Nat) (a0 : List (List Int × Int)) (b1 : List (List Int × Int)) (i5 : Int) (kn : (List (List Int × Int)) → (List (List Int × Int)) → Int → Option ρ) (k0 : Option ρ) (kr : Bool → Option ρ) : Option ρ :=
 cond (lk N (decide (i5 < (a0.length : Int))))
 (
  cond (lk N (inB i5 a0.length)) (
   cond (lk N (inB i5 b1.length)) (
    cond (!(lk N ((laws_eqTerm.g (a0.getD i5.toNat ([], 0)) (b1.getD i5.toNat ([], 0))))))
    (
     kr false)
    (
     kn a0 b1 (w64 (i5 + 1)))) none) none)
 (
  k0)
def Z8L {ρ : Type} (N : Nat) (k0 : Option ρ) (kr : Bool → Option ρ) : Nat → (List (List Int × Int)) → (List (List Int × Int)) → Int → Option ρ
  | 0, _, _, _ => none
  | M + 1, a0, b1, i5 => Z9 N a0 b1 i5 (fun a0 b1 i5 => Z8L N k0 kr M a0 b1 i5) k0 kr
def Z8 {ρ : Type} (N : Nat) (a0 : List (List Int × Int)) (b1 : List (List Int × Int)) (i5 : Int) (k0 : Option ρ) (kr : Bool → Option ρ) : Option ρ := Z8L N k0 kr N a0 b1 i5
def Z7 {ρ : Type} (N : Nat) (a0 : List (List Int × Int)) (b1 : List (List Int × Int)) (i5 : Int) (kn : Option ρ) (kr : Bool → Option ρ) : Option ρ := Z8 N a0 b1 i5 kn kr
def Z5 {ρ : Type} (N : Nat) (a0 : List (List Int × Int)) (b1 : List (List Int × Int)) (kn : Option ρ) (kr : Bool → Option ρ) : Option ρ := Z6 N a0 b1 (fun a0 b1 i5 => Z7 N a0 b1 i5 kn kr)
def Z10 {ρ : Type} (N : Nat)  (kr : Bool → Option ρ) : Option ρ :=
 kr true
def Z4 {ρ : Type} (N : Nat) (a0 : List (List Int × Int)) (b1 : List (List Int × Int)) (kr : Bool → Option ρ) : Option ρ := Z5 N a0 b1 (Z10 N kr) kr
def Z2 {ρ : Type} (N : Nat) (a0 : List (List Int × Int)) (b1 : List (List Int × Int)) (kr : Bool → Option ρ) : Option ρ := Z3 N a0 b1 (fun a0 b1 => Z4 N a0 b1 kr) kr
def Z0 {ρ : Type} (N : Nat) (a0 : List (List Int × Int)) (b1 : List (List Int × Int)) (kr : Bool → Option ρ) : Option ρ := Z1 N a0 b1 (fun a0 b1 => Z2 N a0 b1 kr)
def Spec : Prop := ∀  (a0 : List (List Int × Int)) (b1 : List (List Int × Int)), Ty.bd (.sl 0 (.pair (.sl 0 (.int .i64)) (.int .i64))) a0 → Ty.bd (.sl 0 (.pair (.sl 0 (.int .i64)) (.int .i64))) b1 → ∃ N0, ∀ N, N0 ≤ N → Z0 N a0 b1 (fun t4 => some ((), (t4, ()))) = some ((), ((g a0 b1), ()))

theorem loop {ρ : Type} (N : Nat) (k0 : Option ρ) (kr : Bool → Option ρ) (a b : List (List Int × Int)) (hl : a.length = b.length) (ha : a.length ≤ maxLen) : ∀ (M j : Nat), j ≤ a.length → a.length - j < M →
    Z8L N k0 kr M a b (j : Int) = if a.drop j = b.drop j then k0 else kr false := by
  intro M
  induction M with
  | zero => intro j _ h; omega
  | succ M ih =>
    intro j hj hM
    simp only [Z8L, Z9]
    by_cases h : j < a.length
    · rw [ct (dt (by omega)), ct (inB_nat h), ct (inB_nat (by omega)), Int.toNat_natCast, w64_succ (by omega), ih (j + 1) h (by omega), drop_getD ([], 0) h, drop_getD (l := b) (j := j) ([], 0) (by omega)]
      by_cases e : a.getD j ([], 0) = b.getD j ([], 0)
      · rw [cf' (by rw [lk_eq, laws_eqTerm.g, dt e]; rfl), e]
        simp only [List.cons.injEq, true_and]
      · rw [ct' (by rw [lk_eq, laws_eqTerm.g, df e]; rfl), if_neg (by simp only [List.cons.injEq]; exact fun h => e h.1)]
    · rw [cf (df (by omega)), if_pos (by rw [List.drop_of_length_le (by omega), List.drop_of_length_le (by omega)])]
theorem ok : Spec := fun a b ha hb => ⟨a.length + 1, fun N hN => by
  simp only [Z1, Z3, Z6, Z9, Z8, Z7, Z5, Z10, Z4, Z2, Z0]
  by_cases hl : a.length = b.length
  · rw [cf (nf (by omega))]
    rw [show (0 : Int) = ((0 : Nat) : Int) from rfl, loop _ _ _ a b hl ha.1 N 0 (by omega) (by omega)]
    by_cases e : a = b <;> simp [e, g]
  · rw [ct (nt (by omega))]
    have : a ≠ b := fun e => hl (by rw [e])
    simp [g, this]⟩

end laws_eqTermS
end
end Go.Fw
set_option linter.unusedVariables false
set_option linter.unusedSimpArgs false
set_option maxRecDepth 100000
namespace Go.Fw
noncomputable section
namespace laws_eqLaurent
def g (a b : Int × List (List Int × Int)) : Bool := decide (a = b)
end laws_eqLaurent
namespace laws_eqLaurent
def Z0 {ρ : Type} (N : Nat) (a0 : Int × List (List Int × Int)) (b1 : Int × List (List Int × Int)) (kr : Bool → Option ρ) : Option ρ :=
 cond (lk N (!(decide (a0.1 = b1.1))))
 (
  kr false)
 (
  cond (!(lk N ((laws_eqTermS.g a0.2 b1.2))))
  (
   kr false)
  (
   kr true))
def Spec : Prop := ∀  (a0 : Int × List (List Int × Int)) (b1 : Int × List (List Int × Int)), Ty.bd (.pair (.int .i64) (.sl 0 (.pair (.sl 0 (.int .i64)) (.int .i64)))) a0 → Ty.bd (.pair (.int .i64) (.sl 0 (.pair (.sl 0 (.int .i64)) (.int .i64)))) b1 → ∃ N0, ∀ N, N0 ≤ N → Z0 N a0 b1 (fun t4 => some ((), (t4, ()))) = some ((), ((g a0 b1), ()))

theorem ok : Spec := fun a b ha hb => ⟨0, fun N hN => by
  obtain ⟨a1, a2⟩ := a
  obtain ⟨b1, b2⟩ := b
  simp only [Z0, lk_eq, g, laws_eqTermS.g, Prod.mk.injEq]
  by_cases h1 : a1 = b1 <;> by_cases h2 : a2 = b2 <;> simp [h1, h2]⟩

end laws_eqLaurent
end
end Go.Fw
set_option linter.unusedVariables false
set_option linter.unusedSimpArgs false
set_option maxRecDepth 100000
namespace Go.Fw
noncomputable section
namespace laws_FnExactConstantLaurent
def g (_ _ : Int) : Bool := true
end laws_FnExactConstantLaurent
namespace laws_FnExactConstantLaurent
def Z0 {ρ : Type} (N : Nat) (aVars0 : Int) (aK1 : Int) (kr : Bool → Option ρ) : Option ρ :=
 cond (!(lk N ((laws_eqLaurent.g (impl_ConstantLaurent.g aVars0 aK1) (spec_ConstantLaurent.g aVars0 aK1)))))
 (
  kr false)
 (
  cond (lk N (decide ((laws_heldLaurent.g ((impl_ConstantLaurent.g aVars0 aK1).1, (laws_markLaurent.g (impl_ConstantLaurent.g aVars0 aK1) 1).1.2) 1) < 0)))
  (
   kr false)
  (
   cond (lk N (!(decide ((laws_heldLaurent.g ((impl_ConstantLaurent.g aVars0 aK1).1, (laws_markLaurent.g (impl_ConstantLaurent.g aVars0 aK1) 1).1.2) 1) = (laws_markLaurent.g (impl_ConstantLaurent.g aVars0 aK1) 1).2))))
   (
    kr false)
   (
    cond (!(lk N ((laws_eqLaurent.g (impl_ConstantLaurent.g aVars0 aK1) (spec_ConstantLaurent.g aVars0 aK1)))))
    (
     kr false)
    (
     cond (lk N (decide ((laws_heldLaurent.g ((impl_ConstantLaurent.g aVars0 aK1).1, (laws_markLaurent.g (impl_ConstantLaurent.g aVars0 aK1) 1).1.2) 1) < 0)))
     (
      kr false)
     (
      cond (lk N (!(decide ((laws_heldLaurent.g ((impl_ConstantLaurent.g aVars0 aK1).1, (laws_markLaurent.g (impl_ConstantLaurent.g aVars0 aK1) 1).1.2) 1) = (laws_markLaurent.g (impl_ConstantLaurent.g aVars0 aK1) 1).2))))
      (
       kr false)
      (
       kr true))))))
def Spec : Prop := ∀  (aVars0 : Int) (aK1 : Int), ∃ N0, ∀ N, N0 ≤ N → Z0 N aVars0 aK1 (fun t4 => some ((), (t4, ()))) = some ((), ((g aVars0 aK1), ()))

theorem ok : Spec := fun v k => ⟨0, fun N hN => by
  have he : impl_ConstantLaurent.g v k = spec_ConstantLaurent.g v k := rfl
  have hs : szT (spec_ConstantLaurent.g v k).2 < 4611686018427387904 := by
    unfold spec_ConstantLaurent.g
    split
    · split
      · simp [szT]
      · simp only [szT, List.length_replicate]; omega
    · simp [szT]
  obtain ⟨h1, h2⟩ := lau_mark _ hs
  simp only [Z0, lk_eq, he, laws_eqLaurent.g, h1, dt (rfl : spec_ConstantLaurent.g v k = _), df (show ¬ (laws_markLaurent.g (spec_ConstantLaurent.g v k) 1).2 < 0 by omega), dt (rfl : (laws_markLaurent.g (spec_ConstantLaurent.g v k) 1).2 = _)]
  rfl⟩

end laws_FnExactConstantLaurent
end
end Go.Fw
