/- The plain part: what the functions compute, in lists and numbers. Nothing is assumed. -/
import Derived.Test.YtojjkghallginaaFwb
/-! Common words of the plain part. -/
set_option linter.unusedVariables false
namespace Go.Fw
/-- The lexicographic order. -/
def lexLt : List Int → List Int → Bool
  | [], [] => false
  | [], _ :: _ => true
  | _ :: _, [] => false
  | x :: xs, y :: ys => if x = y then lexLt xs ys else decide (x < y)
def lexCmp : List Int → List Int → Int
  | [], [] => 0
  | [], _ :: _ => -1
  | _ :: _, [] => 1
  | x :: xs, y :: ys => if x = y then lexCmp xs ys else if x < y then -1 else 1
theorem lexCmp_le : ∀ a b : List Int, decide (lexCmp a b ≤ 0) = !(lexLt b a)
  | [], [] => rfl
  | [], _ :: _ => rfl
  | _ :: _, [] => rfl
  | x :: xs, y :: ys => by
    rw [lexCmp, lexLt]
    by_cases h : x = y
    · rw [if_pos h, if_pos h.symm, lexCmp_le xs ys]
    · rw [if_neg h, if_neg (show ¬ y = x from fun e => h e.symm)]
      by_cases h2 : x < y
      · rw [if_pos h2, df (show ¬ y < x by omega)]; rfl
      · rw [if_neg h2, dt (show y < x by omega)]; rfl
theorem lexCmp_lt : ∀ a b : List Int, decide (lexCmp a b < 0) = lexLt a b
  | [], [] => rfl
  | [], _ :: _ => rfl
  | _ :: _, [] => rfl
  | x :: xs, y :: ys => by
    rw [lexCmp, lexLt]
    by_cases h : x = y
    · rw [if_pos h, if_pos h, lexCmp_lt xs ys]
    · rw [if_neg h, if_neg h]
      by_cases h2 : x < y
      · rw [if_pos h2, dt h2]; rfl
      · rw [if_neg h2, df h2]; rfl
def inK (n lo hi : Int) : Bool := decide (lo ≤ n) && decide (n ≤ hi)
def expK (vars : Int) (e : List Int) : Bool := decide ((e.length : Int) = vars) && e.all fun x => inK x (-20) 20
def coefK (c : Int) : Bool := !(decide (c = 0)) && inK c (-1000000) 1000000
def prevE (l : List (List Int × Int)) : Nat → Option (List Int)
  | 0 => none
  | j + 1 => some (l.getD j ([], 0)).1
def belowK : Option (List Int) → List Int → Bool
  | none, _ => true
  | some p, e => lexLt e p
def termsK (vars : Int) : List (List Int × Int) → Option (List Int) → Bool
  | [], _ => true
  | t :: ts, p => expK vars t.1 && (coefK t.2 && (belowK p t.1 && termsK vars ts (some t.1)))
/-- Is a sum right? -/
def lokK (f : Int × List (List Int × Int)) : Bool := inK f.1 1 8 && (decide (f.2.length ≤ 600) && termsK f.1 f.2 none)
end Go.Fw
set_option linter.unusedVariables false
set_option linter.unusedSimpArgs false
set_option maxRecDepth 100000
namespace Go.Fw
noncomputable section
namespace laws_markIntS
def mk : List Int → Int → List Int × Int
  | [], k => ([], k)
  | _ :: xs, k => (k :: (mk xs (w64 (k + 1))).1, (mk xs (w64 (k + 1))).2)
def g (a : List Int) (k : Int) : List Int × Int := mk a k
end laws_markIntS
namespace laws_markIntS
def Z1 {ρ : Type} (N : Nat) (a0 : List Int) (k1 : Int) (kn : List Int → Int → Option ρ) : Option ρ :=
 kn a0 k1
def Z4 {ρ : Type} (N : Nat) (a0 : List Int) (k1 : Int) (kn : List Int → Int → Int → Option ρ) : Option ρ :=
 kn a0 k1 0
def Z7 {ρ : Type} (N : Nat) (a0 : List Int) (k1 : Int) (i5 : Int) (kn : List Int → Int → Int → Option ρ) (k0 : List Int → Int → Option ρ) : Option ρ :=
 cond (lk N (decide (i5 < (a0.length : Int))))
 (
  cond (lk N (inB i5 a0.length)) (
   kn (a0.set i5.toNat k1) (w64 (k1 + 1)) (w64 (i5 + 1))) none)
 (
  k0 a0 k1)
def Z6L {ρ : Type} (N : Nat) (k0 : List Int → Int → Option ρ) : Nat → List Int → Int → Int → Option ρ
  | 0, _, _, _ => none
  | M + 1, a0, k1, i5 => Z7 N a0 k1 i5 (fun a0 k1 i5 => Z6L N k0 M a0 k1 i5) k0
def Z6 {ρ : Type} (N : Nat) (a0 : List Int) (k1 : Int) (i5 : Int) (k0 : List Int → Int → Option ρ) : Option ρ := Z6L N k0 N a0 k1 i5
def Z5 {ρ : Type} (N : Nat) (a0 : List Int) (k1 : Int) (i5 : Int) (kn : List Int → Int → Option ρ) : Option ρ := Z6 N a0 k1 i5 kn
def Z3 {ρ : Type} (N : Nat) (a0 : List Int) (k1 : Int) (kn : List Int → Int → Option ρ) : Option ρ := Z4 N a0 k1 (fun a0 k1 i5 => Z5 N a0 k1 i5 kn)
def Z8 {ρ : Type} (N : Nat) (io100000 : List Int) (k1 : Int) (kr : List Int → Int → Option ρ) : Option ρ :=
 kr io100000 k1
def Z2 {ρ : Type} (N : Nat) (a0 : List Int) (k1 : Int) (kr : List Int → Int → Option ρ) : Option ρ := Z3 N a0 k1 (fun io100000 k1 => Z8 N io100000 k1 kr)
def Z0 {ρ : Type} (N : Nat) (a0 : List Int) (k1 : Int) (kr : List Int → Int → Option ρ) : Option ρ := Z1 N a0 k1 (fun a0 k1 => Z2 N a0 k1 kr)
def Spec : Prop := ∀  (a0 : List Int) (k1 : Int), Ty.bd (.sl 0 (.int .i64)) a0 → ∃ N0, ∀ N, N0 ≤ N → Z0 N a0 k1 (fun io100000 t4 => some (io100000, (t4, ()))) = some ((g a0 k1).1, ((g a0 k1).2, ()))

theorem loop {ρ : Type} (N : Nat) (k0 : List Int → Int → Option ρ) : ∀ (M j : Nat) (a : List Int) (k : Int), a.length ≤ maxLen → j ≤ a.length → a.length - j < M →
    Z6L N k0 M a k (j : Int) = k0 (a.take j ++ (mk (a.drop j) k).1) (mk (a.drop j) k).2 := by
  intro M
  induction M with
  | zero => intro j a k _ _ h; omega
  | succ M ih =>
    intro j a k ha hj hM
    simp only [Z6L, Z7]
    by_cases h : j < a.length
    · rw [ct (dt (by omega)), ct (inB_nat h), Int.toNat_natCast, w64_succ (by omega), ih (j + 1) _ _ (by simpa using ha) (by simp; omega) (by simp; omega), drop_getD 0 h,
        List.drop_set_of_lt (by omega), take_set_s (by omega)]
      simp [mk]
    · have : j = a.length := by omega
      subst this
      rw [cf (df (by omega))]
      simp [mk]
theorem ok : Spec := fun a k ha => ⟨a.length + 1, fun N hN => by
  simp only [Z1, Z4, Z7, Z6, Z5, Z3, Z8, Z2, Z0]
  rw [show (0 : Int) = ((0 : Nat) : Int) from rfl, loop _ _ _ 0 a k ha.1 (by omega) (by omega)]
  simp [g]⟩
theorem mk_len : ∀ (a : List Int) (k : Int), (mk a k).1.length = a.length
  | [], _ => rfl
  | _ :: xs, k => by simp [mk, mk_len xs]
theorem mk_end : ∀ (a : List Int) (k : Int), 0 ≤ k → k + a.length < 9223372036854775808 → (mk a k).2 = k + a.length
  | [], k, _, _ => by simp [mk]
  | _ :: xs, k, h0, h => by
    simp only [mk, List.length_cons] at h ⊢
    rw [w64_id (by omega) (by omega), mk_end xs (k + 1) (by omega) (by omega)]
    omega

end laws_markIntS
end
end Go.Fw
set_option linter.unusedVariables false
set_option linter.unusedSimpArgs false
set_option maxRecDepth 100000
namespace Go.Fw
noncomputable section
namespace laws_heldIntS
def hd : List Int → Int → Int
  | [], k => k
  | x :: xs, k => if x = k then hd xs (w64 (k + 1)) else -1
def g (a : List Int) (k : Int) : Int := hd a k
end laws_heldIntS
namespace laws_heldIntS
def Z1 {ρ : Type} (N : Nat) (a0 : List Int) (k1 : Int) (kn : List Int → Int → Option ρ) : Option ρ :=
 kn a0 k1
def Z4 {ρ : Type} (N : Nat) (a0 : List Int) (k1 : Int) (kn : List Int → Int → Int → Option ρ) : Option ρ :=
 kn a0 k1 0
def Z7 {ρ : Type} (N : Nat) (a0 : List Int) (k1 : Int) (i5 : Int) (kn : List Int → Int → Int → Option ρ) (k0 : Int → Option ρ) (kr : Int → Option ρ) : Option ρ :=
 cond (lk N (decide (i5 < (a0.length : Int))))
 (
  cond (lk N (inB i5 a0.length)) (
   cond (lk N (!(decide ((a0.getD i5.toNat 0) = k1))))
   (
    kr (-1))
   (
    kn a0 (w64 (k1 + 1)) (w64 (i5 + 1)))) none)
 (
  k0 k1)
def Z6L {ρ : Type} (N : Nat) (k0 : Int → Option ρ) (kr : Int → Option ρ) : Nat → List Int → Int → Int → Option ρ
  | 0, _, _, _ => none
  | M + 1, a0, k1, i5 => Z7 N a0 k1 i5 (fun a0 k1 i5 => Z6L N k0 kr M a0 k1 i5) k0 kr
def Z6 {ρ : Type} (N : Nat) (a0 : List Int) (k1 : Int) (i5 : Int) (k0 : Int → Option ρ) (kr : Int → Option ρ) : Option ρ := Z6L N k0 kr N a0 k1 i5
def Z5 {ρ : Type} (N : Nat) (a0 : List Int) (k1 : Int) (i5 : Int) (kn : Int → Option ρ) (kr : Int → Option ρ) : Option ρ := Z6 N a0 k1 i5 kn kr
def Z3 {ρ : Type} (N : Nat) (a0 : List Int) (k1 : Int) (kn : Int → Option ρ) (kr : Int → Option ρ) : Option ρ := Z4 N a0 k1 (fun a0 k1 i5 => Z5 N a0 k1 i5 kn kr)
def Z8 {ρ : Type} (N : Nat) (k1 : Int) (kr : Int → Option ρ) : Option ρ :=
 kr k1
def Z2 {ρ : Type} (N : Nat) (a0 : List Int) (k1 : Int) (kr : Int → Option ρ) : Option ρ := Z3 N a0 k1 (fun k1 => Z8 N k1 kr) kr
def Z0 {ρ : Type} (N : Nat) (a0 : List Int) (k1 : Int) (kr : Int → Option ρ) : Option ρ := Z1 N a0 k1 (fun a0 k1 => Z2 N a0 k1 kr)
def Spec : Prop := ∀  (a0 : List Int) (k1 : Int), Ty.bd (.sl 0 (.int .i64)) a0 → ∃ N0, ∀ N, N0 ≤ N → Z0 N a0 k1 (fun t4 => some ((), (t4, ()))) = some ((), ((g a0 k1), ()))

theorem loop {ρ : Type} (N : Nat) (kr : Int → Option ρ) (a : List Int) (ha : a.length ≤ maxLen) : ∀ (M j : Nat) (k : Int), j ≤ a.length → a.length - j < M →
    Z6L N kr kr M a k (j : Int) = kr (hd (a.drop j) k) := by
  intro M
  induction M with
  | zero => intro j k _ h; omega
  | succ M ih =>
    intro j k hj hM
    simp only [Z6L, Z7]
    by_cases h : j < a.length
    · rw [ct (dt (by omega)), ct (inB_nat h), Int.toNat_natCast, w64_succ (by omega), ih (j + 1) _ h (by omega), drop_getD 0 h]
      by_cases e : a.getD j 0 = k
      · rw [cf (nf e), hd, if_pos e]
      · rw [ct (nt e), hd, if_neg e]
    · rw [cf (df (by omega)), List.drop_of_length_le (by omega), hd]
theorem ok : Spec := fun a k ha => ⟨a.length + 1, fun N hN => by
  simp only [Z1, Z4, Z7, Z6, Z5, Z3, Z8, Z2, Z0]
  rw [show (0 : Int) = ((0 : Nat) : Int) from rfl, loop _ _ a ha.1 N 0 k (by omega) (by omega)]
  simp [g]⟩

end laws_heldIntS
end
end Go.Fw
/-! What was marked is held: numbers. -/
set_option linter.unusedVariables false
namespace Go.Fw
theorem heldInt_mark : ∀ (a : List Int) (k : Int), laws_heldIntS.g (laws_markIntS.g a k).1 k = (laws_markIntS.g a k).2
  | [], k => rfl
  | x :: xs, k => by
    have ih := heldInt_mark xs (w64 (k + 1))
    simp only [laws_heldIntS.g, laws_markIntS.g, laws_markIntS.mk, laws_heldIntS.hd, if_true] at ih ⊢
    exact ih
end Go.Fw
set_option linter.unusedVariables false
set_option linter.unusedSimpArgs false
set_option maxRecDepth 100000
namespace Go.Fw
noncomputable section
namespace laws_markTermS
def mk : List (List Int × Int) → Int → List (List Int × Int) × Int
  | [], k => ([], k)
  | t :: ts, k => (((laws_markIntS.g t.1 k).1, (laws_markIntS.g t.1 k).2) :: (mk ts (w64 ((laws_markIntS.g t.1 k).2 + 1))).1, (mk ts (w64 ((laws_markIntS.g t.1 k).2 + 1))).2)
def g (a : List (List Int × Int)) (k : Int) : List (List Int × Int) × Int := mk a k
end laws_markTermS
namespace laws_markTermS
def Z1 {ρ : Type} (N : Nat) (a0 : List (List Int × Int)) (k1 : Int) (kn : (List (List Int × Int)) → Int → Option ρ) : Option ρ :=
 kn a0 k1
def Z4 {ρ : Type} (N : Nat) (a0 : List (List Int × Int)) (k1 : Int) (kn : (List (List Int × Int)) → Int → Int → Option ρ) : Option ρ :=
 kn a0 k1 0
def Z7 {ρ : Type} (N : Nat) (a0 : List (List Int × Int)) (k1 : Int) (i5 : Int) (kn : (List (List Int × Int)) → Int → Int → Option ρ) (k0 : (List (List Int × Int)) → Int → Option ρ) : Option ρ :=
 cond (lk N (decide (i5 < (a0.length : Int))))
 (
  cond (lk N (inB i5 a0.length)) (
   cond (lk N (inB i5 (a0.set i5.toNat ((laws_markIntS.g (a0.getD i5.toNat ([], 0)).1 k1).1, (a0.getD i5.toNat ([], 0)).2)).length)) (
    kn ((a0.set i5.toNat ((laws_markIntS.g (a0.getD i5.toNat ([], 0)).1 k1).1, (a0.getD i5.toNat ([], 0)).2)).set i5.toNat (((a0.set i5.toNat ((laws_markIntS.g (a0.getD i5.toNat ([], 0)).1 k1).1, (a0.getD i5.toNat ([], 0)).2)).getD i5.toNat ([], 0)).1, (laws_markIntS.g (a0.getD i5.toNat ([], 0)).1 k1).2)) (w64 ((laws_markIntS.g (a0.getD i5.toNat ([], 0)).1 k1).2 + 1)) (w64 (i5 + 1))) none) none)
 (
  k0 a0 k1)
def Z6L {ρ : Type} (N : Nat) (k0 : (List (List Int × Int)) → Int → Option ρ) : Nat → (List (List Int × Int)) → Int → Int → Option ρ
  | 0, _, _, _ => none
  | M + 1, a0, k1, i5 => Z7 N a0 k1 i5 (fun a0 k1 i5 => Z6L N k0 M a0 k1 i5) k0
def Z6 {ρ : Type} (N : Nat) (a0 : List (List Int × Int)) (k1 : Int) (i5 : Int) (k0 : (List (List Int × Int)) → Int → Option ρ) : Option ρ := Z6L N k0 N a0 k1 i5
def Z5 {ρ : Type} (N : Nat) (a0 : List (List Int × Int)) (k1 : Int) (i5 : Int) (kn : (List (List Int × Int)) → Int → Option ρ) : Option ρ := Z6 N a0 k1 i5 kn
def Z3 {ρ : Type} (N : Nat) (a0 : List (List Int × Int)) (k1 : Int) (kn : (List (List Int × Int)) → Int → Option ρ) : Option ρ := Z4 N a0 k1 (fun a0 k1 i5 => Z5 N a0 k1 i5 kn)
def Z8 {ρ : Type} (N : Nat) (io100000 : List (List Int × Int)) (k1 : Int) (kr : (List (List Int × Int)) → Int → Option ρ) : Option ρ :=
 kr io100000 k1
def Z2 {ρ : Type} (N : Nat) (a0 : List (List Int × Int)) (k1 : Int) (kr : (List (List Int × Int)) → Int → Option ρ) : Option ρ := Z3 N a0 k1 (fun io100000 k1 => Z8 N io100000 k1 kr)
def Z0 {ρ : Type} (N : Nat) (a0 : List (List Int × Int)) (k1 : Int) (kr : (List (List Int × Int)) → Int → Option ρ) : Option ρ := Z1 N a0 k1 (fun a0 k1 => Z2 N a0 k1 kr)
def Spec : Prop := ∀  (a0 : List (List Int × Int)) (k1 : Int), Ty.bd (.sl 0 (.pair (.sl 0 (.int .i64)) (.int .i64))) a0 → ∃ N0, ∀ N, N0 ≤ N → Z0 N a0 k1 (fun io100000 t4 => some (io100000, (t4, ()))) = some ((g a0 k1).1, ((g a0 k1).2, ()))

theorem loop {ρ : Type} (N : Nat) (k0 : List (List Int × Int) → Int → Option ρ) : ∀ (M j : Nat) (a : List (List Int × Int)) (k : Int), a.length ≤ maxLen → j ≤ a.length → a.length - j < M →
    Z6L N k0 M a k (j : Int) = k0 (a.take j ++ (mk (a.drop j) k).1) (mk (a.drop j) k).2 := by
  intro M
  induction M with
  | zero => intro j a k _ _ h; omega
  | succ M ih =>
    intro j a k ha hj hM
    simp only [Z6L, Z7]
    by_cases h : j < a.length
    · rw [ct (dt (by omega)), ct (inB_nat h), Int.toNat_natCast, ct (inB_nat (by simpa using h)), w64_succ (by omega), List.set_set, getD_set_self h, ih (j + 1) _ _ (by simpa using ha) (by simp; omega) (by simp; omega), drop_getD ([], 0) h,
        List.drop_set_of_lt (by omega), take_set_s (by omega)]
      simp [mk]
    · have : j = a.length := by omega
      subst this
      rw [cf (df (by omega))]
      simp [mk]
theorem ok : Spec := fun a k ha => ⟨a.length + 1, fun N hN => by
  simp only [Z1, Z4, Z7, Z6, Z5, Z3, Z8, Z2, Z0]
  rw [show (0 : Int) = ((0 : Nat) : Int) from rfl, loop _ _ _ 0 a k ha.1 (by omega) (by omega)]
  simp [g]⟩

end laws_markTermS
end
end Go.Fw
set_option linter.unusedVariables false
set_option linter.unusedSimpArgs false
set_option maxRecDepth 100000
namespace Go.Fw
noncomputable section
namespace laws_markLaurent
def g (a : Int × List (List Int × Int)) (k : Int) : (Int × List (List Int × Int)) × Int := ((a.1, (laws_markTermS.g a.2 k).1), (laws_markTermS.g a.2 k).2)
end laws_markLaurent
namespace laws_markLaurent
def Z0 {ρ : Type} (N : Nat) (a0 : Int × List (List Int × Int)) (k1 : Int) (kr : (List (List Int × Int)) → Int → Int → Option ρ) : Option ρ :=
 kr (laws_markTermS.g a0.2 k1).1 (laws_markTermS.g a0.2 k1).2 a0.1
def Spec : Prop := ∀  (a0 : Int × List (List Int × Int)) (k1 : Int), Ty.bd (.pair (.int .i64) (.sl 0 (.pair (.sl 0 (.int .i64)) (.int .i64)))) a0 → ∃ N0, ∀ N, N0 ≤ N → Z0 N a0 k1 (fun io100000_1 t4 io100000_0 => some ((io100000_0, io100000_1), (t4, ()))) = some ((g a0 k1).1, ((g a0 k1).2, ()))

theorem ok : Spec := fun a k ha => ⟨0, fun N hN => by simp only [Z0, g]⟩

end laws_markLaurent
end
end Go.Fw
set_option linter.unusedVariables false
set_option linter.unusedSimpArgs false
set_option maxRecDepth 100000
namespace Go.Fw
noncomputable section
namespace laws_heldTermS
def hd : List (List Int × Int) → Int → Int
  | [], k => k
  | t :: ts, k => if laws_heldIntS.g t.1 k < 0 then -1 else if t.2 = laws_heldIntS.g t.1 k then hd ts (w64 (laws_heldIntS.g t.1 k + 1)) else -1
def g (a : List (List Int × Int)) (k : Int) : Int := hd a k
end laws_heldTermS
namespace laws_heldTermS
def Z1 {ρ : Type} (N : Nat) (a0 : List (List Int × Int)) (k1 : Int) (kn : (List (List Int × Int)) → Int → Option ρ) : Option ρ :=
 kn a0 k1
def Z4 {ρ : Type} (N : Nat) (a0 : List (List Int × Int)) (k1 : Int) (kn : (List (List Int × Int)) → Int → Int → Option ρ) : Option ρ :=
 kn a0 k1 0
def Z7 {ρ : Type} (N : Nat) (a0 : List (List Int × Int)) (k1 : Int) (i5 : Int) (kn : (List (List Int × Int)) → Int → Int → Option ρ) (k0 : Int → Option ρ) (kr : Int → Option ρ) : Option ρ :=
 cond (lk N (decide (i5 < (a0.length : Int))))
 (
  cond (lk N (inB i5 a0.length)) (
   cond (lk N (decide ((laws_heldIntS.g (a0.getD i5.toNat ([], 0)).1 k1) < 0)))
   (
    kr (-1))
   (
    cond (lk N (inB i5 a0.length)) (
     cond (lk N (!(decide ((a0.getD i5.toNat ([], 0)).2 = (laws_heldIntS.g (a0.getD i5.toNat ([], 0)).1 k1)))))
     (
      kr (-1))
     (
      kn a0 (w64 ((laws_heldIntS.g (a0.getD i5.toNat ([], 0)).1 k1) + 1)) (w64 (i5 + 1)))) none)) none)
 (
  k0 k1)
def Z6L {ρ : Type} (N : Nat) (k0 : Int → Option ρ) (kr : Int → Option ρ) : Nat → (List (List Int × Int)) → Int → Int → Option ρ
  | 0, _, _, _ => none
  | M + 1, a0, k1, i5 => Z7 N a0 k1 i5 (fun a0 k1 i5 => Z6L N k0 kr M a0 k1 i5) k0 kr
def Z6 {ρ : Type} (N : Nat) (a0 : List (List Int × Int)) (k1 : Int) (i5 : Int) (k0 : Int → Option ρ) (kr : Int → Option ρ) : Option ρ := Z6L N k0 kr N a0 k1 i5
def Z5 {ρ : Type} (N : Nat) (a0 : List (List Int × Int)) (k1 : Int) (i5 : Int) (kn : Int → Option ρ) (kr : Int → Option ρ) : Option ρ := Z6 N a0 k1 i5 kn kr
def Z3 {ρ : Type} (N : Nat) (a0 : List (List Int × Int)) (k1 : Int) (kn : Int → Option ρ) (kr : Int → Option ρ) : Option ρ := Z4 N a0 k1 (fun a0 k1 i5 => Z5 N a0 k1 i5 kn kr)
def Z8 {ρ : Type} (N : Nat) (k1 : Int) (kr : Int → Option ρ) : Option ρ :=
 kr k1
def Z2 {ρ : Type} (N : Nat) (a0 : List (List Int × Int)) (k1 : Int) (kr : Int → Option ρ) : Option ρ := Z3 N a0 k1 (fun k1 => Z8 N k1 kr) kr
def Z0 {ρ : Type} (N : Nat) (a0 : List (List Int × Int)) (k1 : Int) (kr : Int → Option ρ) : Option ρ := Z1 N a0 k1 (fun a0 k1 => Z2 N a0 k1 kr)
def Spec : Prop := ∀  (a0 : List (List Int × Int)) (k1 : Int), Ty.bd (.sl 0 (.pair (.sl 0 (.int .i64)) (.int .i64))) a0 → ∃ N0, ∀ N, N0 ≤ N → Z0 N a0 k1 (fun t4 => some ((), (t4, ()))) = some ((), ((g a0 k1), ()))

theorem loop {ρ : Type} (N : Nat) (kr : Int → Option ρ) (a : List (List Int × Int)) (ha : a.length ≤ maxLen) : ∀ (M j : Nat) (k : Int), j ≤ a.length → a.length - j < M →
    Z6L N kr kr M a k (j : Int) = kr (hd (a.drop j) k) := by
  intro M
  induction M with
  | zero => intro j k _ h; omega
  | succ M ih =>
    intro j k hj hM
    simp only [Z6L, Z7]
    by_cases h : j < a.length
    · rw [ct (dt (by omega)), ct (inB_nat h), Int.toNat_natCast, w64_succ (by omega), ih (j + 1) _ h (by omega), drop_getD ([], 0) h]
      by_cases e1 : laws_heldIntS.g (a.getD j ([], 0)).1 k < 0
      · rw [ct (dt e1), hd, if_pos e1]
      · rw [cf (df e1), hd, if_neg e1, ct (inB_nat h)]
        by_cases e : (a.getD j ([], 0)).2 = laws_heldIntS.g (a.getD j ([], 0)).1 k
        · rw [cf (nf e), if_pos e]
        · rw [ct (nt e), if_neg e]
    · rw [cf (df (by omega)), List.drop_of_length_le (by omega), hd]
theorem ok : Spec := fun a k ha => ⟨a.length + 1, fun N hN => by
  simp only [Z1, Z4, Z7, Z6, Z5, Z3, Z8, Z2, Z0]
  rw [show (0 : Int) = ((0 : Nat) : Int) from rfl, loop _ _ a ha.1 N 0 k (by omega) (by omega)]
  simp [g]⟩

end laws_heldTermS
end
end Go.Fw
set_option linter.unusedVariables false
set_option linter.unusedSimpArgs false
set_option maxRecDepth 100000
namespace Go.Fw
noncomputable section
namespace laws_heldLaurent
def g (a : Int × List (List Int × Int)) (left : Int) : Int := if laws_heldTermS.g a.2 left < 0 then -1 else laws_heldTermS.g a.2 left
end laws_heldLaurent
namespace laws_heldLaurent
def Z0 {ρ : Type} (N : Nat) (a0 : Int × List (List Int × Int)) (k1 : Int) (kr : Int → Option ρ) : Option ρ :=
 cond (lk N (decide ((laws_heldTermS.g a0.2 k1) < 0)))
 (
  kr (-1))
 (
  kr (laws_heldTermS.g a0.2 k1))
def Spec : Prop := ∀  (a0 : Int × List (List Int × Int)) (k1 : Int), Ty.bd (.pair (.int .i64) (.sl 0 (.pair (.sl 0 (.int .i64)) (.int .i64)))) a0 → ∃ N0, ∀ N, N0 ≤ N → Z0 N a0 k1 (fun t4 => some ((), (t4, ()))) = some ((), ((g a0 k1), ()))

theorem ok : Spec := fun a left ha => ⟨0, fun N hN => by
  simp only [Z0, g]
  by_cases h : laws_heldTermS.g a.2 left < 0
  · rw [ct (dt h), if_pos h]
  · rw [cf (df h), if_neg h]⟩

end laws_heldLaurent
end
end Go.Fw
/-! What was marked is held: sums. -/
set_option linter.unusedVariables false
namespace Go.Fw
/-- How many numbers there are. -/
def szT : List (List Int × Int) → Nat
  | [] => 0
  | t :: ts => t.1.length + 1 + szT ts
theorem heldTerm_mark : ∀ (l : List (List Int × Int)) (k : Int), 0 ≤ k → k + szT l < 9223372036854775808 →
    laws_heldTermS.g (laws_markTermS.g l k).1 k = (laws_markTermS.g l k).2 ∧ (laws_markTermS.g l k).2 = k + szT l
  | [], k, _, _ => ⟨rfl, by simp [laws_markTermS.g, laws_markTermS.mk, szT]⟩
  | t :: ts, k, h0, h => by
    simp only [szT] at h ⊢
    have e1 := laws_markIntS.mk_end t.1 k h0 (by omega)
    have e2 := heldInt_mark t.1 k
    have e3 : (laws_markIntS.g t.1 k).2 = k + t.1.length := e1
    have e4 : w64 (k + t.1.length + 1) = k + t.1.length + 1 := w64_id (by omega) (by omega)
    obtain ⟨i1, i2⟩ := heldTerm_mark ts (k + t.1.length + 1) (by omega) (by omega)
    simp only [laws_heldTermS.g, laws_markTermS.g, laws_markTermS.mk, laws_heldTermS.hd, e2, e3, e4, if_true] at i1 i2 ⊢
    rw [if_neg (by omega)]
    exact ⟨i1, by rw [i2]; omega⟩
theorem lau_mark (x : Int × List (List Int × Int)) (h : szT x.2 < 4611686018427387904) :
    laws_heldLaurent.g (x.1, (laws_markLaurent.g x 1).1.2) 1 = (laws_markLaurent.g x 1).2 ∧ 0 ≤ (laws_markLaurent.g x 1).2 := by
  obtain ⟨h1, h2⟩ := heldTerm_mark x.2 1 (by omega) (by omega)
  have e : (laws_markLaurent.g x 1).2 = 1 + szT x.2 := h2
  refine ⟨?_, by rw [e]; omega⟩
  show (if laws_heldTermS.g (laws_markTermS.g x.2 1).1 1 < 0 then -1 else laws_heldTermS.g (laws_markTermS.g x.2 1).1 1) = (laws_markTermS.g x.2 1).2
  rw [h1, if_neg (by rw [h2]; omega)]
end Go.Fw
set_option linter.unusedVariables false
set_option linter.unusedSimpArgs false
set_option maxRecDepth 100000
namespace Go.Fw
noncomputable section
namespace laws_toIntS
def P (a : List Int) : Bool := decide (a.length < 1099511627776)
abbrev g (a : List Int) : List Int := a
end laws_toIntS
namespace laws_toIntS
def Z1 {ρ : Type} (N : Nat) (a0 : List Int) (kn : List Int → Option ρ) : Option ρ :=
 kn a0
def Z3 {ρ : Type} (N : Nat) (a0 : List Int) (kn : List Int → List Int → Option ρ) : Option ρ :=
 cond (lk N (leB 0 (a0.length : Int) && decide ((a0.length : Int) < 1099511627776))) (
  kn (List.replicate (a0.length : Int).toNat 0) a0) none
def Z6 {ρ : Type} (N : Nat) (out3 : List Int) (a0 : List Int) (kn : List Int → List Int → Int → Option ρ) : Option ρ :=
 kn out3 a0 0
def Z9 {ρ : Type} (N : Nat) (out3 : List Int) (a0 : List Int) (i4 : Int) (kn : List Int → List Int → Int → Option ρ) (k0 : List Int → Option ρ) : Option ρ :=
 cond (lk N (decide (i4 < (a0.length : Int))))
 (
  cond (lk N (inB i4 a0.length)) (
   cond (lk N (inB i4 out3.length)) (
    kn (out3.set i4.toNat (a0.getD i4.toNat 0)) a0 (w64 (i4 + 1))) none) none)
 (
  k0 out3)
def Z8L {ρ : Type} (N : Nat) (k0 : List Int → Option ρ) : Nat → List Int → List Int → Int → Option ρ
  | 0, _, _, _ => none
  | M + 1, out3, a0, i4 => Z9 N out3 a0 i4 (fun out3 a0 i4 => Z8L N k0 M out3 a0 i4) k0
def Z8 {ρ : Type} (N : Nat) (out3 : List Int) (a0 : List Int) (i4 : Int) (k0 : List Int → Option ρ) : Option ρ := Z8L N k0 N out3 a0 i4
def Z7 {ρ : Type} (N : Nat) (out3 : List Int) (a0 : List Int) (i4 : Int) (kn : List Int → Option ρ) : Option ρ := Z8 N out3 a0 i4 kn
def Z5 {ρ : Type} (N : Nat) (out3 : List Int) (a0 : List Int) (kn : List Int → Option ρ) : Option ρ := Z6 N out3 a0 (fun out3 a0 i4 => Z7 N out3 a0 i4 kn)
def Z10 {ρ : Type} (N : Nat) (out3 : List Int) (kr : List Int → Option ρ) : Option ρ :=
 kr out3
def Z4 {ρ : Type} (N : Nat) (out3 : List Int) (a0 : List Int) (kr : List Int → Option ρ) : Option ρ := Z5 N out3 a0 (fun out3 => Z10 N out3 kr)
def Z2 {ρ : Type} (N : Nat) (a0 : List Int) (kr : List Int → Option ρ) : Option ρ := Z3 N a0 (fun out3 a0 => Z4 N out3 a0 kr)
def Z0 {ρ : Type} (N : Nat) (a0 : List Int) (kr : List Int → Option ρ) : Option ρ := Z1 N a0 (fun a0 => Z2 N a0 kr)
def Spec : Prop := ∀  (a0 : List Int), Ty.bd (.sl 0 (.int .i64)) a0 → P a0 = true → ∃ N0, ∀ N, N0 ≤ N → Z0 N a0 (fun t2 => some ((), (t2, ()))) = some ((), ((g a0), ()))

theorem loop {ρ : Type} (N : Nat) (k0 : List Int → Option ρ) (a : List Int) (ha : a.length ≤ maxLen) : ∀ (M j : Nat) (out : List Int), out.length = a.length → out.take j = a.take j → j ≤ a.length → a.length - j < M →
    Z8L N k0 M out a (j : Int) = k0 a := by
  intro M
  induction M with
  | zero => intro j out _ _ _ h; omega
  | succ M ih =>
    intro j out ho ht hj hM
    simp only [Z8L, Z9]
    by_cases h : j < a.length
    · rw [ct (dt (by omega)), ct (inB_nat h), ct (inB_nat (by omega)), Int.toNat_natCast, w64_succ (by omega)]
      refine ih (j + 1) _ (by simpa using ho) ?_ h (by omega)
      rw [take_set_s (by omega), ht, take_getD 0 h]
    · rw [cf (df (by omega))]
      have : j = a.length := by omega
      subst this
      rw [List.take_of_length_le (by omega), List.take_length] at ht
      rw [ht]
theorem ok : Spec := fun a hb hp => ⟨a.length + 1, fun N hN => by
  have hl : a.length < 1099511627776 := by simpa [P] using hp
  simp only [Z1, Z3, Z6, Z9, Z8, Z7, Z5, Z10, Z4, Z2, Z0]
  rw [ct (by simp [leB]; omega)]
  exact loop _ _ a hb.1 _ 0 _ (by simp) (by simp) (by omega) (by omega)⟩

end laws_toIntS
end
end Go.Fw
/-! Small lists are copied. -/
set_option linter.unusedVariables false
namespace Go.Fw
theorem toInt_P (a : List Int) (h : (a.length : Int) ≤ 1048576) : laws_toIntS.P a = true := by
  unfold laws_toIntS.P
  exact dt (by omega)
end Go.Fw
set_option linter.unusedVariables false
set_option linter.unusedSimpArgs false
set_option maxRecDepth 100000
namespace Go.Fw
noncomputable section
namespace spec_l1Ints
def P (a : List Int) : Bool := decide (a.length < 1099511627776)
abbrev g (a : List Int) : List Int := a
end spec_l1Ints
namespace spec_l1Ints
def Z0 {ρ : Type} (N : Nat) (l0 : List Int) (kr : List Int → Option ρ) : Option ρ :=
 cond (lk N (Nat.blt (([] : List Int).length + l0.length) 1099511627776)) (
  kr (([] : List Int) ++ l0)) none
def Spec : Prop := ∀  (l0 : List Int), Ty.bd (.sl 0 (.int .i64)) l0 → P l0 = true → ∃ N0, ∀ N, N0 ≤ N → Z0 N l0 (fun t2 => some ((), (t2, ()))) = some ((), ((g l0), ()))

theorem ok : Spec := fun a hb hp => ⟨0, fun N hN => by
  have hl : a.length < 1099511627776 := by simpa [P] using hp
  have hc : Nat.blt (([] : List Int).length + a.length) 1099511627776 = true := by simpa using hl
  simp only [Z0, lk_eq, g, hc, cond_true, List.nil_append]⟩

end spec_l1Ints
end
end Go.Fw
set_option linter.unusedVariables false
set_option linter.unusedSimpArgs false
set_option maxRecDepth 100000
namespace Go.Fw
noncomputable section
namespace spec_l1In
def g (n low high : Int) : Bool := inK n low high
end spec_l1In
namespace spec_l1In
def Z0 {ρ : Type} (N : Nat) (n0 : Int) (low1 : Int) (high2 : Int) (kr : Bool → Option ρ) : Option ρ :=
 cond (lk N (decide (low1 ≤ n0)))
 (
  kr (lk N (decide (n0 ≤ high2))))
 (
  kr false)
def Spec : Prop := ∀  (n0 : Int) (low1 : Int) (high2 : Int), ∃ N0, ∀ N, N0 ≤ N → Z0 N n0 low1 high2 (fun t6 => some ((), (t6, ()))) = some ((), ((g n0 low1 high2), ()))

theorem ok : Spec := fun n low high => ⟨0, fun N hN => by
  simp only [Z0, lk_eq, g, inK]
  cases decide (low ≤ n) <;> rfl⟩

end spec_l1In
end
end Go.Fw
set_option linter.unusedVariables false
set_option linter.unusedSimpArgs false
set_option maxRecDepth 100000
namespace Go.Fw
noncomputable section
namespace spec_l1Less
def g (a b : List Int) : Bool := lexLt a b
end spec_l1Less
namespace spec_l1Less
def Z1 {ρ : Type} (N : Nat) (a0 : List Int) (b1 : List Int) (kn : List Int → List Int → Option ρ) : Option ρ :=
 kn a0 b1
def Z4 {ρ : Type} (N : Nat) (a0 : List Int) (b1 : List Int) (kn : List Int → List Int → Int → Option ρ) : Option ρ :=
 kn a0 b1 0
def Z7 {ρ : Type} (N : Nat) (a0 : List Int) (b1 : List Int) (i5 : Int) (kn : List Int → List Int → Int → Option ρ) (k0 : List Int → List Int → Option ρ) (kr : Bool → Option ρ) : Option ρ :=
 cond (lk N (decide (i5 < (a0.length : Int))))
 (
  cond (lk N (decide (i5 < (b1.length : Int))))
  (
   cond (lk N (inB i5 a0.length)) (
    cond (lk N (inB i5 b1.length)) (
     cond (lk N (!(decide ((a0.getD i5.toNat 0) = (b1.getD i5.toNat 0)))))
     (
      cond (lk N (inB i5 a0.length)) (
       cond (lk N (inB i5 b1.length)) (
        kr (lk N (decide ((a0.getD i5.toNat 0) < (b1.getD i5.toNat 0))))) none) none)
     (
      kn a0 b1 (w64 (i5 + 1)))) none) none)
  (
   k0 a0 b1))
 (
  k0 a0 b1)
def Z6L {ρ : Type} (N : Nat) (k0 : List Int → List Int → Option ρ) (kr : Bool → Option ρ) : Nat → List Int → List Int → Int → Option ρ
  | 0, _, _, _ => none
  | M + 1, a0, b1, i5 => Z7 N a0 b1 i5 (fun a0 b1 i5 => Z6L N k0 kr M a0 b1 i5) k0 kr
def Z6 {ρ : Type} (N : Nat) (a0 : List Int) (b1 : List Int) (i5 : Int) (k0 : List Int → List Int → Option ρ) (kr : Bool → Option ρ) : Option ρ := Z6L N k0 kr N a0 b1 i5
def Z5 {ρ : Type} (N : Nat) (a0 : List Int) (b1 : List Int) (i5 : Int) (kn : List Int → List Int → Option ρ) (kr : Bool → Option ρ) : Option ρ := Z6 N a0 b1 i5 kn kr
def Z3 {ρ : Type} (N : Nat) (a0 : List Int) (b1 : List Int) (kn : List Int → List Int → Option ρ) (kr : Bool → Option ρ) : Option ρ := Z4 N a0 b1 (fun a0 b1 i5 => Z5 N a0 b1 i5 kn kr)
def Z8 {ρ : Type} (N : Nat) (a0 : List Int) (b1 : List Int) (kr : Bool → Option ρ) : Option ρ :=
 kr (lk N (decide ((a0.length : Int) < (b1.length : Int))))
def Z2 {ρ : Type} (N : Nat) (a0 : List Int) (b1 : List Int) (kr : Bool → Option ρ) : Option ρ := Z3 N a0 b1 (fun a0 b1 => Z8 N a0 b1 kr) kr
def Z0 {ρ : Type} (N : Nat) (a0 : List Int) (b1 : List Int) (kr : Bool → Option ρ) : Option ρ := Z1 N a0 b1 (fun a0 b1 => Z2 N a0 b1 kr)
def Spec : Prop := ∀  (a0 : List Int) (b1 : List Int), Ty.bd (.sl 0 (.int .i64)) a0 → Ty.bd (.sl 0 (.int .i64)) b1 → ∃ N0, ∀ N, N0 ≤ N → Z0 N a0 b1 (fun t4 => some ((), (t4, ()))) = some ((), ((g a0 b1), ()))

theorem loop {ρ : Type} (N : Nat) (k0 : List Int → List Int → Option ρ) (kr : Bool → Option ρ) (a b : List Int) (ha : a.length ≤ maxLen) (h0 : k0 a b = kr (decide (a.length < b.length))) : ∀ (M j : Nat), j ≤ a.length → j ≤ b.length → a.length - j < M →
    Z6L N k0 kr M a b (j : Int) = kr (lexLt (a.drop j) (b.drop j)) := by
  intro M
  induction M with
  | zero => intro j _ _ h; omega
  | succ M ih =>
    intro j hj hb hM
    simp only [Z6L, Z7]
    by_cases h : j < a.length
    · rw [ct (dt (by omega)), drop_getD 0 h]
      by_cases h2 : j < b.length
      · rw [ct (dt (by omega)), ct (inB_nat h), ct (inB_nat h2), Int.toNat_natCast, w64_succ (by omega), drop_getD (l := b) 0 h2, lexLt, ih (j + 1) h h2 (by omega)]
        by_cases e : a.getD j 0 = b.getD j 0
        · rw [cf (nf e), if_pos e]
        · rw [ct (nt e), if_neg e, ct (inB_nat h), ct (inB_nat h2), lk_eq]
      · rw [cf (df (by omega)), List.drop_of_length_le (l := b) (by omega), h0, df (by omega)]
        rfl
    · rw [cf (df (by omega)), List.drop_of_length_le (by omega), h0]
      by_cases h2 : j < b.length
      · rw [dt (by omega), drop_getD (l := b) 0 h2]; rfl
      · rw [df (by omega), List.drop_of_length_le (l := b) (by omega)]; rfl
theorem ok : Spec := fun a b ha hb => ⟨a.length + 1, fun N hN => by
  simp only [Z1, Z4, Z7, Z6, Z5, Z3, Z8, Z2, Z0]
  refine (loop N _ (fun t => some ((), (t, ()))) a b ha.1 ?_ N 0 (by omega) (by omega) (by omega)).trans rfl
  rw [lk_eq, show decide ((a.length : Int) < (b.length : Int)) = decide (a.length < b.length) from decide_eq_decide.2 (by omega)]⟩

end spec_l1Less
end
end Go.Fw
set_option linter.unusedVariables false
set_option linter.unusedSimpArgs false
set_option maxRecDepth 100000
namespace Go.Fw
noncomputable section
namespace spec_l2Right
def g (f : Int × List (List Int × Int)) : Bool := lokK f
end spec_l2Right
namespace spec_l2Right
def Z1 {ρ : Type} (N : Nat) (f0 : Int × List (List Int × Int)) (kn : Int → (List (List Int × Int)) → Option ρ) : Option ρ :=
 kn f0.1 f0.2
def Z3 {ρ : Type} (N : Nat) (f1_0 : Int) (f1_1 : List (List Int × Int)) (kn : Int → (List (List Int × Int)) → Option ρ) (kr : Bool → Option ρ) : Option ρ :=
 cond (!(lk N ((spec_l1In.g f1_0 1 8))))
 (
  kr false)
 (
  cond (lk N (decide (600 < (f1_1.length : Int))))
  (
   kr false)
  (
   kn f1_0 f1_1))
def Z6 {ρ : Type} (N : Nat) (f1_0 : Int) (f1_1 : List (List Int × Int)) (kn : Int → Int → (List (List Int × Int)) → Option ρ) : Option ρ :=
 kn 0 f1_0 f1_1
def Z10 {ρ : Type} (N : Nat) (k3 : Int) (f1_0 : Int) (f1_1 : List (List Int × Int)) (kn : Int → Int → (List (List Int × Int)) → Option ρ) (k0 : Option ρ) : Option ρ :=
 cond (lk N (decide (k3 < (f1_1.length : Int))))
 (
  kn k3 f1_0 f1_1)
 (
  k0)
def Z14 {ρ : Type} (N : Nat) (k3 : Int) (f1_0 : Int) (f1_1 : List (List Int × Int)) (kn : Int → Int → (List (List Int × Int)) → List Int → Int → Option ρ) : Option ρ :=
 cond (lk N (inB k3 f1_1.length)) (
  kn k3 f1_0 f1_1 (f1_1.getD k3.toNat ([], 0)).1 (f1_1.getD k3.toNat ([], 0)).2) none
def Z16 {ρ : Type} (N : Nat) (k3 : Int) (f1_0 : Int) (f1_1 : List (List Int × Int)) (t4_0 : List Int) (t4_1 : Int) (kn : Int → Int → (List (List Int × Int)) → List Int → Int → Option ρ) (kr : Bool → Option ρ) : Option ρ :=
 cond (lk N (!(decide ((t4_0.length : Int) = f1_0))))
 (
  kr false)
 (
  cond (lk N (decide (t4_1 = 0)))
  (
   kr false)
  (
   cond (!(lk N ((spec_l1In.g t4_1 (-1000000) 1000000))))
   (
    kr false)
   (
    cond (lk N (decide (0 < k3)))
    (
     cond (lk N (inB (w64 (k3 - 1)) f1_1.length)) (
      cond (!(lk N ((spec_l1Less.g t4_0 (f1_1.getD (w64 (k3 - 1)).toNat ([], 0)).1))))
      (
       kr false)
      (
       kn k3 f1_0 f1_1 t4_0 t4_1)) none)
    (
     kn k3 f1_0 f1_1 t4_0 t4_1))))
def Z18 {ρ : Type} (N : Nat) (k3 : Int) (f1_0 : Int) (f1_1 : List (List Int × Int)) (t4_0 : List Int) (t4_1 : Int) (kn : Int → Int → Int → (List (List Int × Int)) → List Int → Int → Option ρ) : Option ρ :=
 kn k3 0 f1_0 f1_1 t4_0 t4_1
def Z21 {ρ : Type} (N : Nat) (k3 : Int) (i5 : Int) (f1_0 : Int) (f1_1 : List (List Int × Int)) (t4_0 : List Int) (t4_1 : Int) (kn : Int → Int → Int → (List (List Int × Int)) → List Int → Int → Option ρ) (k2 : Int → Int → (List (List Int × Int)) → Option ρ) (kr : Bool → Option ρ) : Option ρ :=
 cond (lk N (decide (i5 < f1_0)))
 (
  cond (lk N (inB i5 t4_0.length)) (
   cond (!(lk N ((spec_l1In.g (t4_0.getD i5.toNat 0) (-20) 20))))
   (
    kr false)
   (
    kn k3 (w64 (i5 + 1)) f1_0 f1_1 t4_0 t4_1)) none)
 (
  k2 k3 f1_0 f1_1)
def Z20L {ρ : Type} (N : Nat) (k2 : Int → Int → (List (List Int × Int)) → Option ρ) (kr : Bool → Option ρ) : Nat → Int → Int → Int → (List (List Int × Int)) → List Int → Int → Option ρ
  | 0, _, _, _, _, _, _ => none
  | M + 1, k3, i5, f1_0, f1_1, t4_0, t4_1 => Z21 N k3 i5 f1_0 f1_1 t4_0 t4_1 (fun k3 i5 f1_0 f1_1 t4_0 t4_1 => Z20L N k2 kr M k3 i5 f1_0 f1_1 t4_0 t4_1) k2 kr
def Z20 {ρ : Type} (N : Nat) (k3 : Int) (i5 : Int) (f1_0 : Int) (f1_1 : List (List Int × Int)) (t4_0 : List Int) (t4_1 : Int) (k2 : Int → Int → (List (List Int × Int)) → Option ρ) (kr : Bool → Option ρ) : Option ρ := Z20L N k2 kr N k3 i5 f1_0 f1_1 t4_0 t4_1
def Z19 {ρ : Type} (N : Nat) (k3 : Int) (i5 : Int) (f1_0 : Int) (f1_1 : List (List Int × Int)) (t4_0 : List Int) (t4_1 : Int) (kn : Int → Int → (List (List Int × Int)) → Option ρ) (kr : Bool → Option ρ) : Option ρ := Z20 N k3 i5 f1_0 f1_1 t4_0 t4_1 kn kr
def Z17 {ρ : Type} (N : Nat) (k3 : Int) (f1_0 : Int) (f1_1 : List (List Int × Int)) (t4_0 : List Int) (t4_1 : Int) (kn : Int → Int → (List (List Int × Int)) → Option ρ) (kr : Bool → Option ρ) : Option ρ := Z18 N k3 f1_0 f1_1 t4_0 t4_1 (fun k3 i5 f1_0 f1_1 t4_0 t4_1 => Z19 N k3 i5 f1_0 f1_1 t4_0 t4_1 kn kr)
def Z15 {ρ : Type} (N : Nat) (k3 : Int) (f1_0 : Int) (f1_1 : List (List Int × Int)) (t4_0 : List Int) (t4_1 : Int) (kn : Int → Int → (List (List Int × Int)) → Option ρ) (kr : Bool → Option ρ) : Option ρ := Z16 N k3 f1_0 f1_1 t4_0 t4_1 (fun k3 f1_0 f1_1 t4_0 t4_1 => Z17 N k3 f1_0 f1_1 t4_0 t4_1 kn kr) kr
def Z13 {ρ : Type} (N : Nat) (k3 : Int) (f1_0 : Int) (f1_1 : List (List Int × Int)) (kn : Int → Int → (List (List Int × Int)) → Option ρ) (kr : Bool → Option ρ) : Option ρ := Z14 N k3 f1_0 f1_1 (fun k3 f1_0 f1_1 t4_0 t4_1 => Z15 N k3 f1_0 f1_1 t4_0 t4_1 kn kr)
def Z12 {ρ : Type} (N : Nat) (k3 : Int) (f1_0 : Int) (f1_1 : List (List Int × Int)) (kn : Int → Int → (List (List Int × Int)) → Option ρ) (kr : Bool → Option ρ) : Option ρ := Z13 N k3 f1_0 f1_1 kn kr
def Z22 {ρ : Type} (N : Nat) (k3 : Int) (f1_0 : Int) (f1_1 : List (List Int × Int)) (kn : Int → Int → (List (List Int × Int)) → Option ρ) : Option ρ :=
 kn (w64 (k3 + 1)) f1_0 f1_1
def Z11 {ρ : Type} (N : Nat) (k3 : Int) (f1_0 : Int) (f1_1 : List (List Int × Int)) (kn : Int → Int → (List (List Int × Int)) → Option ρ) (kr : Bool → Option ρ) : Option ρ := Z12 N k3 f1_0 f1_1 (fun k3 f1_0 f1_1 => Z22 N k3 f1_0 f1_1 kn) kr
def Z9 {ρ : Type} (N : Nat) (k3 : Int) (f1_0 : Int) (f1_1 : List (List Int × Int)) (kn : Int → Int → (List (List Int × Int)) → Option ρ) (k0 : Option ρ) (kr : Bool → Option ρ) : Option ρ := Z10 N k3 f1_0 f1_1 (fun k3 f1_0 f1_1 => Z11 N k3 f1_0 f1_1 kn kr) k0
def Z8L {ρ : Type} (N : Nat) (k0 : Option ρ) (kr : Bool → Option ρ) : Nat → Int → Int → (List (List Int × Int)) → Option ρ
  | 0, _, _, _ => none
  | M + 1, k3, f1_0, f1_1 => Z9 N k3 f1_0 f1_1 (fun k3 f1_0 f1_1 => Z8L N k0 kr M k3 f1_0 f1_1) k0 kr
def Z8 {ρ : Type} (N : Nat) (k3 : Int) (f1_0 : Int) (f1_1 : List (List Int × Int)) (k0 : Option ρ) (kr : Bool → Option ρ) : Option ρ := Z8L N k0 kr N k3 f1_0 f1_1
def Z7 {ρ : Type} (N : Nat) (k3 : Int) (f1_0 : Int) (f1_1 : List (List Int × Int)) (kn : Option ρ) (kr : Bool → Option ρ) : Option ρ := Z8 N k3 f1_0 f1_1 kn kr
def Z5 {ρ : Type} (N : Nat) (f1_0 : Int) (f1_1 : List (List Int × Int)) (kn : Option ρ) (kr : Bool → Option ρ) : Option ρ := Z6 N f1_0 f1_1 (fun k3 f1_0 f1_1 => Z7 N k3 f1_0 f1_1 kn kr)
def Z23 {ρ : Type} (N : Nat)  (kr : Bool → Option ρ) : Option ρ :=
 kr true
def Z4 {ρ : Type} (N : Nat) (f1_0 : Int) (f1_1 : List (List Int × Int)) (kr : Bool → Option ρ) : Option ρ := Z5 N f1_0 f1_1 (Z23 N kr) kr
def Z2 {ρ : Type} (N : Nat) (f1_0 : Int) (f1_1 : List (List Int × Int)) (kr : Bool → Option ρ) : Option ρ := Z3 N f1_0 f1_1 (fun f1_0 f1_1 => Z4 N f1_0 f1_1 kr) kr
def Z0 {ρ : Type} (N : Nat) (f0 : Int × List (List Int × Int)) (kr : Bool → Option ρ) : Option ρ := Z1 N f0 (fun f1_0 f1_1 => Z2 N f1_0 f1_1 kr)
def Spec : Prop := ∀  (f0 : Int × List (List Int × Int)), Ty.bd (.pair (.int .i64) (.sl 0 (.pair (.sl 0 (.int .i64)) (.int .i64)))) f0 → ∃ N0, ∀ N, N0 ≤ N → Z0 N f0 (fun t2 => some ((), (t2, ()))) = some ((), ((g f0), ()))

theorem inner {ρ : Type} (N : Nat) (k2 : Int → Int → List (List Int × Int) → Option ρ) (kr : Bool → Option ρ) (k v : Int) (l : List (List Int × Int)) (e : List Int) (c : Int) (he : e.length ≤ maxLen) (hv : (e.length : Int) = v) : ∀ (M j : Nat), j ≤ e.length → e.length - j < M →
    Z20L N k2 kr M k (j : Int) v l e c = cond ((e.drop j).all fun x => inK x (-20) 20) (k2 k v l) (kr false) := by
  intro M
  induction M with
  | zero => intro j _ h; omega
  | succ M ih =>
    intro j hj hM
    simp only [Z20L, Z21]
    by_cases h : j < e.length
    · rw [ct (dt (by omega)), ct (inB_nat h), Int.toNat_natCast, w64_succ (by omega), drop_getD 0 h, List.all_cons, ih (j + 1) h (by omega)]
      simp only [lk_eq, spec_l1In.g]
      cases inK (e.getD j 0) (-20) 20 <;> rfl
    · rw [cf (df (by omega)), List.drop_of_length_le (by omega)]; rfl
theorem loop {ρ : Type} (N : Nat) (kr : Bool → Option ρ) (v : Int) (l : List (List Int × Int)) (hl : l.length ≤ maxLen) (hv : inK v 1 8 = true) (hN : 10 ≤ N) : ∀ (M j : Nat), j ≤ l.length → l.length - j < M →
    Z8L N (kr true) kr M (j : Int) v l = kr (termsK v (l.drop j) (prevE l j)) := by
  simp only [inK, Bool.and_eq_true, decide_eq_true_eq] at hv
  intro M
  induction M with
  | zero => intro j _ h; omega
  | succ M ih =>
    intro j hj hM
    simp only [Z8L, Z1, Z3, Z6, Z10, Z14, Z16, Z18, Z21, Z20, Z19, Z17, Z15, Z13, Z12, Z22, Z11, Z9, Z8, Z7, Z5, Z23, Z4, Z2, Z0]
    by_cases h : j < l.length
    · rw [ct (dt (by omega)), ct (inB_nat h), Int.toNat_natCast, drop_getD ([], 0) h, termsK]
      by_cases hlen : ((l.getD j ([], 0)).1.length : Int) = v
      · rw [cf (nf hlen)]
        have hin := inner (ρ := ρ) N (fun k3 f1_0 f1_1 => Z8L N (kr true) kr M (w64 (k3 + 1)) f1_0 f1_1) kr j v l (l.getD j ([], 0)).1 (l.getD j ([], 0)).2 (by rw [maxLen_val]; omega) hlen N 0 (by omega) (by omega)
        rw [List.drop_zero, w64_succ (by omega), ih (j + 1) h (by omega)] at hin
        rw [show (((0 : Nat) : Int)) = 0 from rfl] at hin
        simp only [lk_eq, spec_l1In.g, expK, dt hlen, Bool.true_and, coefK]
        rw [hin]
        generalize ((l.getD j ([], 0)).1.all fun x => inK x (-20) 20) = b1
        cases hz : decide ((l.getD j ([], 0)).2 = 0) with
        | true => cases b1 <;> rfl
        | false =>
          cases inK (l.getD j ([], 0)).2 (-1000000) 1000000 with
          | false => cases b1 <;> rfl
          | true =>
            cases j with
            | zero => cases b1 <;> rfl
            | succ j =>
              rw [dt (show (0 : Int) < ((j + 1 : Nat) : Int) by omega), show w64 (((j + 1 : Nat) : Int) - 1) = (j : Int) by rw [w64_id (by omega) (by rw [maxLen_val] at hl; omega)]; omega, inB_nat (by omega)]
              simp only [cond_true, Int.toNat_natCast, spec_l1Less.g, prevE, belowK, Bool.not_true, cond_false, Bool.not_false, Bool.true_and]
              cases lexLt (l.getD (j + 1) ([], 0)).1 (l.getD j ([], 0)).1 <;> cases b1 <;> rfl
      · rw [ct (nt hlen), expK, df hlen]; rfl
    · rw [cf (df (by omega)), List.drop_of_length_le (by omega), termsK]
theorem ok : Spec := fun f hb => ⟨f.2.length + 10, fun N hN => by
  simp only [Z1, Z3, Z6, Z10, Z14, Z16, Z18, Z21, Z20, Z19, Z17, Z15, Z13, Z12, Z22, Z11, Z9, Z8, Z7, Z5, Z23, Z4, Z2, Z0, g, lokK, spec_l1In.g]
  cases h1 : inK f.1 1 8
  · simp [lk_eq]
  by_cases h2 : (600 : Int) < f.2.length
  · rw [cf' (by simp [lk_eq]), ct (dt h2), df (by omega)]
    simp
  · rw [cf' (by simp [lk_eq]), cf (df h2), dt (show f.2.length ≤ 600 by omega)]
    exact (loop N (fun t => some ((), (t, ()))) _ f.2 hb.2.1 h1 (by omega) N 0 (by omega) (by omega)).trans rfl⟩

end spec_l2Right
end
end Go.Fw
set_option linter.unusedVariables false
set_option linter.unusedSimpArgs false
set_option maxRecDepth 100000
namespace Go.Fw
noncomputable section
namespace spec_MonomialLaurent
def P (exp : List Int) : Bool := spec_l1Ints.P exp
def g (exp : List Int) : Int × List (List Int × Int) := if (inK exp.length 1 8 && exp.all fun x => inK x (-20) 20) = true then (exp.length, [(exp, 1)]) else (0, [])
end spec_MonomialLaurent
namespace spec_MonomialLaurent
def Z0 {ρ : Type} (N : Nat) (exp0 : List Int) (kr : (List (List Int × Int)) → Int → Option ρ) : Option ρ :=
 cond (lk N (spec_l1Ints.P exp0)) (
  cond (!(lk N ((spec_l2Right.g ((exp0.length : Int), [((spec_l1Ints.g exp0), 1)])))))
  (
   kr ([] : List (List Int × Int)) 0)
  (
   kr ([((spec_l1Ints.g exp0), 1)]) (exp0.length : Int))) none
def Spec : Prop := ∀  (exp0 : List Int), Ty.bd (.sl 0 (.int .i64)) exp0 → P exp0 = true → ∃ N0, ∀ N, N0 ≤ N → Z0 N exp0 (fun t2_1 t2_0 => some ((), ((t2_0, t2_1), ()))) = some ((), ((g exp0), ()))

theorem ok : Spec := fun exp hb hp => ⟨0, fun N hN => by
  simp only [Z0, lk_eq, g, show spec_l1Ints.P exp = true from hp, cond_true, spec_l1Ints.g, spec_l2Right.g]
  have : lokK (exp.length, [(exp, 1)]) = (inK exp.length 1 8 && exp.all fun x => inK x (-20) 20) := by
    simp [lokK, termsK, expK, coefK, belowK, inK]
  rw [this]
  cases (inK exp.length 1 8 && exp.all fun x => inK x (-20) 20) <;> simp⟩

end spec_MonomialLaurent
end
end Go.Fw
set_option linter.unusedVariables false
set_option linter.unusedSimpArgs false
set_option maxRecDepth 100000
namespace Go.Fw
noncomputable section
namespace impl_within
def g (n low high : Int) : Bool := inK n low high
end impl_within
namespace impl_within
def Z0 {ρ : Type} (N : Nat) (n0 : Int) (low1 : Int) (high2 : Int) (kr : Bool → Option ρ) : Option ρ :=
 cond (lk N (decide (low1 ≤ n0)))
 (
  kr (lk N (decide (n0 ≤ high2))))
 (
  kr false)
def Spec : Prop := ∀  (n0 : Int) (low1 : Int) (high2 : Int), ∃ N0, ∀ N, N0 ≤ N → Z0 N n0 low1 high2 (fun t6 => some ((), (t6, ()))) = some ((), ((g n0 low1 high2), ()))

theorem ok : Spec := fun n low high => ⟨0, fun N hN => by
  simp only [Z0, lk_eq, g, inK]
  cases decide (low ≤ n) <;> rfl⟩

end impl_within
end
end Go.Fw
set_option linter.unusedVariables false
set_option linter.unusedSimpArgs false
set_option maxRecDepth 100000
namespace Go.Fw
noncomputable section
namespace impl_expOk_1
def g (e : Int) : Bool := !(inK e (-20) 20)
end impl_expOk_1
namespace impl_expOk_1
def Z0 {ρ : Type} (N : Nat) (e0 : Int) (kr : Bool → Option ρ) : Option ρ :=
 kr (!(lk N ((impl_within.g e0 (-20) 20))))
def Spec : Prop := ∀  (e0 : Int), ∃ N0, ∀ N, N0 ≤ N → Z0 N e0 (fun t2 => some ((), (t2, ()))) = some ((), ((g e0), ()))

theorem ok : Spec := fun e => ⟨0, fun N hN => by simp only [Z0, lk_eq, g, impl_within.g]⟩

end impl_expOk_1
end
end Go.Fw
set_option linter.unusedVariables false
set_option linter.unusedSimpArgs false
set_option maxRecDepth 100000
namespace Go.Fw
noncomputable section
namespace slices_IndexFunc_int_int_expOk
def go (p : Int → Bool) : List Int → Nat → Int
  | [], _ => -1
  | x :: xs, j => if p x = true then (j : Int) else go p xs (j + 1)
def g (s : List Int) (_ : Unit) : Int := go impl_expOk_1.g s 0
end slices_IndexFunc_int_int_expOk
namespace slices_IndexFunc_int_int_expOk
def Z1 {ρ : Type} (N : Nat) (s0 : List Int) (f1 : Unit) (kn : List Int → Option ρ) : Option ρ :=
 kn s0
def Z4 {ρ : Type} (N : Nat) (s0 : List Int) (kn : List Int → Int → Int → Option ρ) : Option ρ :=
 kn s0 (s0.length : Int) 0
def Z7 {ρ : Type} (N : Nat) (s0 : List Int) (t7 : Int) (t8 : Int) (kn : List Int → Int → Int → Option ρ) (k0 : Option ρ) (kr : Int → Option ρ) : Option ρ :=
 cond (lk N (decide (t8 < t7)))
 (
  cond (lk N (inB t8 s0.length)) (
   cond (lk N ((impl_expOk_1.g (s0.getD t8.toNat 0))))
   (
    kr t8)
   (
    kn s0 t7 (w64 (t8 + 1)))) none)
 (
  k0)
def Z6L {ρ : Type} (N : Nat) (k0 : Option ρ) (kr : Int → Option ρ) : Nat → List Int → Int → Int → Option ρ
  | 0, _, _, _ => none
  | M + 1, s0, t7, t8 => Z7 N s0 t7 t8 (fun s0 t7 t8 => Z6L N k0 kr M s0 t7 t8) k0 kr
def Z6 {ρ : Type} (N : Nat) (s0 : List Int) (t7 : Int) (t8 : Int) (k0 : Option ρ) (kr : Int → Option ρ) : Option ρ := Z6L N k0 kr N s0 t7 t8
def Z5 {ρ : Type} (N : Nat) (s0 : List Int) (t7 : Int) (t8 : Int) (kn : Option ρ) (kr : Int → Option ρ) : Option ρ := Z6 N s0 t7 t8 kn kr
def Z3 {ρ : Type} (N : Nat) (s0 : List Int) (kn : Option ρ) (kr : Int → Option ρ) : Option ρ := Z4 N s0 (fun s0 t7 t8 => Z5 N s0 t7 t8 kn kr)
def Z8 {ρ : Type} (N : Nat)  (kr : Int → Option ρ) : Option ρ :=
 kr (-1)
def Z2 {ρ : Type} (N : Nat) (s0 : List Int) (kr : Int → Option ρ) : Option ρ := Z3 N s0 (Z8 N kr) kr
def Z0 {ρ : Type} (N : Nat) (s0 : List Int) (f1 : Unit) (kr : Int → Option ρ) : Option ρ := Z1 N s0 f1 (fun s0 => Z2 N s0 kr)
def Spec : Prop := ∀  (s0 : List Int) (f1 : Unit), Ty.bd (.sl 0 (.int .i64)) s0 → ∃ N0, ∀ N, N0 ≤ N → Z0 N s0 f1 (fun t4 => some ((), (t4, ()))) = some ((), ((g s0 f1), ()))

theorem loop {ρ : Type} (N : Nat) (kr : Int → Option ρ) (a : List Int) (ha : a.length ≤ maxLen) : ∀ (M j : Nat), j ≤ a.length → a.length - j < M →
    Z6L N (kr (-1)) kr M a (a.length : Int) (j : Int) = kr (go impl_expOk_1.g (a.drop j) j) := by
  intro M
  induction M with
  | zero => intro j _ h; omega
  | succ M ih =>
    intro j hj hM
    simp only [Z6L, Z7]
    by_cases h : j < a.length
    · rw [ct (dt (by omega)), ct (inB_nat h), Int.toNat_natCast, w64_succ (by omega), ih (j + 1) h (by omega), drop_getD 0 h, go]
      cases e : impl_expOk_1.g (a.getD j 0)
      · rw [cf rfl, if_neg (by simp)]
      · rw [ct rfl, if_pos rfl]
    · rw [cf (df (by omega)), List.drop_of_length_le (by omega), go]
theorem ok : Spec := fun a _ ha => ⟨a.length + 1, fun N hN => by
  simp only [Z1, Z4, Z7, Z6, Z5, Z3, Z8, Z2, Z0]
  exact (loop N (fun t => some ((), (t, ()))) a ha.1 N 0 (by omega) (by omega)).trans rfl⟩
theorem go_pos (p : Int → Bool) : ∀ (l : List Int) (j : Nat), 0 ≤ go p l j ↔ ∃ x ∈ l, p x = true
  | [], j => by simp [go]
  | x :: xs, j => by
    rw [go]
    by_cases h : p x = true
    · rw [if_pos h]; simp [h]
    · rw [if_neg h, go_pos p xs]; simp [h]

end slices_IndexFunc_int_int_expOk
end
end Go.Fw
set_option linter.unusedVariables false
set_option linter.unusedSimpArgs false
set_option maxRecDepth 100000
namespace Go.Fw
noncomputable section
namespace slices_ContainsFunc_int_int_expOk
def g (s : List Int) (_ : Unit) : Bool := s.any impl_expOk_1.g
end slices_ContainsFunc_int_int_expOk
namespace slices_ContainsFunc_int_int_expOk
def Z0 {ρ : Type} (N : Nat) (s0 : List Int) (f1 : Unit) (kr : Bool → Option ρ) : Option ρ :=
 kr (lk N (decide (0 ≤ (slices_IndexFunc_int_int_expOk.g s0 ()))))
def Spec : Prop := ∀  (s0 : List Int) (f1 : Unit), Ty.bd (.sl 0 (.int .i64)) s0 → ∃ N0, ∀ N, N0 ≤ N → Z0 N s0 f1 (fun t4 => some ((), (t4, ()))) = some ((), ((g s0 f1), ()))

theorem ok : Spec := fun a _ ha => ⟨0, fun N hN => by
  simp only [Z0, lk_eq, g]
  have := (show 0 ≤ slices_IndexFunc_int_int_expOk.g a () ↔ ∃ x ∈ a, impl_expOk_1.g x = true from slices_IndexFunc_int_int_expOk.go_pos impl_expOk_1.g a 0)
  cases e : a.any impl_expOk_1.g
  · rw [df (fun h => by have := this.1 h; rw [← List.any_eq_true, e] at this; cases this)]
  · rw [dt (this.2 (List.any_eq_true.1 e))]⟩

end slices_ContainsFunc_int_int_expOk
end
end Go.Fw
set_option linter.unusedVariables false
set_option linter.unusedSimpArgs false
set_option maxRecDepth 100000
namespace Go.Fw
noncomputable section
namespace impl_expOk
def g (exp : List Int) (vars : Int) : Bool := expK vars exp
end impl_expOk
namespace impl_expOk
def Z0 {ρ : Type} (N : Nat) (exp0 : List Int) (vars1 : Int) (kr : Bool → Option ρ) : Option ρ :=
 cond (lk N (decide ((exp0.length : Int) = vars1)))
 (
  kr (!(lk N ((slices_ContainsFunc_int_int_expOk.g exp0 ())))))
 (
  kr false)
def Spec : Prop := ∀  (exp0 : List Int) (vars1 : Int), Ty.bd (.sl 0 (.int .i64)) exp0 → ∃ N0, ∀ N, N0 ≤ N → Z0 N exp0 vars1 (fun t4 => some ((), (t4, ()))) = some ((), ((g exp0 vars1), ()))

theorem ok : Spec := fun exp vars hb => ⟨0, fun N hN => by
  simp only [Z0, lk_eq, g, slices_ContainsFunc_int_int_expOk.g, expK]
  by_cases h : (exp.length : Int) = vars
  · simp only [dt h, cond_true, Bool.true_and, List.not_any_eq_all_not]
    simp [impl_expOk_1.g]
  · simp only [df h, cond_false, Bool.false_and]⟩

end impl_expOk
end
end Go.Fw
set_option linter.unusedVariables false
set_option linter.unusedSimpArgs false
set_option maxRecDepth 100000
namespace Go.Fw
noncomputable section
namespace slices_Clone_int_int
def P (a : List Int) : Bool := decide (a.length < 1099511627776)
abbrev g (a : List Int) : List Int := a
end slices_Clone_int_int
namespace slices_Clone_int_int
def Z0 {ρ : Type} (N : Nat) (s0 : List Int) (kr : List Int → Option ρ) : Option ρ :=
 cond (lk N (decide (0 < s0.length)))
 (
  cond (lk N (Nat.blt (([] : List Int).length + s0.length) 1099511627776)) (
   kr (([] : List Int) ++ s0)) none)
 (
  both (
   kr ([] : List Int))
  (
   cond (lk N (Nat.blt (([] : List Int).length + s0.length) 1099511627776)) (
    kr (([] : List Int) ++ s0)) none))
def Spec : Prop := ∀  (s0 : List Int), Ty.bd (.sl 0 (.int .i64)) s0 → P s0 = true → ∃ N0, ∀ N, N0 ≤ N → Z0 N s0 (fun t2 => some ((), (t2, ()))) = some ((), ((g s0), ()))

theorem ok : Spec := fun a hb hp => ⟨0, fun N hN => by
  have hl : a.length < 1099511627776 := by simpa [P] using hp
  have hc : Nat.blt (([] : List Int).length + a.length) 1099511627776 = true := by simpa using hl
  simp only [Z0, lk_eq, g, hc, cond_true, List.nil_append]
  by_cases h : 0 < a.length
  · simp [h]
  · have : a = [] := List.eq_nil_of_length_eq_zero (by omega)
    subst this
    simp [both_self]⟩

end slices_Clone_int_int
end
end Go.Fw
set_option linter.unusedVariables false
set_option linter.unusedSimpArgs false
set_option maxRecDepth 100000
namespace Go.Fw
noncomputable section
namespace impl_MonomialLaurent
def g (exp : List Int) : Int × List (List Int × Int) := if (inK exp.length 1 8 && exp.all fun x => inK x (-20) 20) = true then (exp.length, [(exp, 1)]) else (0, [])
end impl_MonomialLaurent
namespace impl_MonomialLaurent
def Z0 {ρ : Type} (N : Nat) (exp0 : List Int) (kr : (List (List Int × Int)) → Int → Option ρ) : Option ρ :=
 cond (!(lk N ((impl_within.g (exp0.length : Int) 1 8))))
 (
  kr ([] : List (List Int × Int)) 0)
 (
  cond (!(lk N ((impl_expOk.g exp0 (exp0.length : Int)))))
  (
   kr ([] : List (List Int × Int)) 0)
  (
   cond (lk N (slices_Clone_int_int.P exp0)) (
    kr ([((slices_Clone_int_int.g exp0), 1)]) (exp0.length : Int)) none))
def Spec : Prop := ∀  (exp0 : List Int), Ty.bd (.sl 0 (.int .i64)) exp0 → ∃ N0, ∀ N, N0 ≤ N → Z0 N exp0 (fun t2_1 t2_0 => some ((), ((t2_0, t2_1), ()))) = some ((), ((g exp0), ()))

theorem ok : Spec := fun exp hb => ⟨0, fun N hN => by
  simp only [Z0, lk_eq, g, impl_within.g, impl_expOk.g, expK, dt (rfl : (exp.length : Int) = exp.length), Bool.true_and]
  cases h1 : inK exp.length 1 8
  · simp
  · cases h2 : exp.all fun x => inK x (-20) 20
    · simp
    · have : slices_Clone_int_int.P exp = true := by
        simp only [inK, Bool.and_eq_true, decide_eq_true_eq] at h1
        simp only [slices_Clone_int_int.P, decide_eq_true_eq]
        omega
      simp [this, slices_Clone_int_int.g]⟩

end impl_MonomialLaurent
end
end Go.Fw
set_option linter.unusedVariables false
set_option linter.unusedSimpArgs false
set_option maxRecDepth 100000
namespace Go.Fw
noncomputable section
namespace laws_eqIntS
def g (a b : List Int) : Bool := decide (a = b)
end laws_eqIntS
namespace laws_eqIntS
def Z1 {ρ : Type} (N : Nat) (a0 : List Int) (b1 : List Int) (kn : List Int → List Int → Option ρ) : Option ρ :=
 kn a0 b1
def Z3 {ρ : Type} (N : Nat) (a0 : List Int) (b1 : List Int) (kn : List Int → List Int → Option ρ) (kr : Bool → Option ρ) : Option ρ :=
 cond (lk N (!(decide ((a0.length : Int) = (b1.length : Int)))))
 (
  kr false)
 (
  kn a0 b1)
def Z6 {ρ : Type} (N : Nat) (a0 : List Int) (b1 : List Int) (kn : List Int → List Int → Int → Option ρ) : Option ρ :=
 kn a0 b1 0
def Z9 {ρ : Type} (N : Nat) (a0 : List Int) (b1 : List Int) (i5 : Int) (kn : List Int → List Int → Int → Option ρ) (k0 : Option ρ) (kr : Bool → Option ρ) : Option ρ :=
 cond (lk N (decide (i5 < (a0.length : Int))))
 (
  cond (lk N (inB i5 a0.length)) (
   cond (lk N (inB i5 b1.length)) (
    cond (lk N (!(decide ((a0.getD i5.toNat 0) = (b1.getD i5.toNat 0)))))
    (
     kr false)
    (
     kn a0 b1 (w64 (i5 + 1)))) none) none)
 (
  k0)
def Z8L {ρ : Type} (N : Nat) (k0 : Option ρ) (kr : Bool → Option ρ) : Nat → List Int → List Int → Int → Option ρ
  | 0, _, _, _ => none
  | M + 1, a0, b1, i5 => Z9 N a0 b1 i5 (fun a0 b1 i5 => Z8L N k0 kr M a0 b1 i5) k0 kr
def Z8 {ρ : Type} (N : Nat) (a0 : List Int) (b1 : List Int) (i5 : Int) (k0 : Option ρ) (kr : Bool → Option ρ) : Option ρ := Z8L N k0 kr N a0 b1 i5
def Z7 {ρ : Type} (N : Nat) (a0 : List Int) (b1 : List Int) (i5 : Int) (kn : Option ρ) (kr : Bool → Option ρ) : Option ρ := Z8 N a0 b1 i5 kn kr
def Z5 {ρ : Type} (N : Nat) (a0 : List Int) (b1 : List Int) (kn : Option ρ) (kr : Bool → Option ρ) : Option ρ := Z6 N a0 b1 (fun a0 b1 i5 => Z7 N a0 b1 i5 kn kr)
def Z10 {ρ : Type} (N : Nat)  (kr : Bool → Option ρ) : Option ρ :=
 kr true
def Z4 {ρ : Type} (N : Nat) (a0 : List Int) (b1 : List Int) (kr : Bool → Option ρ) : Option ρ := Z5 N a0 b1 (Z10 N kr) kr
def Z2 {ρ : Type} (N : Nat) (a0 : List Int) (b1 : List Int) (kr : Bool → Option ρ) : Option ρ := Z3 N a0 b1 (fun a0 b1 => Z4 N a0 b1 kr) kr
def Z0 {ρ : Type} (N : Nat) (a0 : List Int) (b1 : List Int) (kr : Bool → Option ρ) : Option ρ := Z1 N a0 b1 (fun a0 b1 => Z2 N a0 b1 kr)
def Spec : Prop := ∀  (a0 : List Int) (b1 : List Int), Ty.bd (.sl 0 (.int .i64)) a0 → Ty.bd (.sl 0 (.int .i64)) b1 → ∃ N0, ∀ N, N0 ≤ N → Z0 N a0 b1 (fun t4 => some ((), (t4, ()))) = some ((), ((g a0 b1), ()))

theorem loop {ρ : Type} (N : Nat) (k0 : Option ρ) (kr : Bool → Option ρ) (a b : List Int) (hl : a.length = b.length) (ha : a.length ≤ maxLen) : ∀ (M j : Nat), j ≤ a.length → a.length - j < M →
    Z8L N k0 kr M a b (j : Int) = if a.drop j = b.drop j then k0 else kr false := by
  intro M
  induction M with
  | zero => intro j _ h; omega
  | succ M ih =>
    intro j hj hM
    simp only [Z8L, Z9]
    by_cases h : j < a.length
    · rw [ct (dt (by omega)), ct (inB_nat h), ct (inB_nat (by omega)), Int.toNat_natCast, w64_succ (by omega), ih (j + 1) h (by omega), drop_getD 0 h, drop_getD (l := b) (j := j) 0 (by omega)]
      by_cases e : a.getD j 0 = b.getD j 0
      · rw [cf (nf e), e]
        simp only [List.cons.injEq, true_and]
      · rw [ct (nt e), if_neg (by simp only [List.cons.injEq]; exact fun h => e h.1)]
    · rw [cf (df (by omega)), if_pos (by rw [List.drop_of_length_le (by omega), List.drop_of_length_le (by omega)])]
theorem ok : Spec := fun a b ha hb => ⟨a.length + 1, fun N hN => by
  simp only [Z1, Z3, Z6, Z9, Z8, Z7, Z5, Z10, Z4, Z2, Z0]
  by_cases hl : a.length = b.length
  · rw [cf (nf (by omega))]
    rw [show (0 : Int) = ((0 : Nat) : Int) from rfl, loop _ _ _ a b hl ha.1 N 0 (by omega) (by omega)]
    by_cases e : a = b <;> simp [e, g]
  · rw [ct (nt (by omega))]
    have : a ≠ b := fun e => hl (by rw [e])
    simp [g, this]⟩

end laws_eqIntS
end
end Go.Fw
set_option linter.unusedVariables false
set_option linter.unusedSimpArgs false
set_option maxRecDepth 100000
namespace Go.Fw
noncomputable section
namespace laws_eqTerm
def g (a b : List Int × Int) : Bool := decide (a = b)
end laws_eqTerm
namespace laws_eqTerm
def Z0 {ρ : Type} (N : Nat) (a0 : List Int × Int) (b1 : List Int × Int) (kr : Bool → Option ρ) : Option ρ :=
 cond (!(lk N ((laws_eqIntS.g a0.1 b1.1))))
 (
  kr false)
 (
  cond (lk N (!(decide (a0.2 = b1.2))))
  (
   kr false)
  (
   kr true))
def Spec : Prop := ∀  (a0 : List Int × Int) (b1 : List Int × Int), Ty.bd (.pair (.sl 0 (.int .i64)) (.int .i64)) a0 → Ty.bd (.pair (.sl 0 (.int .i64)) (.int .i64)) b1 → ∃ N0, ∀ N, N0 ≤ N → Z0 N a0 b1 (fun t4 => some ((), (t4, ()))) = some ((), ((g a0 b1), ()))

theorem ok : Spec := fun a b ha hb => ⟨0, fun N hN => by
  obtain ⟨a1, a2⟩ := a
  obtain ⟨b1, b2⟩ := b
  simp only [Z0, lk_eq, g, laws_eqIntS.g, Prod.mk.injEq]
  by_cases h1 : a1 = b1 <;> by_cases h2 : a2 = b2 <;> simp [h1, h2]⟩

end laws_eqTerm
end
end Go.Fw
set_option linter.unusedVariables false
set_option linter.unusedSimpArgs false
set_option maxRecDepth 100000
namespace Go.Fw
noncomputable section
namespace laws_eqTermS
def g (a b : List (List Int × Int)) : Bool := decide (a = b)
end laws_eqTermS
namespace laws_eqTermS
def Z1 {ρ : Type} (N : Nat) (a0 : List (List Int × Int)) (b1 : List (List Int × Int)) (kn : (List (List Int × Int)) → (List (List Int × Int)) → Option ρ) : Option ρ :=
 kn a0 b1
def Z3 {ρ : Type} (N : Nat) (a0 : List (List Int × Int)) (b1 : List (List Int × Int)) (kn : (List (List Int × Int)) → (List (List Int × Int)) → Option ρ) (kr : Bool → Option ρ) : Option ρ :=
 cond (lk N (!(decide ((a0.length : Int) = (b1.length : Int)))))
 (
  kr false)
 (
  kn a0 b1)
def Z6 {ρ : Type} (N : Nat) (a0 : List (List Int × Int)) (b1 : List (List Int × Int)) (kn : (List (List Int × Int)) → (List (List Int × Int)) → Int → Option ρ) : Option ρ :=
 kn a0 b1 0
def Z9 {ρ : Type} (N : Nat) (a0 : List (List Int × Int)) (b1 : List (List Int × Int)) (i5 : Int) (kn : (List (List Int × Int)) → (List (List Int × Int)) → Int → Option ρ) (k0 : Option ρ) (kr : Bool → Option ρ) : Option ρ :=
 cond (lk N (decide (i5 < (a0.length : Int))))
 (
  cond (lk N (inB i5 a0.length)) (
   cond (lk N (inB i5 b1.length)) (
    cond (!(lk N ((laws_eqTerm.g (a0.getD i5.toNat ([], 0)) (b1.getD i5.toNat ([], 0))))))
    (
     kr false)
    (
     kn a0 b1 (w64 (i5 + 1)))) none) none)
 (
  k0)
def Z8L {ρ : Type} (N : Nat) (k0 : Option ρ) (kr : Bool → Option ρ) : Nat → (List (List Int × Int)) → (List (List Int × Int)) → Int → Option ρ
  | 0, _, _, _ => none
  | M + 1, a0, b1, i5 => Z9 N a0 b1 i5 (fun a0 b1 i5 => Z8L N k0 kr M a0 b1 i5) k0 kr
def Z8 {ρ : Type} (N : Nat) (a0 : List (List Int × Int)) (b1 : List (List Int × Int)) (i5 : Int) (k0 : Option ρ) (kr : Bool → Option ρ) : Option ρ := Z8L N k0 kr N a0 b1 i5
def Z7 {ρ : Type} (N : Nat) (a0 : List (List Int × Int)) (b1 : List (List Int × Int)) (i5 : Int) (kn : Option ρ) (kr : Bool → Option ρ) : Option ρ := Z8 N a0 b1 i5 kn kr
def Z5 {ρ : Type} (N : Nat) (a0 : List (List Int × Int)) (b1 : List (List Int × Int)) (kn : Option ρ) (kr : Bool → Option ρ) : Option ρ := Z6 N a0 b1 (fun a0 b1 i5 => Z7 N a0 b1 i5 kn kr)
def Z10 {ρ : Type} (N : Nat)  (kr : Bool → Option ρ) : Option ρ :=
 kr true
def Z4 {ρ : Type} (N : Nat) (a0 : List (List Int × Int)) (b1 : List (List Int × Int)) (kr : Bool → Option ρ) : Option ρ := Z5 N a0 b1 (Z10 N kr) kr
def Z2 {ρ : Type} (N : Nat) (a0 : List (List Int × Int)) (b1 : List (List Int × Int)) (kr : Bool → Option ρ) : Option ρ := Z3 N a0 b1 (fun a0 b1 => Z4 N a0 b1 kr) kr
def Z0 {ρ : Type} (N : Nat) (a0 : List (List Int × Int)) (b1 : List (List Int × Int)) (kr : Bool → Option ρ) : Option ρ := Z1 N a0 b1 (fun a0 b1 => Z2 N a0 b1 kr)
def Spec : Prop := ∀  (a0 : List (List Int × Int)) (b1 : List (List Int × Int)), Ty.bd (.sl 0 (.pair (.sl 0 (.int .i64)) (.int .i64))) a0 → Ty.bd (.sl 0 (.pair (.sl 0 (.int .i64)) (.int .i64))) b1 → ∃ N0, ∀ N, N0 ≤ N → Z0 N a0 b1 (fun t4 => some ((), (t4, ()))) = some ((), ((g a0 b1), ()))

theorem loop {ρ : Type} (N : Nat) (k0 : Option ρ) (kr : Bool → Option ρ) (a b : List (List Int × Int)) (hl : a.length = b.length) (ha : a.length ≤ maxLen) : ∀ (M j : Nat), j ≤ a.length → a.length - j < M →
    Z8L N k0 kr M a b (j : Int) = if a.drop j = b.drop j then k0 else kr false := by
  intro M
  induction M with
  | zero => intro j _ h; omega
  | succ M ih =>
    intro j hj hM
    simp only [Z8L, Z9]
    by_cases h : j < a.length
    · rw [ct (dt (by omega)), ct (inB_nat h), ct (inB_nat (by omega)), Int.toNat_natCast, w64_succ (by omega), ih (j + 1) h (by omega), drop_getD ([], 0) h, drop_getD (l := b) (j := j) ([], 0) (by omega)]
      by_cases e : a.getD j ([], 0) = b.getD j ([], 0)
      · rw [cf' (by rw [lk_eq, laws_eqTerm.g, dt e]; rfl), e]
        simp only [List.cons.injEq, true_and]
      · rw [ct' (by rw [lk_eq, laws_eqTerm.g, df e]; rfl), if_neg (by simp only [List.cons.injEq]; exact fun h => e h.1)]
    · rw [cf (df (by omega)), if_pos (by rw [List.drop_of_length_le (by omega), List.drop_of_length_le (by omega)])]
theorem ok : Spec := fun a b ha hb => ⟨a.length + 1, fun N hN => by
  simp only [Z1, Z3, Z6, Z9, Z8, Z7, Z5, Z10, Z4, Z2, Z0]
  by_cases hl : a.length = b.length
  · rw [cf (nf (by omega))]
    rw [show (0 : Int) = ((0 : Nat) : Int) from rfl, loop _ _ _ a b hl ha.1 N 0 (by omega) (by omega)]
    by_cases e : a = b <;> simp [e, g]
  · rw [ct (nt (by omega))]
    have : a ≠ b := fun e => hl (by rw [e])
    simp [g, this]⟩

end laws_eqTermS
end
end Go.Fw
set_option linter.unusedVariables false
set_option linter.unusedSimpArgs false
set_option maxRecDepth 100000
namespace Go.Fw
noncomputable section
namespace laws_eqLaurent
def g (a b : Int × List (List Int × Int)) : Bool := decide (a = b)
end laws_eqLaurent
namespace laws_eqLaurent
def Z0 {ρ : Type} (N : Nat) (a0 : Int × List (List Int × Int)) (b1 : Int × List (List Int × Int)) (kr : Bool → Option ρ) : Option ρ :=
 cond (lk N (!(decide (a0.1 = b1.1))))
 (
  kr false)
 (
  cond (!(lk N ((laws_eqTermS.g a0.2 b1.2))))
  (
   kr false)
  (
   kr true))
def Spec : Prop := ∀  (a0 : Int × List (List Int × Int)) (b1 : Int × List (List Int × Int)), Ty.bd (.pair (.int .i64) (.sl 0 (.pair (.sl 0 (.int .i64)) (.int .i64)))) a0 → Ty.bd (.pair (.int .i64) (.sl 0 (.pair (.sl 0 (.int .i64)) (.int .i64)))) b1 → ∃ N0, ∀ N, N0 ≤ N → Z0 N a0 b1 (fun t4 => some ((), (t4, ()))) = some ((), ((g a0 b1), ()))

theorem ok : Spec := fun a b ha hb => ⟨0, fun N hN => by
  obtain ⟨a1, a2⟩ := a
  obtain ⟨b1, b2⟩ := b
  simp only [Z0, lk_eq, g, laws_eqTermS.g, Prod.mk.injEq]
  by_cases h1 : a1 = b1 <;> by_cases h2 : a2 = b2 <;> simp [h1, h2]⟩

end laws_eqLaurent
end
end Go.Fw
set_option linter.unusedVariables false
set_option linter.unusedSimpArgs false
set_option maxRecDepth 100000
namespace Go.Fw
noncomputable section
namespace laws_FnExactMonomialLaurent
def g (_ : List Int) : Bool := true
end laws_FnExactMonomialLaurent
namespace laws_FnExactMonomialLaurent
def Z0 {ρ : Type} (N : Nat) (aExp0 : List Int) (kr : Bool → Option ρ) : Option ρ :=
 cond (lk N (decide (1048576 < (aExp0.length : Int))))
 (
  kr true)
 (
  cond (lk N (laws_toIntS.P aExp0)) (
   cond (lk N (spec_MonomialLaurent.P (laws_toIntS.g aExp0))) (
    cond (lk N (laws_toIntS.P aExp0)) (
     cond (!(lk N ((laws_eqLaurent.g (impl_MonomialLaurent.g (laws_toIntS.g aExp0)) (spec_MonomialLaurent.g (laws_toIntS.g aExp0))))))
     (
      kr false)
     (
      cond (lk N (laws_toIntS.P aExp0)) (
       cond (!(lk N ((laws_eqIntS.g (laws_toIntS.g aExp0) (laws_toIntS.g aExp0)))))
       (
        kr false)
       (
        cond (lk N (decide ((laws_markIntS.g (laws_toIntS.g aExp0) 1).2 < 0)))
        (
         kr false)
        (
         cond (!(lk N ((laws_eqLaurent.g (impl_MonomialLaurent.g (laws_toIntS.g aExp0)) (spec_MonomialLaurent.g (laws_toIntS.g aExp0))))))
         (
          kr false)
         (
          cond (lk N (decide ((laws_heldLaurent.g ((impl_MonomialLaurent.g (laws_toIntS.g aExp0)).1, (laws_markLaurent.g (impl_MonomialLaurent.g (laws_toIntS.g aExp0)) 1).1.2) 1) < 0)))
          (
           kr false)
          (
           cond (lk N (!(decide ((laws_heldLaurent.g ((impl_MonomialLaurent.g (laws_toIntS.g aExp0)).1, (laws_markLaurent.g (impl_MonomialLaurent.g (laws_toIntS.g aExp0)) 1).1.2) 1) = (laws_markLaurent.g (impl_MonomialLaurent.g (laws_toIntS.g aExp0)) 1).2))))
           (
            kr false)
           (
            cond (lk N (laws_toIntS.P aExp0)) (
             cond (!(lk N ((laws_eqLaurent.g (impl_MonomialLaurent.g (laws_toIntS.g aExp0)) (spec_MonomialLaurent.g (laws_toIntS.g aExp0))))))
             (
              kr false)
             (
              cond (lk N (decide ((laws_heldLaurent.g ((impl_MonomialLaurent.g (laws_toIntS.g aExp0)).1, (laws_markLaurent.g (impl_MonomialLaurent.g (laws_toIntS.g aExp0)) 1).1.2) 1) < 0)))
              (
               kr false)
              (
               cond (lk N (!(decide ((laws_heldLaurent.g ((impl_MonomialLaurent.g (laws_toIntS.g aExp0)).1, (laws_markLaurent.g (impl_MonomialLaurent.g (laws_toIntS.g aExp0)) 1).1.2) 1) = (laws_markLaurent.g (impl_MonomialLaurent.g (laws_toIntS.g aExp0)) 1).2))))
               (
                kr false)
               (
                kr true)))) none)))))) none)) none) none) none)
def Spec : Prop := ∀  (aExp0 : List Int), Ty.bd (.sl 0 (.int .i64)) aExp0 → ∃ N0, ∀ N, N0 ≤ N → Z0 N aExp0 (fun t2 => some ((), (t2, ()))) = some ((), ((g aExp0), ()))

theorem ok : Spec := fun a hb => ⟨0, fun N hN => by
  by_cases hl : (1048576 : Int) < a.length
  · simp only [Z0]
    rw [ct (dt hl)]
    rfl
  have hP : laws_toIntS.P a = true := toInt_P a (by omega)
  have hP2 : spec_MonomialLaurent.P a = true := by
    unfold spec_MonomialLaurent.P spec_l1Ints.P
    exact dt (by omega)
  have he : impl_MonomialLaurent.g a = spec_MonomialLaurent.g a := rfl
  have hs : szT (spec_MonomialLaurent.g a).2 < 4611686018427387904 := by
    unfold spec_MonomialLaurent.g
    split
    · simp only [szT]; omega
    · simp [szT]
  have hm : ¬ (laws_markIntS.g a 1).2 < 0 := by
    have := laws_markIntS.mk_end a 1 (by omega) (by omega)
    show ¬ (laws_markIntS.mk a 1).2 < 0
    omega
  obtain ⟨h1, h2⟩ := lau_mark _ hs
  simp only [Z0, lk_eq, laws_toIntS.g, hP, hP2, he, laws_eqLaurent.g, laws_eqIntS.g, h1, df hl, df hm, dt (rfl : spec_MonomialLaurent.g a = _), dt (rfl : a = _), df (show ¬ (laws_markLaurent.g (spec_MonomialLaurent.g a) 1).2 < 0 by omega), dt (rfl : (laws_markLaurent.g (spec_MonomialLaurent.g a) 1).2 = _)]
  rfl⟩

end laws_FnExactMonomialLaurent
end
end Go.Fw
