/- The plain part: what the functions compute, in lists and numbers. Nothing is assumed. -/
import Derived.Test.YtojjkghallginaaFwb
/-! Common words of the plain part. -/
set_option linter.unusedVariables false
namespace Go.Fw
/-- The lexicographic order. -/
def lexLt : List Int → List Int → Bool
  | [], [] => false
  | [], _ :: _ => true
  | _ :: _, [] => false
  | x :: xs, y :: ys => if x = y then lexLt xs ys else decide (x < y)
def lexCmp : List Int → List Int → Int
  | [], [] => 0
  | [], _ :: _ => -1
  | _ :: _, [] => 1
  | x :: xs, y :: ys => if x = y then lexCmp xs ys else if x < y then -1 else 1
theorem lexCmp_le : ∀ a b : List Int, decide (lexCmp a b ≤ 0) = !(lexLt b a)
  | [], [] => rfl
  | [], _ :: _ => rfl
  | _ :: _, [] => rfl
  | x :: xs, y :: ys => by
    rw [lexCmp, lexLt]
    by_cases h : x = y
    · rw [if_pos h, if_pos h.symm, lexCmp_le xs ys]
    · rw [if_neg h, if_neg (show ¬ y = x from fun e => h e.symm)]
      by_cases h2 : x < y
      · rw [if_pos h2, df (show ¬ y < x by omega)]; rfl
      · rw [if_neg h2, dt (show y < x by omega)]; rfl
theorem lexCmp_lt : ∀ a b : List Int, decide (lexCmp a b < 0) = lexLt a b
  | [], [] => rfl
  | [], _ :: _ => rfl
  | _ :: _, [] => rfl
  | x :: xs, y :: ys => by
    rw [lexCmp, lexLt]
    by_cases h : x = y
    · rw [if_pos h, if_pos h, lexCmp_lt xs ys]
    · rw [if_neg h, if_neg h]
      by_cases h2 : x < y
      · rw [if_pos h2, dt h2]; rfl
      · rw [if_neg h2, df h2]; rfl
def inK (n lo hi : Int) : Bool := decide (lo ≤ n) && decide (n ≤ hi)
def expK (vars : Int) (e : List Int) : Bool := decide ((e.length : Int) = vars) && e.all fun x => inK x (-20) 20
def coefK (c : Int) : Bool := !(decide (c = 0)) && inK c (-1000000) 1000000
def prevE (l : List (List Int × Int)) : Nat → Option (List Int)
  | 0 => none
  | j + 1 => some (l.getD j ([], 0)).1
def belowK : Option (List Int) → List Int → Bool
  | none, _ => true
  | some p, e => lexLt e p
def termsK (vars : Int) : List (List Int × Int) → Option (List Int) → Bool
  | [], _ => true
  | t :: ts, p => expK vars t.1 && (coefK t.2 && (belowK p t.1 && termsK vars ts (some t.1)))
/-- Is a sum right? -/
def lokK (f : Int × List (List Int × Int)) : Bool := inK f.1 1 8 && (decide (f.2.length ≤ 600) && termsK f.1 f.2 none)
end Go.Fw
namespace Go.Fw
/-- A list that is being rewritten: the first j places have their new values. -/
def upto {α : Type} (n j : Nat) (F G : Nat → α) : List α := (List.range n).map fun i => if i < j then F i else G i
section
variable {α : Type} {n j : Nat} {F G : Nat → α}
theorem upto_len : (upto n j F G).length = n := by simp [upto]
theorem map_getD {i : Nat} (h : i < n) (d : α) : ((List.range n).map F).getD i d = F i := by
  rw [List.getD_eq_getElem?_getD, List.getElem?_map, List.getElem?_range h]
  rfl
theorem upto_get {i : Nat} (h : i < n) (d : α) : (upto n j F G).getD i d = if i < j then F i else G i := map_getD h d
theorem upto_set (h : j < n) : (upto n j F G).set j (F j) = upto n (j + 1) F G := by
  apply List.ext_getElem?
  intro i
  by_cases hi : i < n
  · by_cases e : j = i
    · subst e
      rw [List.getElem?_set_self (by rw [upto_len]; exact h)]
      simp [upto, List.getElem?_map, List.getElem?_range h]
    · rw [List.getElem?_set_ne e]
      simp only [upto, List.getElem?_map, List.getElem?_range hi, Option.map_some]
      by_cases h1 : i < j
      · rw [if_pos h1, if_pos (by omega)]
      · rw [if_neg h1, if_neg (by omega)]
  · rw [List.getElem?_eq_none (by rw [List.length_set, upto_len]; omega), List.getElem?_eq_none (by rw [upto_len]; omega)]
theorem upto_zero : upto n 0 F G = (List.range n).map G := by simp [upto]
theorem upto_full : upto n n F G = (List.range n).map F := by
  unfold upto
  apply List.map_congr_left
  intro i hi
  rw [if_pos (List.mem_range.1 hi)]
theorem list_map {l : List α} (d : α) (h : l.length = n) : (List.range n).map (fun i => l.getD i d) = l := by
  apply List.ext_getElem?
  intro i
  by_cases hi : i < n
  · rw [List.getElem?_map, List.getElem?_range hi, Option.map_some, List.getD_eq_getElem?_getD, List.getElem?_eq_getElem (by omega), Option.getD_some]
  · rw [List.getElem?_eq_none (by simp; omega), List.getElem?_eq_none (by omega)]
end
end Go.Fw
/-! Powers modulo 32003, and sums at a place. -/
set_option linter.unusedVariables false
namespace Go.Fw
def pmod (x : Int) (n : Nat) : Int := x ^ n % 32003
theorem pmod_range (x : Int) (n : Nat) : 0 ≤ pmod x n ∧ pmod x n < 32003 := by unfold pmod; omega
theorem emm (a b p : Int) : (a % p * b) % p = a * b % p := by rw [Int.mul_emod, Int.emod_emod_of_dvd a (Int.dvd_refl p), ← Int.mul_emod]
theorem emm' (a b p : Int) : (b * (a % p)) % p = b * a % p := by rw [Int.mul_comm, emm, Int.mul_comm]
theorem pow_emod (a p : Int) : ∀ k : Nat, (a % p) ^ k % p = a ^ k % p
  | 0 => by simp
  | k + 1 => by rw [Int.pow_succ, Int.pow_succ, emm', Int.mul_emod, pow_emod a p k, ← Int.mul_emod]
theorem sq_pow (x : Int) : ∀ k : Nat, (x * x) ^ k = x ^ (2 * k)
  | 0 => by simp
  | k + 1 => by rw [Int.pow_succ, sq_pow x k, show 2 * (k + 1) = 2 * k + 1 + 1 by omega, Int.pow_succ, Int.pow_succ, Int.mul_assoc]
theorem sq_odd (x out : Int) {n : Nat} (h : n % 2 = 1) : (out * x % 32003) * (x * x % 32003) ^ (n / 2) % 32003 = out * x ^ n % 32003 := by
  rw [emm, Int.mul_emod, pow_emod, ← Int.mul_emod, sq_pow]
  have e : n = 2 * (n / 2) + 1 := by omega
  conv => rhs; rw [e, Int.pow_succ]
  rw [Int.mul_assoc, Int.mul_comm x]
theorem sq_even (x out : Int) {n : Nat} (h : ¬ n % 2 = 1) : out * (x * x % 32003) ^ (n / 2) % 32003 = out * x ^ n % 32003 := by
  rw [Int.mul_emod, pow_emod, ← Int.mul_emod, sq_pow]
  have e : n = 2 * (n / 2) := by omega
  conv => rhs; rw [e]
theorem one_pow (x out : Int) (n : Nat) : (out * x % 32003) * x ^ n % 32003 = out * x ^ (n + 1) % 32003 := by
  rw [emm, Int.pow_succ, Int.mul_assoc, Int.mul_comm x]
theorem prod_range {a b : Int} (ha : 0 ≤ a ∧ a < 32003) (hb : 0 ≤ b ∧ b < 32003) : 0 ≤ a * b ∧ a * b ≤ 1024192009 := by
  refine ⟨Int.mul_nonneg ha.1 hb.1, ?_⟩
  have := Int.mul_le_mul (show a ≤ 32003 by omega) (show b ≤ 32003 by omega) hb.1 (show (0 : Int) ≤ 32003 by omega)
  omega
theorem tm {a : Int} (h : 0 ≤ a) (b : Int) : Int.tmod a b = a % b := Int.tmod_eq_emod_of_nonneg h
/-- A power as both programs have it. -/
def powK (x n : Int) : Int := if n < 0 then pmod (pmod x 32001) (-n).toNat else pmod x n.toNat
theorem powK_range (x n : Int) : 0 ≤ powK x n ∧ powK x n < 32003 := by
  unfold powK
  split <;> exact pmod_range _ _
def resK (n : Int) : Int := Int.tmod (w64 (Int.tmod n 32003 + 32003)) 32003
theorem resK_range (n : Int) : 0 ≤ resK n ∧ resK n < 32003 := by
  have h1 : -32003 < Int.tmod n 32003 ∧ Int.tmod n 32003 < 32003 := by
    have e1 := Int.lt_tmod_of_pos n (show (0 : Int) < 32003 by omega)
    have e2 := Int.tmod_lt_of_pos n (show (0 : Int) < 32003 by omega)
    omega
  unfold resK
  rw [w64_id (by omega) (by omega), tm (by omega)]
  omega
def monK (vs : List Int) : List Int → Nat → Int → Int
  | [], _, x => x
  | e :: es, i, x => monK vs es (i + 1) (x * powK (resK (vs.getD i 0)) e % 32003)
theorem monK_range (vs : List Int) : ∀ (es : List Int) (i : Nat) (x : Int), 0 ≤ x ∧ x < 32003 → 0 ≤ monK vs es i x ∧ monK vs es i x < 32003
  | [], _, x, h => h
  | e :: es, i, x, h => monK_range vs es (i + 1) _ (by omega)
def sumK (vs : List Int) : List (List Int × Int) → Int → Int
  | [], s => s
  | t :: ts, s => sumK vs ts ((s + monK vs t.1 0 (resK t.2)) % 32003)
def evalK (f : Int × List (List Int × Int)) (vs : List Int) : Int :=
  if (lokK f && (decide ((vs.length : Int) = f.1) && !(vs.any fun v => decide (resK v = 0)))) = true then sumK vs f.2 0 else -1
end Go.Fw
/-! Least exponents. -/
set_option linter.unusedVariables false
namespace Go.Fw
def minAt (l : List (List Int × Int)) (i : Nat) (m : Int) : Int := l.foldl (fun m t => mn m (t.1.getD i 0)) m
theorem minAt_snoc (l : List (List Int × Int)) (t : List Int × Int) (i : Nat) (m : Int) : minAt (l ++ [t]) i m = mn (minAt l i m) (t.1.getD i 0) := by
  simp [minAt, List.foldl_append]
theorem minAt_take (l : List (List Int × Int)) (i j : Nat) (m : Int) (h : j < l.length) : mn (minAt (l.take j) i m) ((l.getD j ([], 0)).1.getD i 0) = minAt (l.take (j + 1)) i m := by
  rw [← take_getD ([], 0) h, minAt_snoc]
theorem minAt_first (l : List (List Int × Int)) (i : Nat) (m : Int) (t : List Int × Int) (h : t.1.getD i 0 ≤ m) : minAt (t :: l) i m = minAt (t :: l) i (t.1.getD i 0) := by
  simp only [minAt, List.foldl_cons]
  rw [mn_eq, mn_eq]
  congr 1
  omega
theorem minAt_le (l : List (List Int × Int)) (i : Nat) : ∀ (m B : Int), -B ≤ m → m ≤ B → (∀ t ∈ l, -B ≤ t.1.getD i 0 ∧ t.1.getD i 0 ≤ B) → -B ≤ minAt l i m ∧ minAt l i m ≤ B := by
  induction l with
  | nil => intro m B h1 h2 _; exact ⟨h1, h2⟩
  | cons t l ih =>
    intro m B h1 h2 h
    have ht := h t List.mem_cons_self
    simp only [minAt, List.foldl_cons] at ih ⊢
    refine ih _ B ?_ ?_ fun t h' => h t (List.mem_cons_of_mem _ h')
    · rw [mn_eq]; omega
    · rw [mn_eq]; omega
/-- The denominator. -/
def denK (f : Int × List (List Int × Int)) : List Int := if (lokK f && decide (0 < f.2.length)) = true then (List.range f.1.toNat).map (fun i => -(minAt f.2 i 20)) else []
theorem termsK_mem {v : Int} : ∀ {l : List (List Int × Int)} {p : Option (List Int)}, termsK v l p = true → ∀ t ∈ l, expK v t.1 = true ∧ coefK t.2 = true
  | [], _, _, _, h => by cases h
  | x :: xs, p, h, t, ht => by
    simp only [termsK, Bool.and_eq_true] at h
    rcases List.mem_cons.1 ht with rfl | ht
    · exact ⟨h.1, h.2.1⟩
    · exact termsK_mem h.2.2.2 t ht
theorem lokK_mem {f : Int × List (List Int × Int)} (h : lokK f = true) : 1 ≤ f.1 ∧ f.1 ≤ 8 ∧ f.2.length ≤ 600 ∧ ∀ t ∈ f.2, (t.1.length : Int) = f.1 ∧ (∀ i, -20 ≤ t.1.getD i 0 ∧ t.1.getD i 0 ≤ 20) ∧ coefK t.2 = true := by
  simp only [lokK, inK, Bool.and_eq_true, decide_eq_true_eq] at h
  refine ⟨h.1.1, h.1.2, h.2.1, fun t ht => ?_⟩
  obtain ⟨h1, h2⟩ := termsK_mem h.2.2 t ht
  simp only [expK, Bool.and_eq_true, decide_eq_true_eq, List.all_eq_true, inK] at h1
  refine ⟨h1.1, fun i => ?_, h2⟩
  by_cases hi : i < t.1.length
  · exact h1.2 _ (getD_mem 0 hi)
  · rw [List.getD_eq_getElem?_getD, List.getElem?_eq_none (by omega)]
    simp
end Go.Fw
set_option linter.unusedVariables false
set_option linter.unusedSimpArgs false
set_option maxRecDepth 100000
namespace Go.Fw
noncomputable section
namespace laws_toIntS
def P (a : List Int) : Bool := decide (a.length < 1099511627776)
abbrev g (a : List Int) : List Int := a
end laws_toIntS
namespace laws_toIntS
def Z1 {ρ : Type} (N : Nat) (a0 : List Int) (kn : List Int → Option ρ) : Option ρ :=
 kn a0
def Z3 {ρ : Type} (N : Nat) (a0 : List Int) (kn : List Int → List Int → Option ρ) : Option ρ :=
 cond (lk N (leB 0 (a0.length : Int) && decide ((a0.length : Int) < 1099511627776))) (
  kn (List.replicate (a0.length : Int).toNat 0) a0) none
def Z6 {ρ : Type} (N : Nat) (out3 : List Int) (a0 : List Int) (kn : List Int → List Int → Int → Option ρ) : Option ρ :=
 kn out3 a0 0
def Z9 {ρ : Type} (N : Nat) (out3 : List Int) (a0 : List Int) (i4 : Int) (kn : List Int → List Int → Int → Option ρ) (k0 : List Int → Option ρ) : Option ρ :=
 cond (lk N (decide (i4 < (a0.length : Int))))
 (
  cond (lk N (inB i4 a0.length)) (
   cond (lk N (inB i4 out3.length)) (
    kn (out3.set i4.toNat (a0.getD i4.toNat 0)) a0 (w64 (i4 + 1))) none) none)
 (
  k0 out3)
def Z8L {ρ : Type} (N : Nat) (k0 : List Int → Option ρ) : Nat → List Int → List Int → Int → Option ρ
  | 0, _, _, _ => none
  | M + 1, out3, a0, i4 => Z9 N out3 a0 i4 (fun out3 a0 i4 => Z8L N k0 M out3 a0 i4) k0
def Z8 {ρ : Type} (N : Nat) (out3 : List Int) (a0 : List Int) (i4 : Int) (k0 : List Int → Option ρ) : Option ρ := Z8L N k0 N out3 a0 i4
def Z7 {ρ : Type} (N : Nat) (out3 : List Int) (a0 : List Int) (i4 : Int) (kn : List Int → Option ρ) : Option ρ := Z8 N out3 a0 i4 kn
def Z5 {ρ : Type} (N : Nat) (out3 : List Int) (a0 : List Int) (kn : List Int → Option ρ) : Option ρ := Z6 N out3 a0 (fun out3 a0 i4 => Z7 N out3 a0 i4 kn)
def Z10 {ρ : Type} (N : Nat) (out3 : List Int) (kr : List Int → Option ρ) : Option ρ :=
 kr out3
def Z4 {ρ : Type} (N : Nat) (out3 : List Int) (a0 : List Int) (kr : List Int → Option ρ) : Option ρ := Z5 N out3 a0 (fun out3 => Z10 N out3 kr)
def Z2 {ρ : Type} (N : Nat) (a0 : List Int) (kr : List Int → Option ρ) : Option ρ := Z3 N a0 (fun out3 a0 => Z4 N out3 a0 kr)
def Z0 {ρ : Type} (N : Nat) (a0 : List Int) (kr : List Int → Option ρ) : Option ρ := Z1 N a0 (fun a0 => Z2 N a0 kr)
def Spec : Prop := ∀  (a0 : List Int), Ty.bd (.sl 0 (.int .i64)) a0 → P a0 = true → ∃ N0, ∀ N, N0 ≤ N → Z0 N a0 (fun t2 => some ((), (t2, ()))) = some ((), ((g a0), ()))

theorem loop {ρ : Type} (N : Nat) (k0 : List Int → Option ρ) (a : List Int) (ha : a.length ≤ maxLen) : ∀ (M j : Nat) (out : List Int), out.length = a.length → out.take j = a.take j → j ≤ a.length → a.length - j < M →
    Z8L N k0 M out a (j : Int) = k0 a := by
  intro M
  induction M with
  | zero => intro j out _ _ _ h; omega
  | succ M ih =>
    intro j out ho ht hj hM
    simp only [Z8L, Z9]
    by_cases h : j < a.length
    · rw [ct (dt (by omega)), ct (inB_nat h), ct (inB_nat (by omega)), Int.toNat_natCast, w64_succ (by omega)]
      refine ih (j + 1) _ (by simpa using ho) ?_ h (by omega)
      rw [take_set_s (by omega), ht, take_getD 0 h]
    · rw [cf (df (by omega))]
      have : j = a.length := by omega
      subst this
      rw [List.take_of_length_le (by omega), List.take_length] at ht
      rw [ht]
theorem ok : Spec := fun a hb hp => ⟨a.length + 1, fun N hN => by
  have hl : a.length < 1099511627776 := by simpa [P] using hp
  simp only [Z1, Z3, Z6, Z9, Z8, Z7, Z5, Z10, Z4, Z2, Z0]
  rw [ct (by simp [leB]; omega)]
  exact loop _ _ a hb.1 _ 0 _ (by simp) (by simp) (by omega) (by omega)⟩

end laws_toIntS
end
end Go.Fw
/-! Small lists are copied. -/
set_option linter.unusedVariables false
namespace Go.Fw
theorem toInt_P (a : List Int) (h : (a.length : Int) ≤ 1048576) : laws_toIntS.P a = true := by
  unfold laws_toIntS.P
  exact dt (by omega)
end Go.Fw
set_option linter.unusedVariables false
set_option linter.unusedSimpArgs false
set_option maxRecDepth 100000
namespace Go.Fw
noncomputable section
namespace laws_szIntS
def g (a : List Int) (left : Int) : Int := if w64 (left - a.length) < 0 then -1 else w64 (left - a.length)
end laws_szIntS
namespace laws_szIntS
def Z0 {ρ : Type} (N : Nat) (a0 : List Int) (left1 : Int) (kr : Int → Option ρ) : Option ρ :=
 cond (lk N (decide ((w64 (left1 - (a0.length : Int))) < 0)))
 (
  kr (-1))
 (
  kr (w64 (left1 - (a0.length : Int))))
def Spec : Prop := ∀  (a0 : List Int) (left1 : Int), Ty.bd (.sl 0 (.int .i64)) a0 → ∃ N0, ∀ N, N0 ≤ N → Z0 N a0 left1 (fun t4 => some ((), (t4, ()))) = some ((), ((g a0 left1), ()))

theorem ok : Spec := fun a left ha => ⟨0, fun N hN => by
  simp only [Z0, g]
  by_cases h : w64 (left - a.length) < 0
  · rw [ct (dt h), if_pos h]
  · rw [cf (df h), if_neg h]⟩

end laws_szIntS
end
end Go.Fw
/-! What the measure of the arguments tells: numbers. -/
set_option linter.unusedVariables false
namespace Go.Fw
theorem szInt_le (a : List Int) (left : Int) (hb : a.length ≤ maxLen) (h0 : 0 ≤ left) (h1 : left ≤ 1048576) (h : ¬ laws_szIntS.g a left < 0) : (a.length : Int) ≤ left ∧ laws_szIntS.g a left = left - a.length := by
  have hw : w64 (left - a.length) = left - a.length := w64_id (by rw [maxLen_val] at hb; omega) (by omega)
  unfold laws_szIntS.g at h ⊢
  rw [hw] at h ⊢
  by_cases hl : left - (a.length : Int) < 0
  · rw [if_pos hl] at h; omega
  · rw [if_neg hl]; omega
end Go.Fw
set_option linter.unusedVariables false
set_option linter.unusedSimpArgs false
set_option maxRecDepth 100000
namespace Go.Fw
noncomputable section
namespace laws_szTerm
def g (a : List Int × Int) (left : Int) : Int := if laws_szIntS.g a.1 left < 0 then -1 else laws_szIntS.g a.1 left
end laws_szTerm
namespace laws_szTerm
def Z0 {ρ : Type} (N : Nat) (a0 : List Int × Int) (left1 : Int) (kr : Int → Option ρ) : Option ρ :=
 cond (lk N (decide ((laws_szIntS.g a0.1 left1) < 0)))
 (
  kr (-1))
 (
  kr (laws_szIntS.g a0.1 left1))
def Spec : Prop := ∀  (a0 : List Int × Int) (left1 : Int), Ty.bd (.pair (.sl 0 (.int .i64)) (.int .i64)) a0 → ∃ N0, ∀ N, N0 ≤ N → Z0 N a0 left1 (fun t4 => some ((), (t4, ()))) = some ((), ((g a0 left1), ()))

theorem ok : Spec := fun a left ha => ⟨0, fun N hN => by
  simp only [Z0, g]
  by_cases h : laws_szIntS.g a.1 left < 0
  · rw [ct (dt h), if_pos h]
  · rw [cf (df h), if_neg h]⟩

end laws_szTerm
end
end Go.Fw
set_option linter.unusedVariables false
set_option linter.unusedSimpArgs false
set_option maxRecDepth 100000
namespace Go.Fw
noncomputable section
namespace laws_szTermS
def sz : List (List Int × Int) → Int → Int
  | [], left => left
  | t :: ts, left => if laws_szTerm.g t left < 0 then -1 else sz ts (laws_szTerm.g t left)
def g (a : List (List Int × Int)) (left : Int) : Int := if w64 (left - a.length) < 0 then -1 else sz a (w64 (left - a.length))
end laws_szTermS
namespace laws_szTermS
def Z1 {ρ : Type} (N : Nat) (a0 : List (List Int × Int)) (left1 : Int) (kn : (List (List Int × Int)) → Int → Option ρ) : Option ρ :=
 kn a0 left1
def Z3 {ρ : Type} (N : Nat) (a0 : List (List Int × Int)) (left1 : Int) (kn : (List (List Int × Int)) → Int → Option ρ) : Option ρ :=
 kn a0 (w64 (left1 - (a0.length : Int)))
def Z5 {ρ : Type} (N : Nat) (a0 : List (List Int × Int)) (left1 : Int) (kn : (List (List Int × Int)) → Int → Option ρ) (kr : Int → Option ρ) : Option ρ :=
 cond (lk N (decide (left1 < 0)))
 (
  kr (-1))
 (
  kn a0 left1)
def Z8 {ρ : Type} (N : Nat) (a0 : List (List Int × Int)) (left1 : Int) (kn : (List (List Int × Int)) → Int → Int → Option ρ) : Option ρ :=
 kn a0 left1 0
def Z11 {ρ : Type} (N : Nat) (a0 : List (List Int × Int)) (left1 : Int) (i5 : Int) (kn : (List (List Int × Int)) → Int → Int → Option ρ) (k0 : Int → Option ρ) (kr : Int → Option ρ) : Option ρ :=
 cond (lk N (decide (i5 < (a0.length : Int))))
 (
  cond (lk N (inB i5 a0.length)) (
   cond (lk N (decide ((laws_szTerm.g (a0.getD i5.toNat ([], 0)) left1) < 0)))
   (
    kr (-1))
   (
    kn a0 (laws_szTerm.g (a0.getD i5.toNat ([], 0)) left1) (w64 (i5 + 1)))) none)
 (
  k0 left1)
def Z10L {ρ : Type} (N : Nat) (k0 : Int → Option ρ) (kr : Int → Option ρ) : Nat → (List (List Int × Int)) → Int → Int → Option ρ
  | 0, _, _, _ => none
  | M + 1, a0, left1, i5 => Z11 N a0 left1 i5 (fun a0 left1 i5 => Z10L N k0 kr M a0 left1 i5) k0 kr
def Z10 {ρ : Type} (N : Nat) (a0 : List (List Int × Int)) (left1 : Int) (i5 : Int) (k0 : Int → Option ρ) (kr : Int → Option ρ) : Option ρ := Z10L N k0 kr N a0 left1 i5
def Z9 {ρ : Type} (N : Nat) (a0 : List (List Int × Int)) (left1 : Int) (i5 : Int) (kn : Int → Option ρ) (kr : Int → Option ρ) : Option ρ := Z10 N a0 left1 i5 kn kr
def Z7 {ρ : Type} (N : Nat) (a0 : List (List Int × Int)) (left1 : Int) (kn : Int → Option ρ) (kr : Int → Option ρ) : Option ρ := Z8 N a0 left1 (fun a0 left1 i5 => Z9 N a0 left1 i5 kn kr)
def Z12 {ρ : Type} (N : Nat) (left1 : Int) (kr : Int → Option ρ) : Option ρ :=
 kr left1
def Z6 {ρ : Type} (N : Nat) (a0 : List (List Int × Int)) (left1 : Int) (kr : Int → Option ρ) : Option ρ := Z7 N a0 left1 (fun left1 => Z12 N left1 kr) kr
def Z4 {ρ : Type} (N : Nat) (a0 : List (List Int × Int)) (left1 : Int) (kr : Int → Option ρ) : Option ρ := Z5 N a0 left1 (fun a0 left1 => Z6 N a0 left1 kr) kr
def Z2 {ρ : Type} (N : Nat) (a0 : List (List Int × Int)) (left1 : Int) (kr : Int → Option ρ) : Option ρ := Z3 N a0 left1 (fun a0 left1 => Z4 N a0 left1 kr)
def Z0 {ρ : Type} (N : Nat) (a0 : List (List Int × Int)) (left1 : Int) (kr : Int → Option ρ) : Option ρ := Z1 N a0 left1 (fun a0 left1 => Z2 N a0 left1 kr)
def Spec : Prop := ∀  (a0 : List (List Int × Int)) (left1 : Int), Ty.bd (.sl 0 (.pair (.sl 0 (.int .i64)) (.int .i64))) a0 → ∃ N0, ∀ N, N0 ≤ N → Z0 N a0 left1 (fun t4 => some ((), (t4, ()))) = some ((), ((g a0 left1), ()))

theorem loop {ρ : Type} (N : Nat) (kr : Int → Option ρ) (a : List (List Int × Int)) (ha : a.length ≤ maxLen) : ∀ (M j : Nat) (k : Int), j ≤ a.length → a.length - j < M →
    Z10L N kr kr M a k (j : Int) = kr (sz (a.drop j) k) := by
  intro M
  induction M with
  | zero => intro j k _ h; omega
  | succ M ih =>
    intro j k hj hM
    simp only [Z10L, Z11]
    by_cases h : j < a.length
    · rw [ct (dt (by omega)), ct (inB_nat h), Int.toNat_natCast, w64_succ (by omega), ih (j + 1) _ h (by omega), drop_getD ([], 0) h]
      by_cases e : laws_szTerm.g (a.getD j ([], 0)) k < 0
      · rw [ct (dt e), sz, if_pos e]
      · rw [cf (df e), sz, if_neg e]
    · rw [cf (df (by omega)), List.drop_of_length_le (by omega), sz]
theorem ok : Spec := fun a left ha => ⟨a.length + 1, fun N hN => by
  simp only [Z1, Z3, Z5, Z8, Z11, Z10, Z9, Z7, Z12, Z6, Z4, Z2, Z0, g]
  by_cases h : w64 (left - a.length) < 0
  · rw [ct (dt h), if_pos h]
  · rw [cf (df h), if_neg h]
    rw [show (0 : Int) = ((0 : Nat) : Int) from rfl, loop _ _ a ha.1 N 0 _ (by omega) (by omega)]
    simp⟩

end laws_szTermS
end
end Go.Fw
set_option linter.unusedVariables false
set_option linter.unusedSimpArgs false
set_option maxRecDepth 100000
namespace Go.Fw
noncomputable section
namespace laws_szLaurent
def g (a : Int × List (List Int × Int)) (left : Int) : Int := if laws_szTermS.g a.2 left < 0 then -1 else laws_szTermS.g a.2 left
end laws_szLaurent
namespace laws_szLaurent
def Z0 {ρ : Type} (N : Nat) (a0 : Int × List (List Int × Int)) (left1 : Int) (kr : Int → Option ρ) : Option ρ :=
 cond (lk N (decide ((laws_szTermS.g a0.2 left1) < 0)))
 (
  kr (-1))
 (
  kr (laws_szTermS.g a0.2 left1))
def Spec : Prop := ∀  (a0 : Int × List (List Int × Int)) (left1 : Int), Ty.bd (.pair (.int .i64) (.sl 0 (.pair (.sl 0 (.int .i64)) (.int .i64)))) a0 → ∃ N0, ∀ N, N0 ≤ N → Z0 N a0 left1 (fun t4 => some ((), (t4, ()))) = some ((), ((g a0 left1), ()))

theorem ok : Spec := fun a left ha => ⟨0, fun N hN => by
  simp only [Z0, g]
  by_cases h : laws_szTermS.g a.2 left < 0
  · rw [ct (dt h), if_pos h]
  · rw [cf (df h), if_neg h]⟩

end laws_szLaurent
end
end Go.Fw
set_option linter.unusedVariables false
set_option linter.unusedSimpArgs false
set_option maxRecDepth 100000
namespace Go.Fw
noncomputable section
namespace laws_toTerm
def P (a : List Int × Int) : Bool := laws_toIntS.P a.1
abbrev g (a : List Int × Int) : List Int × Int := a
end laws_toTerm
namespace laws_toTerm
def Z0 {ρ : Type} (N : Nat) (a0 : List Int × Int) (kr : List Int → Int → Option ρ) : Option ρ :=
 cond (lk N (laws_toIntS.P a0.1)) (
  kr (laws_toIntS.g a0.1) a0.2) none
def Spec : Prop := ∀  (a0 : List Int × Int), Ty.bd (.pair (.sl 0 (.int .i64)) (.int .i64)) a0 → P a0 = true → ∃ N0, ∀ N, N0 ≤ N → Z0 N a0 (fun t2_0 t2_1 => some ((), ((t2_0, t2_1), ()))) = some ((), ((g a0), ()))

theorem ok : Spec := fun a hb hp => ⟨0, fun N hN => by
  simp only [Z0]
  exact ct (show laws_toIntS.P a.1 = true from hp)⟩

end laws_toTerm
end
end Go.Fw
set_option linter.unusedVariables false
set_option linter.unusedSimpArgs false
set_option maxRecDepth 100000
namespace Go.Fw
noncomputable section
namespace laws_toTermS
def P (a : List (List Int × Int)) : Bool := decide (a.length < 1099511627776) && a.all laws_toTerm.P
abbrev g (a : List (List Int × Int)) : List (List Int × Int) := a
end laws_toTermS
namespace laws_toTermS
def Z1 {ρ : Type} (N : Nat) (a0 : List (List Int × Int)) (kn : (List (List Int × Int)) → Option ρ) : Option ρ :=
 kn a0
def Z3 {ρ : Type} (N : Nat) (a0 : List (List Int × Int)) (kn : (List (List Int × Int)) → (List (List Int × Int)) → Option ρ) : Option ρ :=
 cond (lk N (leB 0 (a0.length : Int) && decide ((a0.length : Int) < 1099511627776))) (
  kn (List.replicate (a0.length : Int).toNat (([] : List Int), 0)) a0) none
def Z6 {ρ : Type} (N : Nat) (out3 : List (List Int × Int)) (a0 : List (List Int × Int)) (kn : (List (List Int × Int)) → (List (List Int × Int)) → Int → Option ρ) : Option ρ :=
 kn out3 a0 0
def Z9 {ρ : Type} (N : Nat) (out3 : List (List Int × Int)) (a0 : List (List Int × Int)) (i4 : Int) (kn : (List (List Int × Int)) → (List (List Int × Int)) → Int → Option ρ) (k0 : (List (List Int × Int)) → Option ρ) : Option ρ :=
 cond (lk N (decide (i4 < (a0.length : Int))))
 (
  cond (lk N (inB i4 a0.length)) (
   cond (lk N (laws_toTerm.P (a0.getD i4.toNat ([], 0)))) (
    cond (lk N (inB i4 out3.length)) (
     kn (out3.set i4.toNat (laws_toTerm.g (a0.getD i4.toNat ([], 0)))) a0 (w64 (i4 + 1))) none) none) none)
 (
  k0 out3)
def Z8L {ρ : Type} (N : Nat) (k0 : (List (List Int × Int)) → Option ρ) : Nat → (List (List Int × Int)) → (List (List Int × Int)) → Int → Option ρ
  | 0, _, _, _ => none
  | M + 1, out3, a0, i4 => Z9 N out3 a0 i4 (fun out3 a0 i4 => Z8L N k0 M out3 a0 i4) k0
def Z8 {ρ : Type} (N : Nat) (out3 : List (List Int × Int)) (a0 : List (List Int × Int)) (i4 : Int) (k0 : (List (List Int × Int)) → Option ρ) : Option ρ := Z8L N k0 N out3 a0 i4
def Z7 {ρ : Type} (N : Nat) (out3 : List (List Int × Int)) (a0 : List (List Int × Int)) (i4 : Int) (kn : (List (List Int × Int)) → Option ρ) : Option ρ := Z8 N out3 a0 i4 kn
def Z5 {ρ : Type} (N : Nat) (out3 : List (List Int × Int)) (a0 : List (List Int × Int)) (kn : (List (List Int × Int)) → Option ρ) : Option ρ := Z6 N out3 a0 (fun out3 a0 i4 => Z7 N out3 a0 i4 kn)
def Z10 {ρ : Type} (N : Nat) (out3 : List (List Int × Int)) (kr : (List (List Int × Int)) → Option ρ) : Option ρ :=
 kr out3
def Z4 {ρ : Type} (N : Nat) (out3 : List (List Int × Int)) (a0 : List (List Int × Int)) (kr : (List (List Int × Int)) → Option ρ) : Option ρ := Z5 N out3 a0 (fun out3 => Z10 N out3 kr)
def Z2 {ρ : Type} (N : Nat) (a0 : List (List Int × Int)) (kr : (List (List Int × Int)) → Option ρ) : Option ρ := Z3 N a0 (fun out3 a0 => Z4 N out3 a0 kr)
def Z0 {ρ : Type} (N : Nat) (a0 : List (List Int × Int)) (kr : (List (List Int × Int)) → Option ρ) : Option ρ := Z1 N a0 (fun a0 => Z2 N a0 kr)
def Spec : Prop := ∀  (a0 : List (List Int × Int)), Ty.bd (.sl 0 (.pair (.sl 0 (.int .i64)) (.int .i64))) a0 → P a0 = true → ∃ N0, ∀ N, N0 ≤ N → Z0 N a0 (fun t2 => some ((), (t2, ()))) = some ((), ((g a0), ()))

theorem loop {ρ : Type} (N : Nat) (k0 : List (List Int × Int) → Option ρ) (a : List (List Int × Int)) (ha : a.length ≤ maxLen) (hp : ∀ t ∈ a, laws_toTerm.P t = true) : ∀ (M j : Nat) (out : List (List Int × Int)), out.length = a.length → out.take j = a.take j → j ≤ a.length → a.length - j < M →
    Z8L N k0 M out a (j : Int) = k0 a := by
  intro M
  induction M with
  | zero => intro j out _ _ _ h; omega
  | succ M ih =>
    intro j out ho ht hj hM
    simp only [Z8L, Z9]
    by_cases h : j < a.length
    · rw [ct (dt (by omega)), ct (inB_nat h), Int.toNat_natCast, ct (hp _ (getD_mem _ h)), ct (inB_nat (by omega)), w64_succ (by omega)]
      refine ih (j + 1) _ (by simpa using ho) ?_ h (by omega)
      rw [take_set_s (by omega), ht]
      exact take_getD ([], 0) h
    · rw [cf (df (by omega))]
      have : j = a.length := by omega
      subst this
      rw [List.take_of_length_le (by omega), List.take_length] at ht
      rw [ht]
theorem ok : Spec := fun a hb hp => ⟨a.length + 1, fun N hN => by
  simp only [P, Bool.and_eq_true, decide_eq_true_eq, List.all_eq_true] at hp
  have hl := hp.1
  simp only [Z1, Z3, Z6, Z9, Z8, Z7, Z5, Z10, Z4, Z2, Z0]
  rw [ct (by simp [leB]; omega)]
  exact loop _ _ a hb.1 hp.2 _ 0 _ (by simp) (by simp) (by omega) (by omega)⟩

end laws_toTermS
end
end Go.Fw
set_option linter.unusedVariables false
set_option linter.unusedSimpArgs false
set_option maxRecDepth 100000
namespace Go.Fw
noncomputable section
namespace laws_toLaurent
def P (a : Int × List (List Int × Int)) : Bool := laws_toTermS.P a.2
abbrev g (a : Int × List (List Int × Int)) : Int × List (List Int × Int) := a
end laws_toLaurent
namespace laws_toLaurent
def Z0 {ρ : Type} (N : Nat) (a0 : Int × List (List Int × Int)) (kr : (List (List Int × Int)) → Int → Option ρ) : Option ρ :=
 cond (lk N (laws_toTermS.P a0.2)) (
  kr (laws_toTermS.g a0.2) a0.1) none
def Spec : Prop := ∀  (a0 : Int × List (List Int × Int)), Ty.bd (.pair (.int .i64) (.sl 0 (.pair (.sl 0 (.int .i64)) (.int .i64)))) a0 → P a0 = true → ∃ N0, ∀ N, N0 ≤ N → Z0 N a0 (fun t2_1 t2_0 => some ((), ((t2_0, t2_1), ()))) = some ((), ((g a0), ()))

theorem ok : Spec := fun a hb hp => ⟨0, fun N hN => by
  simp only [Z0]
  exact ct (show laws_toTermS.P a.2 = true from hp)⟩

end laws_toLaurent
end
end Go.Fw
/-! What the measure of the arguments tells: sums. -/
set_option linter.unusedVariables false
namespace Go.Fw
theorem szTerms_P : ∀ (l : List (List Int × Int)) (left : Int), (∀ t ∈ l, t.1.length ≤ maxLen) → 0 ≤ left → left ≤ 1048576 → ¬ laws_szTermS.sz l left < 0 → ∀ t ∈ l, laws_toTerm.P t = true
  | [], _, _, _, _, _, t, ht => by cases ht
  | x :: xs, left, hb, h0, h1, h, t, ht => by
    rw [laws_szTermS.sz] at h
    by_cases e : laws_szTerm.g x left < 0
    · rw [if_pos e] at h; omega
    rw [if_neg e] at h
    have e' : ¬ laws_szIntS.g x.1 left < 0 := by
      intro hlt
      apply e
      unfold laws_szTerm.g
      rw [if_pos hlt]
      omega
    obtain ⟨a1, a2⟩ := szInt_le x.1 left (hb x List.mem_cons_self) h0 h1 e'
    have e2 : laws_szTerm.g x left = left - x.1.length := by
      unfold laws_szTerm.g
      rw [if_neg e', a2]
    rcases List.mem_cons.1 ht with rfl | ht
    · exact toInt_P _ (by omega)
    · rw [e2] at h
      exact szTerms_P xs _ (fun t h => hb t (List.mem_cons_of_mem _ h)) (by omega) (by omega) h t ht
theorem szLau_P (f : Int × List (List Int × Int)) (hb : Ty.bd (.pair (.int .i64) (.sl 0 (.pair (.sl 0 (.int .i64)) (.int .i64)))) f) (h : ¬ laws_szLaurent.g f 1048576 < 0) : laws_toLaurent.P f = true := by
  obtain ⟨_, hb1, hb2⟩ := hb
  have h' : ¬ laws_szTermS.g f.2 1048576 < 0 := by
    unfold laws_szLaurent.g at h
    by_cases e : laws_szTermS.g f.2 1048576 < 0
    · rw [if_pos e] at h; omega
    · exact e
  have hw : w64 (1048576 - (f.2.length : Int)) = 1048576 - f.2.length := w64_id (by rw [maxLen_val] at hb1; omega) (by omega)
  unfold laws_szTermS.g at h'
  rw [hw] at h'
  by_cases hl : (1048576 : Int) - f.2.length < 0
  · rw [if_pos hl] at h'; omega
  rw [if_neg hl] at h'
  have := szTerms_P f.2 _ (fun t ht => (hb2 t ht).1.1) (by omega) (by omega) h'
  show laws_toTermS.P f.2 = true
  unfold laws_toTermS.P
  rw [Bool.and_eq_true]
  exact ⟨dt (by omega), List.all_eq_true.2 this⟩
end Go.Fw
set_option linter.unusedVariables false
set_option linter.unusedSimpArgs false
set_option maxRecDepth 100000
namespace Go.Fw
noncomputable section
namespace spec_l1In
def g (n low high : Int) : Bool := inK n low high
end spec_l1In
namespace spec_l1In
def Z0 {ρ : Type} (N : Nat) (n0 : Int) (low1 : Int) (high2 : Int) (kr : Bool → Option ρ) : Option ρ :=
 cond (lk N (decide (low1 ≤ n0)))
 (
  kr (lk N (decide (n0 ≤ high2))))
 (
  kr false)
def Spec : Prop := ∀  (n0 : Int) (low1 : Int) (high2 : Int), ∃ N0, ∀ N, N0 ≤ N → Z0 N n0 low1 high2 (fun t6 => some ((), (t6, ()))) = some ((), ((g n0 low1 high2), ()))

theorem ok : Spec := fun n low high => ⟨0, fun N hN => by
  simp only [Z0, lk_eq, g, inK]
  cases decide (low ≤ n) <;> rfl⟩

end spec_l1In
end
end Go.Fw
set_option linter.unusedVariables false
set_option linter.unusedSimpArgs false
set_option maxRecDepth 100000
namespace Go.Fw
noncomputable section
namespace spec_l1Less
def g (a b : List Int) : Bool := lexLt a b
end spec_l1Less
namespace spec_l1Less
def Z1 {ρ : Type} (N : Nat) (a0 : List Int) (b1 : List Int) (kn : List Int → List Int → Option ρ) : Option ρ :=
 kn a0 b1
def Z4 {ρ : Type} (N : Nat) (a0 : List Int) (b1 : List Int) (kn : List Int → List Int → Int → Option ρ) : Option ρ :=
 kn a0 b1 0
def Z7 {ρ : Type} (N : Nat) (a0 : List Int) (b1 : List Int) (i5 : Int) (kn : List Int → List Int → Int → Option ρ) (k0 : List Int → List Int → Option ρ) (kr : Bool → Option ρ) : Option ρ :=
 cond (lk N (decide (i5 < (a0.length : Int))))
 (
  cond (lk N (decide (i5 < (b1.length : Int))))
  (
   cond (lk N (inB i5 a0.length)) (
    cond (lk N (inB i5 b1.length)) (
     cond (lk N (!(decide ((a0.getD i5.toNat 0) = (b1.getD i5.toNat 0)))))
     (
      cond (lk N (inB i5 a0.length)) (
       cond (lk N (inB i5 b1.length)) (
        kr (lk N (decide ((a0.getD i5.toNat 0) < (b1.getD i5.toNat 0))))) none) none)
     (
      kn a0 b1 (w64 (i5 + 1)))) none) none)
  (
   k0 a0 b1))
 (
  k0 a0 b1)
def Z6L {ρ : Type} (N : Nat) (k0 : List Int → List Int → Option ρ) (kr : Bool → Option ρ) : Nat → List Int → List Int → Int → Option ρ
  | 0, _, _, _ => none
  | M + 1, a0, b1, i5 => Z7 N a0 b1 i5 (fun a0 b1 i5 => Z6L N k0 kr M a0 b1 i5) k0 kr
def Z6 {ρ : Type} (N : Nat) (a0 : List Int) (b1 : List Int) (i5 : Int) (k0 : List Int → List Int → Option ρ) (kr : Bool → Option ρ) : Option ρ := Z6L N k0 kr N a0 b1 i5
def Z5 {ρ : Type} (N : Nat) (a0 : List Int) (b1 : List Int) (i5 : Int) (kn : List Int → List Int → Option ρ) (kr : Bool → Option ρ) : Option ρ := Z6 N a0 b1 i5 kn kr
def Z3 {ρ : Type} (N : Nat) (a0 : List Int) (b1 : List Int) (kn : List Int → List Int → Option ρ) (kr : Bool → Option ρ) : Option ρ := Z4 N a0 b1 (fun a0 b1 i5 => Z5 N a0 b1 i5 kn kr)
def Z8 {ρ : Type} (N : Nat) (a0 : List Int) (b1 : List Int) (kr : Bool → Option ρ) : Option ρ :=
 kr (lk N (decide ((a0.length : Int) < (b1.length : Int))))
def Z2 {ρ : Type} (N : Nat) (a0 : List Int) (b1 : List Int) (kr : Bool → Option ρ) : Option ρ := Z3 N a0 b1 (fun a0 b1 => Z8 N a0 b1 kr) kr
def Z0 {ρ : Type} (N : Nat) (a0 : List Int) (b1 : List Int) (kr : Bool → Option ρ) : Option ρ := Z1 N a0 b1 (fun a0 b1 => Z2 N a0 b1 kr)
def Spec : Prop := ∀  (a0 : List Int) (b1 : List Int), Ty.bd (.sl 0 (.int .i64)) a0 → Ty.bd (.sl 0 (.int .i64)) b1 → ∃ N0, ∀ N, N0 ≤ N → Z0 N a0 b1 (fun t4 => some ((), (t4, ()))) = some ((), ((g a0 b1), ()))

theorem loop {ρ : Type} (N : Nat) (k0 : List Int → List Int → Option ρ) (kr : Bool → Option ρ) (a b : List Int) (ha : a.length ≤ maxLen) (h0 : k0 a b = kr (decide (a.length < b.length))) : ∀ (M j : Nat), j ≤ a.length → j ≤ b.length → a.length - j < M →
    Z6L N k0 kr M a b (j : Int) = kr (lexLt (a.drop j) (b.drop j)) := by
  intro M
  induction M with
  | zero => intro j _ _ h; omega
  | succ M ih =>
    intro j hj hb hM
    simp only [Z6L, Z7]
    by_cases h : j < a.length
    · rw [ct (dt (by omega)), drop_getD 0 h]
      by_cases h2 : j < b.length
      · rw [ct (dt (by omega)), ct (inB_nat h), ct (inB_nat h2), Int.toNat_natCast, w64_succ (by omega), drop_getD (l := b) 0 h2, lexLt, ih (j + 1) h h2 (by omega)]
        by_cases e : a.getD j 0 = b.getD j 0
        · rw [cf (nf e), if_pos e]
        · rw [ct (nt e), if_neg e, ct (inB_nat h), ct (inB_nat h2), lk_eq]
      · rw [cf (df (by omega)), List.drop_of_length_le (l := b) (by omega), h0, df (by omega)]
        rfl
    · rw [cf (df (by omega)), List.drop_of_length_le (by omega), h0]
      by_cases h2 : j < b.length
      · rw [dt (by omega), drop_getD (l := b) 0 h2]; rfl
      · rw [df (by omega), List.drop_of_length_le (l := b) (by omega)]; rfl
theorem ok : Spec := fun a b ha hb => ⟨a.length + 1, fun N hN => by
  simp only [Z1, Z4, Z7, Z6, Z5, Z3, Z8, Z2, Z0]
  refine (loop N _ (fun t => some ((), (t, ()))) a b ha.1 ?_ N 0 (by omega) (by omega) (by omega)).trans rfl
  rw [lk_eq, show decide ((a.length : Int) < (b.length : Int)) = decide (a.length < b.length) from decide_eq_decide.2 (by omega)]⟩

end spec_l1Less
end
end Go.Fw
set_option linter.unusedVariables false
set_option linter.unusedSimpArgs false
set_option maxRecDepth 100000
namespace Go.Fw
noncomputable section
namespace spec_l2Right
def g (f : Int × List (List Int × Int)) : Bool := lokK f
end spec_l2Right
namespace spec_l2Right
def Z1 {ρ : Type} (N : Nat) (f0 : Int × List (List Int × Int)) (kn : Int → (List (List Int × Int)) → Option ρ) : Option ρ :=
 kn f0.1 f0.2
def Z3 {ρ : Type} (N : Nat) (f1_0 : Int) (f1_1 : List (List Int × Int)) (kn : Int → (List (List Int × Int)) → Option ρ) (kr : Bool → Option ρ) : Option ρ :=
 cond (!(lk N ((spec_l1In.g f1_0 1 8))))
 (
  kr false)
 (
  cond (lk N (decide (600 < (f1_1.length : Int))))
  (
   kr false)
  (
   kn f1_0 f1_1))
def Z6 {ρ : Type} (N : Nat) (f1_0 : Int) (f1_1 : List (List Int × Int)) (kn : Int → Int → (List (List Int × Int)) → Option ρ) : Option ρ :=
 kn 0 f1_0 f1_1
def Z10 {ρ : Type} (N : Nat) (k3 : Int) (f1_0 : Int) (f1_1 : List (List Int × Int)) (kn : Int → Int → (List (List Int × Int)) → Option ρ) (k0 : Option ρ) : Option ρ :=
 cond (lk N (decide (k3 < (f1_1.length : Int))))
 (
  kn k3 f1_0 f1_1)
 (
  k0)
def Z14 {ρ : Type} (N : Nat) (k3 : Int) (f1_0 : Int) (f1_1 : List (List Int × Int)) (kn : Int → Int → (List (List Int × Int)) → List Int → Int → Option ρ) : Option ρ :=
 cond (lk N (inB k3 f1_1.length)) (
  kn k3 f1_0 f1_1 (f1_1.getD k3.toNat ([], 0)).1 (f1_1.getD k3.toNat ([], 0)).2) none
def Z16 {ρ : Type} (N : Nat) (k3 : Int) (f1_0 : Int) (f1_1 : List (List Int × Int)) (t4_0 : List Int) (t4_1 : Int) (kn : Int → Int → (List (List Int × Int)) → List Int → Int → Option ρ) (kr : Bool → Option ρ) : Option ρ :=
 cond (lk N (!(decide ((t4_0.length : Int) = f1_0))))
 (
  kr false)
 (
  cond (lk N (decide (t4_1 = 0)))
  (
   kr false)
  (
   cond (!(lk N ((spec_l1In.g t4_1 (-1000000) 1000000))))
   (
    kr false)
   (
    cond (lk N (decide (0 < k3)))
    (
     cond (lk N (inB (w64 (k3 - 1)) f1_1.length)) (
      cond (!(lk N ((spec_l1Less.g t4_0 (f1_1.getD (w64 (k3 - 1)).toNat ([], 0)).1))))
      (
       kr false)
      (
       kn k3 f1_0 f1_1 t4_0 t4_1)) none)
    (
     kn k3 f1_0 f1_1 t4_0 t4_1))))
def Z18 {ρ : Type} (N : Nat) (k3 : Int) (f1_0 : Int) (f1_1 : List (List Int × Int)) (t4_0 : List Int) (t4_1 : Int) (kn : Int → Int → Int → (List (List Int × Int)) → List Int → Int → Option ρ) : Option ρ :=
 kn k3 0 f1_0 f1_1 t4_0 t4_1
def Z21 {ρ : Type} (N : Nat) (k3 : Int) (i5 : Int) (f1_0 : Int) (f1_1 : List (List Int × Int)) (t4_0 : List Int) (t4_1 : Int) (kn : Int → Int → Int → (List (List Int × Int)) → List Int → Int → Option ρ) (k2 : Int → Int → (List (List Int × Int)) → Option ρ) (kr : Bool → Option ρ) : Option ρ :=
 cond (lk N (decide (i5 < f1_0)))
 (
  cond (lk N (inB i5 t4_0.length)) (
   cond (!(lk N ((spec_l1In.g (t4_0.getD i5.toNat 0) (-20) 20))))
   (
    kr false)
   (
    kn k3 (w64 (i5 + 1)) f1_0 f1_1 t4_0 t4_1)) none)
 (
  k2 k3 f1_0 f1_1)
def Z20L {ρ : Type} (N : Nat) (k2 : Int → Int → (List (List Int × Int)) → Option ρ) (kr : Bool → Option ρ) : Nat → Int → Int → Int → (List (List Int × Int)) → List Int → Int → Option ρ
  | 0, _, _, _, _, _, _ => none
  | M + 1, k3, i5, f1_0, f1_1, t4_0, t4_1 => Z21 N k3 i5 f1_0 f1_1 t4_0 t4_1 (fun k3 i5 f1_0 f1_1 t4_0 t4_1 => Z20L N k2 kr M k3 i5 f1_0 f1_1 t4_0 t4_1) k2 kr
def Z20 {ρ : Type} (N : Nat) (k3 : Int) (i5 : Int) (f1_0 : Int) (f1_1 : List (List Int × Int)) (t4_0 : List Int) (t4_1 : Int) (k2 : Int → Int → (List (List Int × Int)) → Option ρ) (kr : Bool → Option ρ) : Option ρ := Z20L N k2 kr N k3 i5 f1_0 f1_1 t4_0 t4_1
def Z19 {ρ : Type} (N : Nat) (k3 : Int) (i5 : Int) (f1_0 : Int) (f1_1 : List (List Int × Int)) (t4_0 : List Int) (t4_1 : Int) (kn : Int → Int → (List (List Int × Int)) → Option ρ) (kr : Bool → Option ρ) : Option ρ := Z20 N k3 i5 f1_0 f1_1 t4_0 t4_1 kn kr
def Z17 {ρ : Type} (N : Nat) (k3 : Int) (f1_0 : Int) (f1_1 : List (List Int × Int)) (t4_0 : List Int) (t4_1 : Int) (kn : Int → Int → (List (List Int × Int)) → Option ρ) (kr : Bool → Option ρ) : Option ρ := Z18 N k3 f1_0 f1_1 t4_0 t4_1 (fun k3 i5 f1_0 f1_1 t4_0 t4_1 => Z19 N k3 i5 f1_0 f1_1 t4_0 t4_1 kn kr)
def Z15 {ρ : Type} (N : Nat) (k3 : Int) (f1_0 : Int) (f1_1 : List (List Int × Int)) (t4_0 : List Int) (t4_1 : Int) (kn : Int → Int → (List (List Int × Int)) → Option ρ) (kr : Bool → Option ρ) : Option ρ := Z16 N k3 f1_0 f1_1 t4_0 t4_1 (fun k3 f1_0 f1_1 t4_0 t4_1 => Z17 N k3 f1_0 f1_1 t4_0 t4_1 kn kr) kr
def Z13 {ρ : Type} (N : Nat) (k3 : Int) (f1_0 : Int) (f1_1 : List (List Int × Int)) (kn : Int → Int → (List (List Int × Int)) → Option ρ) (kr : Bool → Option ρ) : Option ρ := Z14 N k3 f1_0 f1_1 (fun k3 f1_0 f1_1 t4_0 t4_1 => Z15 N k3 f1_0 f1_1 t4_0 t4_1 kn kr)
def Z12 {ρ : Type} (N : Nat) (k3 : Int) (f1_0 : Int) (f1_1 : List (List Int × Int)) (kn : Int → Int → (List (List Int × Int)) → Option ρ) (kr : Bool → Option ρ) : Option ρ := Z13 N k3 f1_0 f1_1 kn kr
def Z22 {ρ : Type} (N : Nat) (k3 : Int) (f1_0 : Int) (f1_1 : List (List Int × Int)) (kn : Int → Int → (List (List Int × Int)) → Option ρ) : Option ρ :=
 kn (w64 (k3 + 1)) f1_0 f1_1
def Z11 {ρ : Type} (N : Nat) (k3 : Int) (f1_0 : Int) (f1_1 : List (List Int × Int)) (kn : Int → Int → (List (List Int × Int)) → Option ρ) (kr : Bool → Option ρ) : Option ρ := Z12 N k3 f1_0 f1_1 (fun k3 f1_0 f1_1 => Z22 N k3 f1_0 f1_1 kn) kr
def Z9 {ρ : Type} (N : Nat) (k3 : Int) (f1_0 : Int) (f1_1 : List (List Int × Int)) (kn : Int → Int → (List (List Int × Int)) → Option ρ) (k0 : Option ρ) (kr : Bool → Option ρ) : Option ρ := Z10 N k3 f1_0 f1_1 (fun k3 f1_0 f1_1 => Z11 N k3 f1_0 f1_1 kn kr) k0
def Z8L {ρ : Type} (N : Nat) (k0 : Option ρ) (kr : Bool → Option ρ) : Nat → Int → Int → (List (List Int × Int)) → Option ρ
  | 0, _, _, _ => none
  | M + 1, k3, f1_0, f1_1 => Z9 N k3 f1_0 f1_1 (fun k3 f1_0 f1_1 => Z8L N k0 kr M k3 f1_0 f1_1) k0 kr
def Z8 {ρ : Type} (N : Nat) (k3 : Int) (f1_0 : Int) (f1_1 : List (List Int × Int)) (k0 : Option ρ) (kr : Bool → Option ρ) : Option ρ := Z8L N k0 kr N k3 f1_0 f1_1
def Z7 {ρ : Type} (N : Nat) (k3 : Int) (f1_0 : Int) (f1_1 : List (List Int × Int)) (kn : Option ρ) (kr : Bool → Option ρ) : Option ρ := Z8 N k3 f1_0 f1_1 kn kr
def Z5 {ρ : Type} (N : Nat) (f1_0 : Int) (f1_1 : List (List Int × Int)) (kn : Option ρ) (kr : Bool → Option ρ) : Option ρ := Z6 N f1_0 f1_1 (fun k3 f1_0 f1_1 => Z7 N k3 f1_0 f1_1 kn kr)
def Z23 {ρ : Type} (N : Nat)  (kr : Bool → Option ρ) : Option ρ :=
 kr true
def Z4 {ρ : Type} (N : Nat) (f1_0 : Int) (f1_1 : List (List Int × Int)) (kr : Bool → Option ρ) : Option ρ := Z5 N f1_0 f1_1 (Z23 N kr) kr
def Z2 {ρ : Type} (N : Nat) (f1_0 : Int) (f1_1 : List (List Int × Int)) (kr : Bool → Option ρ) : Option ρ := Z3 N f1_0 f1_1 (fun f1_0 f1_1 => Z4 N f1_0 f1_1 kr) kr
def Z0 {ρ : Type} (N : Nat) (f0 : Int × List (List Int × Int)) (kr : Bool → Option ρ) : Option ρ := Z1 N f0 (fun f1_0 f1_1 => Z2 N f1_0 f1_1 kr)
def Spec : Prop := ∀  (f0 : Int × List (List Int × Int)), Ty.bd (.pair (.int .i64) (.sl 0 (.pair (.sl 0 (.int .i64)) (.int .i64)))) f0 → ∃ N0, ∀ N, N0 ≤ N → Z0 N f0 (fun t2 => some ((), (t2, ()))) = some ((), ((g f0), ()))

theorem inner {ρ : Type} (N : Nat) (k2 : Int → Int → List (List Int × Int) → Option ρ) (kr : Bool → Option ρ) (k v : Int) (l : List (List Int × Int)) (e : List Int) (c : Int) (he : e.length ≤ maxLen) (hv : (e.length : Int) = v) : ∀ (M j : Nat), j ≤ e.length → e.length - j < M →
    Z20L N k2 kr M k (j : Int) v l e c = cond ((e.drop j).all fun x => inK x (-20) 20) (k2 k v l) (kr false) := by
  intro M
  induction M with
  | zero => intro j _ h; omega
  | succ M ih =>
    intro j hj hM
    simp only [Z20L, Z21]
    by_cases h : j < e.length
    · rw [ct (dt (by omega)), ct (inB_nat h), Int.toNat_natCast, w64_succ (by omega), drop_getD 0 h, List.all_cons, ih (j + 1) h (by omega)]
      simp only [lk_eq, spec_l1In.g]
      cases inK (e.getD j 0) (-20) 20 <;> rfl
    · rw [cf (df (by omega)), List.drop_of_length_le (by omega)]; rfl
theorem loop {ρ : Type} (N : Nat) (kr : Bool → Option ρ) (v : Int) (l : List (List Int × Int)) (hl : l.length ≤ maxLen) (hv : inK v 1 8 = true) (hN : 10 ≤ N) : ∀ (M j : Nat), j ≤ l.length → l.length - j < M →
    Z8L N (kr true) kr M (j : Int) v l = kr (termsK v (l.drop j) (prevE l j)) := by
  simp only [inK, Bool.and_eq_true, decide_eq_true_eq] at hv
  intro M
  induction M with
  | zero => intro j _ h; omega
  | succ M ih =>
    intro j hj hM
    simp only [Z8L, Z1, Z3, Z6, Z10, Z14, Z16, Z18, Z21, Z20, Z19, Z17, Z15, Z13, Z12, Z22, Z11, Z9, Z8, Z7, Z5, Z23, Z4, Z2, Z0]
    by_cases h : j < l.length
    · rw [ct (dt (by omega)), ct (inB_nat h), Int.toNat_natCast, drop_getD ([], 0) h, termsK]
      by_cases hlen : ((l.getD j ([], 0)).1.length : Int) = v
      · rw [cf (nf hlen)]
        have hin := inner (ρ := ρ) N (fun k3 f1_0 f1_1 => Z8L N (kr true) kr M (w64 (k3 + 1)) f1_0 f1_1) kr j v l (l.getD j ([], 0)).1 (l.getD j ([], 0)).2 (by rw [maxLen_val]; omega) hlen N 0 (by omega) (by omega)
        rw [List.drop_zero, w64_succ (by omega), ih (j + 1) h (by omega)] at hin
        rw [show (((0 : Nat) : Int)) = 0 from rfl] at hin
        simp only [lk_eq, spec_l1In.g, expK, dt hlen, Bool.true_and, coefK]
        rw [hin]
        generalize ((l.getD j ([], 0)).1.all fun x => inK x (-20) 20) = b1
        cases hz : decide ((l.getD j ([], 0)).2 = 0) with
        | true => cases b1 <;> rfl
        | false =>
          cases inK (l.getD j ([], 0)).2 (-1000000) 1000000 with
          | false => cases b1 <;> rfl
          | true =>
            cases j with
            | zero => cases b1 <;> rfl
            | succ j =>
              rw [dt (show (0 : Int) < ((j + 1 : Nat) : Int) by omega), show w64 (((j + 1 : Nat) : Int) - 1) = (j : Int) by rw [w64_id (by omega) (by rw [maxLen_val] at hl; omega)]; omega, inB_nat (by omega)]
              simp only [cond_true, Int.toNat_natCast, spec_l1Less.g, prevE, belowK, Bool.not_true, cond_false, Bool.not_false, Bool.true_and]
              cases lexLt (l.getD (j + 1) ([], 0)).1 (l.getD j ([], 0)).1 <;> cases b1 <;> rfl
      · rw [ct (nt hlen), expK, df hlen]; rfl
    · rw [cf (df (by omega)), List.drop_of_length_le (by omega), termsK]
theorem ok : Spec := fun f hb => ⟨f.2.length + 10, fun N hN => by
  simp only [Z1, Z3, Z6, Z10, Z14, Z16, Z18, Z21, Z20, Z19, Z17, Z15, Z13, Z12, Z22, Z11, Z9, Z8, Z7, Z5, Z23, Z4, Z2, Z0, g, lokK, spec_l1In.g]
  cases h1 : inK f.1 1 8
  · simp [lk_eq]
  by_cases h2 : (600 : Int) < f.2.length
  · rw [cf' (by simp [lk_eq]), ct (dt h2), df (by omega)]
    simp
  · rw [cf' (by simp [lk_eq]), cf (df h2), dt (show f.2.length ≤ 600 by omega)]
    exact (loop N (fun t => some ((), (t, ()))) _ f.2 hb.2.1 h1 (by omega) N 0 (by omega) (by omega)).trans rfl⟩

end spec_l2Right
end
end Go.Fw
set_option linter.unusedVariables false
set_option linter.unusedSimpArgs false
set_option maxRecDepth 100000
namespace Go.Fw
noncomputable section
namespace spec_l2Residue
def g (n : Int) : Int := resK n
end spec_l2Residue
namespace spec_l2Residue
def Z0 {ρ : Type} (N : Nat) (n0 : Int) (kr : Int → Option ρ) : Option ρ :=
 cond (lk N (true)) (
  cond (lk N (true)) (
   kr (Int.tmod (w64 ((Int.tmod n0 32003) + 32003)) 32003)) none) none
def Spec : Prop := ∀  (n0 : Int), ∃ N0, ∀ N, N0 ≤ N → Z0 N n0 (fun t2 => some ((), (t2, ()))) = some ((), ((g n0), ()))

theorem ok : Spec := fun n => ⟨0, fun N hN => by
  simp only [Z0, lk_eq, cond_true]
  rfl⟩

end spec_l2Residue
end
end Go.Fw
set_option linter.unusedVariables false
set_option linter.unusedSimpArgs false
set_option maxRecDepth 100000
namespace Go.Fw
noncomputable section
namespace spec_l2Power
def g (x n : Int) : Int := powK x n
def P (x n : Int) : Bool := decide (0 ≤ x) && (decide (x < 32003) && (decide (-4611686018427387904 < n) && decide (n < 4611686018427387904)))
def mu (x n : Int) : Nat := if n < 0 then 1 else 0
end spec_l2Power
namespace spec_l2Power
def Z1 {ρ : Type} (N : Nat) (m : Nat) (x0 : Int) (n1 : Int) (kn : Int → Int → Option ρ) : Option ρ :=
 kn x0 n1
def Z3 {ρ : Type} (N : Nat) (m : Nat) (x0 : Int) (n1 : Int) (kn : Int → Int → Option ρ) (kr : Int → Option ρ) : Option ρ :=
 cond (lk N (decide (n1 < 0)))
 (
  cond (lk N (Nat.blt (mu x0 32001) m && P x0 32001)) (
   cond (lk N (Nat.blt (mu (g x0 32001) (w64 (0 - n1))) m && P (g x0 32001) (w64 (0 - n1)))) (
    kr (g (g x0 32001) (w64 (0 - n1)))) none) none)
 (
  kn x0 n1)
def Z5 {ρ : Type} (N : Nat) (m : Nat) (x0 : Int) (n1 : Int) (kn : Int → Int → Int → Option ρ) : Option ρ :=
 kn x0 n1 1
def Z9 {ρ : Type} (N : Nat) (m : Nat) (x0 : Int) (n1 : Int) (out5 : Int) (kn : Int → Int → Int → Option ρ) (k0 : Int → Option ρ) : Option ρ :=
 cond (lk N (decide (0 < n1)))
 (
  cond (lk N (true)) (
   cond (lk N (decide ((Int.tmod n1 2) = 1)))
   (
    cond (lk N (true)) (
     cond (lk N (true)) (
      cond (lk N (true)) (
       kn (Int.tmod (w64 (x0 * x0)) 32003) (w64 (Int.tdiv n1 2)) (Int.tmod (w64 (out5 * x0)) 32003)) none) none) none)
   (
    cond (lk N (true)) (
     cond (lk N (true)) (
      kn (Int.tmod (w64 (x0 * x0)) 32003) (w64 (Int.tdiv n1 2)) out5) none) none)) none)
 (
  k0 out5)
def Z8L {ρ : Type} (N : Nat) (m : Nat) (k0 : Int → Option ρ) : Nat → Int → Int → Int → Option ρ
  | 0, _, _, _ => none
  | M + 1, x0, n1, out5 => Z9 N m x0 n1 out5 (fun x0 n1 out5 => Z8L N m k0 M x0 n1 out5) k0
def Z8 {ρ : Type} (N : Nat) (m : Nat) (x0 : Int) (n1 : Int) (out5 : Int) (k0 : Int → Option ρ) : Option ρ := Z8L N m k0 N x0 n1 out5
def Z7 {ρ : Type} (N : Nat) (m : Nat) (x0 : Int) (n1 : Int) (out5 : Int) (kn : Int → Option ρ) : Option ρ := Z8 N m x0 n1 out5 kn
def Z10 {ρ : Type} (N : Nat) (m : Nat) (out5 : Int) (kr : Int → Option ρ) : Option ρ :=
 kr out5
def Z6 {ρ : Type} (N : Nat) (m : Nat) (x0 : Int) (n1 : Int) (out5 : Int) (kr : Int → Option ρ) : Option ρ := Z7 N m x0 n1 out5 (fun out5 => Z10 N m out5 kr)
def Z4 {ρ : Type} (N : Nat) (m : Nat) (x0 : Int) (n1 : Int) (kr : Int → Option ρ) : Option ρ := Z5 N m x0 n1 (fun x0 n1 out5 => Z6 N m x0 n1 out5 kr)
def Z2 {ρ : Type} (N : Nat) (m : Nat) (x0 : Int) (n1 : Int) (kr : Int → Option ρ) : Option ρ := Z3 N m x0 n1 (fun x0 n1 => Z4 N m x0 n1 kr) kr
def Z0 {ρ : Type} (N : Nat) (m : Nat) (x0 : Int) (n1 : Int) (kr : Int → Option ρ) : Option ρ := Z1 N m x0 n1 (fun x0 n1 => Z2 N m x0 n1 kr)
def Spec : Prop := ∀ (m : Nat) (x0 : Int) (n1 : Int), (Nat.blt (mu x0 n1) (m + 1) && P x0 n1) = true → ∃ N0, ∀ N, N0 ≤ N → Z0 N m x0 n1 (fun t4 => some ((), (t4, ()))) = some ((), ((g x0 n1), ()))

theorem loop {ρ : Type} (N m : Nat) (k0 : Int → Option ρ) : ∀ (M n : Nat) (x out : Int), 0 ≤ x ∧ x < 32003 → 0 ≤ out ∧ out < 32003 → n < 4611686018427387904 → n < M →
    Z8L N m k0 M x (n : Int) out = k0 (out * x ^ n % 32003) := by
  intro M
  induction M with
  | zero => intro n _ _ _ _ _ h; omega
  | succ M ih =>
    intro n x out hx ho hn hM
    simp only [Z8L, Z9]
    by_cases h : n = 0
    · subst h
      rw [cf (df (by omega)), Int.pow_zero, Int.mul_one, Int.emod_eq_of_lt ho.1 ho.2]
    · have h1 := prod_range hx hx
      have h2 := prod_range ho hx
      have e1 : Int.tmod (n : Int) 2 = ((n % 2 : Nat) : Int) := rfl
      have e2 : Int.tdiv (n : Int) 2 = ((n / 2 : Nat) : Int) := rfl
      rw [ct (dt (by omega)), ct rfl, w64_id (n := x * x) (by omega) (by omega), w64_id (n := out * x) (by omega) (by omega), e2, w64_id (by omega) (by omega), tm h1.1, tm h2.1]
      by_cases hp : n % 2 = 1
      · rw [ct (dt (by rw [e1]; omega)), ct rfl, ct rfl, ct rfl, ih _ _ _ (by omega) (by omega) (by omega) (by omega), sq_odd _ _ hp]
      · rw [cf (df (by rw [e1]; omega)), ct rfl, ct rfl, ih _ _ _ (by omega) ho (by omega) (by omega), sq_even _ _ hp]
theorem ok : Spec := fun m x n hp => ⟨n.natAbs + 1, fun N hN => by
  simp only [P, Bool.and_eq_true, decide_eq_true_eq, Nat.blt_eq] at hp
  obtain ⟨hm, h1, h2, h3, h4⟩ := hp
  simp only [Z0, Z1, Z2, Z3, g]
  by_cases h : n < 0
  · have hm1 : 0 < m := by
      simp only [mu] at hm
      rw [if_pos h] at hm
      omega
    have hr := powK_range x 32001
    rw [ct (dt h), ct (show (Nat.blt (mu x 32001) m && P x 32001) = true by
      simp only [P, Bool.and_eq_true, decide_eq_true_eq, Nat.blt_eq, mu]
      rw [if_neg (by omega)]
      omega), w64_id (by omega) (by omega)]
    rw [ct (show (Nat.blt (mu (powK x 32001) (0 - n)) m && P (powK x 32001) (0 - n)) = true by
      simp only [P, Bool.and_eq_true, decide_eq_true_eq, Nat.blt_eq, mu]
      rw [if_neg (by omega)]
      omega)]
    have e : powK (powK x 32001) (0 - n) = powK x n := by
      rw [powK, if_neg (by omega)]
      conv => rhs; rw [powK, if_pos h]
      rw [show powK x 32001 = pmod x 32001 from rfl, Int.zero_sub]
    rw [e]
  · obtain ⟨k, rfl⟩ := Int.eq_ofNat_of_zero_le (show 0 ≤ n by omega)
    rw [cf (df h)]
    simp only [Z4, Z5, Z6, Z7, Z8, Z10]
    rw [loop N m _ N k x 1 ⟨h1, h2⟩ (by omega) (by omega) (by omega), Int.one_mul, powK, if_neg h]
    rfl⟩

end spec_l2Power
end
end Go.Fw
set_option linter.unusedVariables false
set_option linter.unusedSimpArgs false
set_option maxRecDepth 100000
namespace Go.Fw
noncomputable section
namespace spec_EvaluateLaurent
def g (f : Int × List (List Int × Int)) (vs : List Int) : Int := evalK f vs
end spec_EvaluateLaurent
namespace spec_EvaluateLaurent
def Z1 {ρ : Type} (N : Nat) (f0 : Int × List (List Int × Int)) (values1 : List Int) (kn : List Int → Int → (List (List Int × Int)) → Option ρ) : Option ρ :=
 kn values1 f0.1 f0.2
def Z3 {ρ : Type} (N : Nat) (values1 : List Int) (f2_0 : Int) (f2_1 : List (List Int × Int)) (kn : List Int → Int → (List (List Int × Int)) → Option ρ) (kr : Int → Option ρ) : Option ρ :=
 cond (!(lk N ((spec_l2Right.g (f2_0, f2_1)))))
 (
  kr (-1))
 (
  cond (lk N (!(decide ((values1.length : Int) = f2_0))))
  (
   kr (-1))
  (
   kn values1 f2_0 f2_1))
def Z5 {ρ : Type} (N : Nat) (values1 : List Int) (f2_0 : Int) (f2_1 : List (List Int × Int)) (kn : List Int → Int → Int → (List (List Int × Int)) → Option ρ) : Option ρ :=
 kn values1 0 f2_0 f2_1
def Z8 {ρ : Type} (N : Nat) (values1 : List Int) (sum5 : Int) (f2_0 : Int) (f2_1 : List (List Int × Int)) (kn : List Int → Int → Int → Int → (List (List Int × Int)) → Option ρ) : Option ρ :=
 kn values1 sum5 0 f2_0 f2_1
def Z11 {ρ : Type} (N : Nat) (values1 : List Int) (sum5 : Int) (i6 : Int) (f2_0 : Int) (f2_1 : List (List Int × Int)) (kn : List Int → Int → Int → Int → (List (List Int × Int)) → Option ρ) (k0 : List Int → Int → Int → (List (List Int × Int)) → Option ρ) (kr : Int → Option ρ) : Option ρ :=
 cond (lk N (decide (i6 < f2_0)))
 (
  cond (lk N (inB i6 values1.length)) (
   cond (lk N (decide ((spec_l2Residue.g (values1.getD i6.toNat 0)) = 0)))
   (
    kr (-1))
   (
    kn values1 sum5 (w64 (i6 + 1)) f2_0 f2_1)) none)
 (
  k0 values1 sum5 f2_0 f2_1)
def Z10L {ρ : Type} (N : Nat) (k0 : List Int → Int → Int → (List (List Int × Int)) → Option ρ) (kr : Int → Option ρ) : Nat → List Int → Int → Int → Int → (List (List Int × Int)) → Option ρ
  | 0, _, _, _, _, _ => none
  | M + 1, values1, sum5, i6, f2_0, f2_1 => Z11 N values1 sum5 i6 f2_0 f2_1 (fun values1 sum5 i6 f2_0 f2_1 => Z10L N k0 kr M values1 sum5 i6 f2_0 f2_1) k0 kr
def Z10 {ρ : Type} (N : Nat) (values1 : List Int) (sum5 : Int) (i6 : Int) (f2_0 : Int) (f2_1 : List (List Int × Int)) (k0 : List Int → Int → Int → (List (List Int × Int)) → Option ρ) (kr : Int → Option ρ) : Option ρ := Z10L N k0 kr N values1 sum5 i6 f2_0 f2_1
def Z9 {ρ : Type} (N : Nat) (values1 : List Int) (sum5 : Int) (i6 : Int) (f2_0 : Int) (f2_1 : List (List Int × Int)) (kn : List Int → Int → Int → (List (List Int × Int)) → Option ρ) (kr : Int → Option ρ) : Option ρ := Z10 N values1 sum5 i6 f2_0 f2_1 kn kr
def Z7 {ρ : Type} (N : Nat) (values1 : List Int) (sum5 : Int) (f2_0 : Int) (f2_1 : List (List Int × Int)) (kn : List Int → Int → Int → (List (List Int × Int)) → Option ρ) (kr : Int → Option ρ) : Option ρ := Z8 N values1 sum5 f2_0 f2_1 (fun values1 sum5 i6 f2_0 f2_1 => Z9 N values1 sum5 i6 f2_0 f2_1 kn kr)
def Z14 {ρ : Type} (N : Nat) (values1 : List Int) (sum5 : Int) (f2_0 : Int) (f2_1 : List (List Int × Int)) (kn : List Int → Int → Int → Int → (List (List Int × Int)) → Option ρ) : Option ρ :=
 kn values1 sum5 0 f2_0 f2_1
def Z18 {ρ : Type} (N : Nat) (values1 : List Int) (sum5 : Int) (k7 : Int) (f2_0 : Int) (f2_1 : List (List Int × Int)) (kn : List Int → Int → Int → Int → (List (List Int × Int)) → Option ρ) (k2 : Int → Option ρ) : Option ρ :=
 cond (lk N (decide (k7 < (f2_1.length : Int))))
 (
  kn values1 sum5 k7 f2_0 f2_1)
 (
  k2 sum5)
def Z22 {ρ : Type} (N : Nat) (values1 : List Int) (sum5 : Int) (k7 : Int) (f2_0 : Int) (f2_1 : List (List Int × Int)) (kn : List Int → Int → Int → Int → Int → (List (List Int × Int)) → Option ρ) : Option ρ :=
 cond (lk N (inB k7 f2_1.length)) (
  kn values1 sum5 k7 (spec_l2Residue.g (f2_1.getD k7.toNat ([], 0)).2) f2_0 f2_1) none
def Z25 {ρ : Type} (N : Nat) (values1 : List Int) (sum5 : Int) (k7 : Int) (x8 : Int) (f2_0 : Int) (f2_1 : List (List Int × Int)) (kn : List Int → Int → Int → Int → Int → Int → (List (List Int × Int)) → Option ρ) : Option ρ :=
 kn values1 sum5 k7 x8 0 f2_0 f2_1
def Z28 {ρ : Type} (N : Nat) (values1 : List Int) (sum5 : Int) (k7 : Int) (x8 : Int) (i9 : Int) (f2_0 : Int) (f2_1 : List (List Int × Int)) (kn : List Int → Int → Int → Int → Int → Int → (List (List Int × Int)) → Option ρ) (k4 : List Int → Int → Int → Int → Int → (List (List Int × Int)) → Option ρ) : Option ρ :=
 cond (lk N (decide (i9 < f2_0)))
 (
  cond (lk N (inB i9 values1.length)) (
   cond (lk N (inB k7 f2_1.length)) (
    cond (lk N (inB i9 (f2_1.getD k7.toNat ([], 0)).1.length)) (
     cond (lk N (spec_l2Power.P (spec_l2Residue.g (values1.getD i9.toNat 0)) ((f2_1.getD k7.toNat ([], 0)).1.getD i9.toNat 0))) (
      cond (lk N (true)) (
       kn values1 sum5 k7 (Int.tmod (w64 (x8 * (spec_l2Power.g (spec_l2Residue.g (values1.getD i9.toNat 0)) ((f2_1.getD k7.toNat ([], 0)).1.getD i9.toNat 0)))) 32003) (w64 (i9 + 1)) f2_0 f2_1) none) none) none) none) none)
 (
  k4 values1 sum5 k7 x8 f2_0 f2_1)
def Z27L {ρ : Type} (N : Nat) (k4 : List Int → Int → Int → Int → Int → (List (List Int × Int)) → Option ρ) : Nat → List Int → Int → Int → Int → Int → Int → (List (List Int × Int)) → Option ρ
  | 0, _, _, _, _, _, _, _ => none
  | M + 1, values1, sum5, k7, x8, i9, f2_0, f2_1 => Z28 N values1 sum5 k7 x8 i9 f2_0 f2_1 (fun values1 sum5 k7 x8 i9 f2_0 f2_1 => Z27L N k4 M values1 sum5 k7 x8 i9 f2_0 f2_1) k4
def Z27 {ρ : Type} (N : Nat) (values1 : List Int) (sum5 : Int) (k7 : Int) (x8 : Int) (i9 : Int) (f2_0 : Int) (f2_1 : List (List Int × Int)) (k4 : List Int → Int → Int → Int → Int → (List (List Int × Int)) → Option ρ) : Option ρ := Z27L N k4 N values1 sum5 k7 x8 i9 f2_0 f2_1
def Z26 {ρ : Type} (N : Nat) (values1 : List Int) (sum5 : Int) (k7 : Int) (x8 : Int) (i9 : Int) (f2_0 : Int) (f2_1 : List (List Int × Int)) (kn : List Int → Int → Int → Int → Int → (List (List Int × Int)) → Option ρ) : Option ρ := Z27 N values1 sum5 k7 x8 i9 f2_0 f2_1 kn
def Z24 {ρ : Type} (N : Nat) (values1 : List Int) (sum5 : Int) (k7 : Int) (x8 : Int) (f2_0 : Int) (f2_1 : List (List Int × Int)) (kn : List Int → Int → Int → Int → Int → (List (List Int × Int)) → Option ρ) : Option ρ := Z25 N values1 sum5 k7 x8 f2_0 f2_1 (fun values1 sum5 k7 x8 i9 f2_0 f2_1 => Z26 N values1 sum5 k7 x8 i9 f2_0 f2_1 kn)
def Z29 {ρ : Type} (N : Nat) (values1 : List Int) (sum5 : Int) (k7 : Int) (x8 : Int) (f2_0 : Int) (f2_1 : List (List Int × Int)) (kn : List Int → Int → Int → Int → (List (List Int × Int)) → Option ρ) : Option ρ :=
 cond (lk N (true)) (
  kn values1 (Int.tmod (w64 (sum5 + x8)) 32003) k7 f2_0 f2_1) none
def Z23 {ρ : Type} (N : Nat) (values1 : List Int) (sum5 : Int) (k7 : Int) (x8 : Int) (f2_0 : Int) (f2_1 : List (List Int × Int)) (kn : List Int → Int → Int → Int → (List (List Int × Int)) → Option ρ) : Option ρ := Z24 N values1 sum5 k7 x8 f2_0 f2_1 (fun values1 sum5 k7 x8 f2_0 f2_1 => Z29 N values1 sum5 k7 x8 f2_0 f2_1 kn)
def Z21 {ρ : Type} (N : Nat) (values1 : List Int) (sum5 : Int) (k7 : Int) (f2_0 : Int) (f2_1 : List (List Int × Int)) (kn : List Int → Int → Int → Int → (List (List Int × Int)) → Option ρ) : Option ρ := Z22 N values1 sum5 k7 f2_0 f2_1 (fun values1 sum5 k7 x8 f2_0 f2_1 => Z23 N values1 sum5 k7 x8 f2_0 f2_1 kn)
def Z20 {ρ : Type} (N : Nat) (values1 : List Int) (sum5 : Int) (k7 : Int) (f2_0 : Int) (f2_1 : List (List Int × Int)) (kn : List Int → Int → Int → Int → (List (List Int × Int)) → Option ρ) : Option ρ := Z21 N values1 sum5 k7 f2_0 f2_1 kn
def Z30 {ρ : Type} (N : Nat) (values1 : List Int) (sum5 : Int) (k7 : Int) (f2_0 : Int) (f2_1 : List (List Int × Int)) (kn : List Int → Int → Int → Int → (List (List Int × Int)) → Option ρ) : Option ρ :=
 kn values1 sum5 (w64 (k7 + 1)) f2_0 f2_1
def Z19 {ρ : Type} (N : Nat) (values1 : List Int) (sum5 : Int) (k7 : Int) (f2_0 : Int) (f2_1 : List (List Int × Int)) (kn : List Int → Int → Int → Int → (List (List Int × Int)) → Option ρ) : Option ρ := Z20 N values1 sum5 k7 f2_0 f2_1 (fun values1 sum5 k7 f2_0 f2_1 => Z30 N values1 sum5 k7 f2_0 f2_1 kn)
def Z17 {ρ : Type} (N : Nat) (values1 : List Int) (sum5 : Int) (k7 : Int) (f2_0 : Int) (f2_1 : List (List Int × Int)) (kn : List Int → Int → Int → Int → (List (List Int × Int)) → Option ρ) (k2 : Int → Option ρ) : Option ρ := Z18 N values1 sum5 k7 f2_0 f2_1 (fun values1 sum5 k7 f2_0 f2_1 => Z19 N values1 sum5 k7 f2_0 f2_1 kn) k2
def Z16L {ρ : Type} (N : Nat) (k2 : Int → Option ρ) : Nat → List Int → Int → Int → Int → (List (List Int × Int)) → Option ρ
  | 0, _, _, _, _, _ => none
  | M + 1, values1, sum5, k7, f2_0, f2_1 => Z17 N values1 sum5 k7 f2_0 f2_1 (fun values1 sum5 k7 f2_0 f2_1 => Z16L N k2 M values1 sum5 k7 f2_0 f2_1) k2
def Z16 {ρ : Type} (N : Nat) (values1 : List Int) (sum5 : Int) (k7 : Int) (f2_0 : Int) (f2_1 : List (List Int × Int)) (k2 : Int → Option ρ) : Option ρ := Z16L N k2 N values1 sum5 k7 f2_0 f2_1
def Z15 {ρ : Type} (N : Nat) (values1 : List Int) (sum5 : Int) (k7 : Int) (f2_0 : Int) (f2_1 : List (List Int × Int)) (kn : Int → Option ρ) : Option ρ := Z16 N values1 sum5 k7 f2_0 f2_1 kn
def Z13 {ρ : Type} (N : Nat) (values1 : List Int) (sum5 : Int) (f2_0 : Int) (f2_1 : List (List Int × Int)) (kn : Int → Option ρ) : Option ρ := Z14 N values1 sum5 f2_0 f2_1 (fun values1 sum5 k7 f2_0 f2_1 => Z15 N values1 sum5 k7 f2_0 f2_1 kn)
def Z31 {ρ : Type} (N : Nat) (sum5 : Int) (kr : Int → Option ρ) : Option ρ :=
 kr sum5
def Z12 {ρ : Type} (N : Nat) (values1 : List Int) (sum5 : Int) (f2_0 : Int) (f2_1 : List (List Int × Int)) (kr : Int → Option ρ) : Option ρ := Z13 N values1 sum5 f2_0 f2_1 (fun sum5 => Z31 N sum5 kr)
def Z6 {ρ : Type} (N : Nat) (values1 : List Int) (sum5 : Int) (f2_0 : Int) (f2_1 : List (List Int × Int)) (kr : Int → Option ρ) : Option ρ := Z7 N values1 sum5 f2_0 f2_1 (fun values1 sum5 f2_0 f2_1 => Z12 N values1 sum5 f2_0 f2_1 kr) kr
def Z4 {ρ : Type} (N : Nat) (values1 : List Int) (f2_0 : Int) (f2_1 : List (List Int × Int)) (kr : Int → Option ρ) : Option ρ := Z5 N values1 f2_0 f2_1 (fun values1 sum5 f2_0 f2_1 => Z6 N values1 sum5 f2_0 f2_1 kr)
def Z2 {ρ : Type} (N : Nat) (values1 : List Int) (f2_0 : Int) (f2_1 : List (List Int × Int)) (kr : Int → Option ρ) : Option ρ := Z3 N values1 f2_0 f2_1 (fun values1 f2_0 f2_1 => Z4 N values1 f2_0 f2_1 kr) kr
def Z0 {ρ : Type} (N : Nat) (f0 : Int × List (List Int × Int)) (values1 : List Int) (kr : Int → Option ρ) : Option ρ := Z1 N f0 values1 (fun values1 f2_0 f2_1 => Z2 N values1 f2_0 f2_1 kr)
def Spec : Prop := ∀  (f0 : Int × List (List Int × Int)) (values1 : List Int), Ty.bd (.pair (.int .i64) (.sl 0 (.pair (.sl 0 (.int .i64)) (.int .i64)))) f0 → Ty.bd (.sl 0 (.int .i64)) values1 → ∃ N0, ∀ N, N0 ≤ N → Z0 N f0 values1 (fun t4 => some ((), (t4, ()))) = some ((), ((g f0 values1), ()))

theorem loop1 {ρ : Type} (N : Nat) (k0 : List Int → Int → Int → (List (List Int × Int)) → Option ρ) (kr : Int → Option ρ) (v : Int) (l : List (List Int × Int)) (vs : List Int) (hv : (vs.length : Int) = v) (hb : vs.length ≤ maxLen) : ∀ (M j : Nat), j ≤ vs.length → vs.length - j < M →
    Z10L N k0 kr M vs 0 (j : Int) v l = cond ((vs.drop j).any fun v => decide (resK v = 0)) (kr (-1)) (k0 vs 0 v l) := by
  intro M
  induction M with
  | zero => intro j _ h; omega
  | succ M ih =>
    intro j hj hM
    simp only [Z10L, Z11]
    by_cases h : j < vs.length
    · rw [ct (dt (by omega)), ct (inB_nat h), Int.toNat_natCast, w64_succ (by omega), drop_getD 0 h, List.any_cons, ih (j + 1) h (by omega)]
      by_cases hz : resK (vs.getD j 0) = 0
      · rw [ct (show decide (spec_l2Residue.g (vs.getD j 0) = 0) = true from dt hz), dt hz]; rfl
      · rw [cf (show decide (spec_l2Residue.g (vs.getD j 0) = 0) = false from df hz), df hz]; rfl
    · rw [cf (df (by omega)), List.drop_of_length_le (by omega)]; rfl
theorem inner {ρ : Type} (N : Nat) (k4 : List Int → Int → Int → Int → Int → (List (List Int × Int)) → Option ρ) (l : List (List Int × Int)) (vs : List Int) (hb : vs.length ≤ maxLen) (s : Int) (k : Nat) (hk : k < l.length) (he : (l.getD k ([], 0)).1.length = vs.length) (hr : ∀ i, -20 ≤ (l.getD k ([], 0)).1.getD i 0 ∧ (l.getD k ([], 0)).1.getD i 0 ≤ 20) : ∀ (M j : Nat) (x : Int), 0 ≤ x ∧ x < 32003 → j ≤ vs.length → vs.length - j < M →
    Z27L N k4 M vs s (k : Int) x (j : Int) (vs.length : Int) l = k4 vs s (k : Int) (monK vs ((l.getD k ([], 0)).1.drop j) j x) (vs.length : Int) l := by
  intro M
  induction M with
  | zero => intro j _ _ _ h; omega
  | succ M ih =>
    intro j x hx hj hM
    simp only [Z27L, Z28]
    by_cases h : j < vs.length
    · have hbd := hr j
      have hP : spec_l2Power.P (spec_l2Residue.g (vs.getD j 0)) ((l.getD k ([], 0)).1.getD j 0) = true := by
        have := resK_range (vs.getD j 0)
        show spec_l2Power.P (resK (vs.getD j 0)) ((l.getD k ([], 0)).1.getD j 0) = true
        simp only [spec_l2Power.P, Bool.and_eq_true, decide_eq_true_eq]
        exact ⟨this.1, this.2, by omega, by omega⟩
      have hpr := prod_range hx (powK_range (resK (vs.getD j 0)) ((l.getD k ([], 0)).1.getD j 0))
      have e : spec_l2Power.g (spec_l2Residue.g (vs.getD j 0)) ((l.getD k ([], 0)).1.getD j 0) = powK (resK (vs.getD j 0)) ((l.getD k ([], 0)).1.getD j 0) := rfl
      rw [ct (dt (by omega)), ct (inB_nat h), ct (inB_nat hk)]
      simp only [Int.toNat_natCast]
      rw [ct (inB_nat (by omega)), ct hP, ct rfl, e, w64_id (by omega) (by omega), tm hpr.1, w64_succ (by omega), drop_getD 0 (by omega), monK]
      exact ih (j + 1) _ (by omega) h (by omega)
    · rw [cf (df (by omega)), List.drop_of_length_le (by omega), monK]
theorem loop2 {ρ : Type} (N : Nat) (k2 : Int → Option ρ) (l : List (List Int × Int)) (hl : l.length ≤ maxLen) (vs : List Int) (hb : vs.length ≤ maxLen) (hN : vs.length < N) (he : ∀ t ∈ l, t.1.length = vs.length ∧ ∀ i, -20 ≤ t.1.getD i 0 ∧ t.1.getD i 0 ≤ 20) : ∀ (M k : Nat) (s : Int), 0 ≤ s ∧ s < 32003 → k ≤ l.length → l.length - k < M →
    Z16L N k2 M vs s (k : Int) (vs.length : Int) l = k2 (sumK vs (l.drop k) s) := by
  intro M
  induction M with
  | zero => intro k _ _ _ h; omega
  | succ M ih =>
    intro k s hs hk hM
    simp only [Z16L, Z17, Z18]
    by_cases h : k < l.length
    · obtain ⟨h1, h2⟩ := he _ (getD_mem ([], 0) h)
      rw [ct (dt (by omega))]
      simp only [Z19, Z20, Z21, Z22]
      rw [ct (inB_nat h)]
      simp only [Z23, Z24, Z25, Z26, Z27, Int.toNat_natCast]
      have hrr := resK_range (l.getD k ([], 0)).2
      have hin := inner (ρ := ρ) N (fun values1 sum5 k7 x8 f2_0 f2_1 => Z29 N values1 sum5 k7 x8 f2_0 f2_1 (fun values1 sum5 k7 f2_0 f2_1 => Z30 N values1 sum5 k7 f2_0 f2_1 (fun values1 sum5 k7 f2_0 f2_1 => Z16L N k2 M values1 sum5 k7 f2_0 f2_1))) l vs hb s k h h1 h2 N 0 (resK (l.getD k ([], 0)).2) hrr (by omega) (by omega)
      rw [show ((0 : Nat) : Int) = 0 from rfl] at hin
      rw [show spec_l2Residue.g (l.getD k ([], 0)).2 = resK (l.getD k ([], 0)).2 from rfl, hin, List.drop_zero]
      have hmr := monK_range vs (l.getD k ([], 0)).1 0 _ hrr
      simp only [Z29, Z30]
      rw [ct rfl, w64_id (by omega) (by omega), tm (by omega), w64_succ (by omega), drop_getD ([], 0) h, sumK]
      exact ih (k + 1) _ (by omega) h (by omega)
    · rw [cf (df (by omega)), List.drop_of_length_le (by omega), sumK]
theorem ok : Spec := fun f vs hb hv => ⟨f.2.length + vs.length + 10, fun N hN => by
  have hvl : vs.length ≤ maxLen := hv.1
  simp only [Z0, Z1, Z2, Z3, spec_l2Right.g, g, evalK]
  have hval : spec_l2Right.g (f.1, f.2) = lokK f := rfl
  cases h1 : lokK f
  · simp [lk_eq, h1]
  by_cases h2 : (vs.length : Int) = f.1
  · rw [cf' (by simp [lk_eq, h1]), cf (nf h2)]
    simp only [Z4, Z5, Z6, Z7, Z8, Z9, Z10]
    have l1 := loop1 (ρ := Unit × Int × Unit) N (fun values1 sum5 f2_0 f2_1 => Z12 N values1 sum5 f2_0 f2_1 (fun t4 => some ((), (t4, ())))) (fun t4 => some ((), (t4, ()))) f.1 f.2 vs h2 hvl N 0 (by omega) (by omega)
    rw [show ((0 : Nat) : Int) = 0 from rfl] at l1
    rw [l1, List.drop_zero, dt h2]
    cases hz : vs.any fun v => decide (resK v = 0)
    · simp only [Z12, Z13, Z14, Z15, Z16, Z31, cond_false]
      have hmem := lokK_mem h1
      have l2 := loop2 (ρ := Unit × Int × Unit) N (fun sum5 => some ((), (sum5, ()))) f.2 hb.2.1 vs hvl (by omega) (fun t ht => by
        have := hmem.2.2.2 t ht
        exact ⟨by omega, this.2.1⟩) N 0 0 (by omega) (by omega) (by omega)
      rw [show ((0 : Nat) : Int) = 0 from rfl, List.drop_zero, h2] at l2
      rw [l2]
      rfl
    · rfl
  · rw [cf' (by simp [lk_eq, h1]), ct (nt h2), df h2]
    rfl⟩

end spec_EvaluateLaurent
end
end Go.Fw
set_option linter.unusedVariables false
set_option linter.unusedSimpArgs false
set_option maxRecDepth 100000
namespace Go.Fw
noncomputable section
namespace impl_within
def g (n low high : Int) : Bool := inK n low high
end impl_within
namespace impl_within
def Z0 {ρ : Type} (N : Nat) (n0 : Int) (low1 : Int) (high2 : Int) (kr : Bool → Option ρ) : Option ρ :=
 cond (lk N (decide (low1 ≤ n0)))
 (
  kr (lk N (decide (n0 ≤ high2))))
 (
  kr false)
def Spec : Prop := ∀  (n0 : Int) (low1 : Int) (high2 : Int), ∃ N0, ∀ N, N0 ≤ N → Z0 N n0 low1 high2 (fun t6 => some ((), (t6, ()))) = some ((), ((g n0 low1 high2), ()))

theorem ok : Spec := fun n low high => ⟨0, fun N hN => by
  simp only [Z0, lk_eq, g, inK]
  cases decide (low ≤ n) <;> rfl⟩

end impl_within
end
end Go.Fw
set_option linter.unusedVariables false
set_option linter.unusedSimpArgs false
set_option maxRecDepth 100000
namespace Go.Fw
noncomputable section
namespace impl_expOk_1
def g (e : Int) : Bool := !(inK e (-20) 20)
end impl_expOk_1
namespace impl_expOk_1
def Z0 {ρ : Type} (N : Nat) (e0 : Int) (kr : Bool → Option ρ) : Option ρ :=
 kr (!(lk N ((impl_within.g e0 (-20) 20))))
def Spec : Prop := ∀  (e0 : Int), ∃ N0, ∀ N, N0 ≤ N → Z0 N e0 (fun t2 => some ((), (t2, ()))) = some ((), ((g e0), ()))

theorem ok : Spec := fun e => ⟨0, fun N hN => by simp only [Z0, lk_eq, g, impl_within.g]⟩

end impl_expOk_1
end
end Go.Fw
set_option linter.unusedVariables false
set_option linter.unusedSimpArgs false
set_option maxRecDepth 100000
namespace Go.Fw
noncomputable section
namespace slices_IndexFunc_int_int_expOk
def go (p : Int → Bool) : List Int → Nat → Int
  | [], _ => -1
  | x :: xs, j => if p x = true then (j : Int) else go p xs (j + 1)
def g (s : List Int) (_ : Unit) : Int := go impl_expOk_1.g s 0
end slices_IndexFunc_int_int_expOk
namespace slices_IndexFunc_int_int_expOk
def Z1 {ρ : Type} (N : Nat) (s0 : List Int) (f1 : Unit) (kn : List Int → Option ρ) : Option ρ :=
 kn s0
def Z4 {ρ : Type} (N : Nat) (s0 : List Int) (kn : List Int → Int → Int → Option ρ) : Option ρ :=
 kn s0 (s0.length : Int) 0
def Z7 {ρ : Type} (N : Nat) (s0 : List Int) (t7 : Int) (t8 : Int) (kn : List Int → Int → Int → Option ρ) (k0 : Option ρ) (kr : Int → Option ρ) : Option ρ :=
 cond (lk N (decide (t8 < t7)))
 (
  cond (lk N (inB t8 s0.length)) (
   cond (lk N ((impl_expOk_1.g (s0.getD t8.toNat 0))))
   (
    kr t8)
   (
    kn s0 t7 (w64 (t8 + 1)))) none)
 (
  k0)
def Z6L {ρ : Type} (N : Nat) (k0 : Option ρ) (kr : Int → Option ρ) : Nat → List Int → Int → Int → Option ρ
  | 0, _, _, _ => none
  | M + 1, s0, t7, t8 => Z7 N s0 t7 t8 (fun s0 t7 t8 => Z6L N k0 kr M s0 t7 t8) k0 kr
def Z6 {ρ : Type} (N : Nat) (s0 : List Int) (t7 : Int) (t8 : Int) (k0 : Option ρ) (kr : Int → Option ρ) : Option ρ := Z6L N k0 kr N s0 t7 t8
def Z5 {ρ : Type} (N : Nat) (s0 : List Int) (t7 : Int) (t8 : Int) (kn : Option ρ) (kr : Int → Option ρ) : Option ρ := Z6 N s0 t7 t8 kn kr
def Z3 {ρ : Type} (N : Nat) (s0 : List Int) (kn : Option ρ) (kr : Int → Option ρ) : Option ρ := Z4 N s0 (fun s0 t7 t8 => Z5 N s0 t7 t8 kn kr)
def Z8 {ρ : Type} (N : Nat)  (kr : Int → Option ρ) : Option ρ :=
 kr (-1)
def Z2 {ρ : Type} (N : Nat) (s0 : List Int) (kr : Int → Option ρ) : Option ρ := Z3 N s0 (Z8 N kr) kr
def Z0 {ρ : Type} (N : Nat) (s0 : List Int) (f1 : Unit) (kr : Int → Option ρ) : Option ρ := Z1 N s0 f1 (fun s0 => Z2 N s0 kr)
def Spec : Prop := ∀  (s0 : List Int) (f1 : Unit), Ty.bd (.sl 0 (.int .i64)) s0 → ∃ N0, ∀ N, N0 ≤ N → Z0 N s0 f1 (fun t4 => some ((), (t4, ()))) = some ((), ((g s0 f1), ()))

theorem loop {ρ : Type} (N : Nat) (kr : Int → Option ρ) (a : List Int) (ha : a.length ≤ maxLen) : ∀ (M j : Nat), j ≤ a.length → a.length - j < M →
    Z6L N (kr (-1)) kr M a (a.length : Int) (j : Int) = kr (go impl_expOk_1.g (a.drop j) j) := by
  intro M
  induction M with
  | zero => intro j _ h; omega
  | succ M ih =>
    intro j hj hM
    simp only [Z6L, Z7]
    by_cases h : j < a.length
    · rw [ct (dt (by omega)), ct (inB_nat h), Int.toNat_natCast, w64_succ (by omega), ih (j + 1) h (by omega), drop_getD 0 h, go]
      cases e : impl_expOk_1.g (a.getD j 0)
      · rw [cf rfl, if_neg (by simp)]
      · rw [ct rfl, if_pos rfl]
    · rw [cf (df (by omega)), List.drop_of_length_le (by omega), go]
theorem ok : Spec := fun a _ ha => ⟨a.length + 1, fun N hN => by
  simp only [Z1, Z4, Z7, Z6, Z5, Z3, Z8, Z2, Z0]
  exact (loop N (fun t => some ((), (t, ()))) a ha.1 N 0 (by omega) (by omega)).trans rfl⟩
theorem go_pos (p : Int → Bool) : ∀ (l : List Int) (j : Nat), 0 ≤ go p l j ↔ ∃ x ∈ l, p x = true
  | [], j => by simp [go]
  | x :: xs, j => by
    rw [go]
    by_cases h : p x = true
    · rw [if_pos h]; simp [h]
    · rw [if_neg h, go_pos p xs]; simp [h]

end slices_IndexFunc_int_int_expOk
end
end Go.Fw
set_option linter.unusedVariables false
set_option linter.unusedSimpArgs false
set_option maxRecDepth 100000
namespace Go.Fw
noncomputable section
namespace slices_ContainsFunc_int_int_expOk
def g (s : List Int) (_ : Unit) : Bool := s.any impl_expOk_1.g
end slices_ContainsFunc_int_int_expOk
namespace slices_ContainsFunc_int_int_expOk
def Z0 {ρ : Type} (N : Nat) (s0 : List Int) (f1 : Unit) (kr : Bool → Option ρ) : Option ρ :=
 kr (lk N (decide (0 ≤ (slices_IndexFunc_int_int_expOk.g s0 ()))))
def Spec : Prop := ∀  (s0 : List Int) (f1 : Unit), Ty.bd (.sl 0 (.int .i64)) s0 → ∃ N0, ∀ N, N0 ≤ N → Z0 N s0 f1 (fun t4 => some ((), (t4, ()))) = some ((), ((g s0 f1), ()))

theorem ok : Spec := fun a _ ha => ⟨0, fun N hN => by
  simp only [Z0, lk_eq, g]
  have := (show 0 ≤ slices_IndexFunc_int_int_expOk.g a () ↔ ∃ x ∈ a, impl_expOk_1.g x = true from slices_IndexFunc_int_int_expOk.go_pos impl_expOk_1.g a 0)
  cases e : a.any impl_expOk_1.g
  · rw [df (fun h => by have := this.1 h; rw [← List.any_eq_true, e] at this; cases this)]
  · rw [dt (this.2 (List.any_eq_true.1 e))]⟩

end slices_ContainsFunc_int_int_expOk
end
end Go.Fw
set_option linter.unusedVariables false
set_option linter.unusedSimpArgs false
set_option maxRecDepth 100000
namespace Go.Fw
noncomputable section
namespace impl_expOk
def g (exp : List Int) (vars : Int) : Bool := expK vars exp
end impl_expOk
namespace impl_expOk
def Z0 {ρ : Type} (N : Nat) (exp0 : List Int) (vars1 : Int) (kr : Bool → Option ρ) : Option ρ :=
 cond (lk N (decide ((exp0.length : Int) = vars1)))
 (
  kr (!(lk N ((slices_ContainsFunc_int_int_expOk.g exp0 ())))))
 (
  kr false)
def Spec : Prop := ∀  (exp0 : List Int) (vars1 : Int), Ty.bd (.sl 0 (.int .i64)) exp0 → ∃ N0, ∀ N, N0 ≤ N → Z0 N exp0 vars1 (fun t4 => some ((), (t4, ()))) = some ((), ((g exp0 vars1), ()))

theorem ok : Spec := fun exp vars hb => ⟨0, fun N hN => by
  simp only [Z0, lk_eq, g, slices_ContainsFunc_int_int_expOk.g, expK]
  by_cases h : (exp.length : Int) = vars
  · simp only [dt h, cond_true, Bool.true_and, List.not_any_eq_all_not]
    simp [impl_expOk_1.g]
  · simp only [df h, cond_false, Bool.false_and]⟩

end impl_expOk
end
end Go.Fw
set_option linter.unusedVariables false
set_option linter.unusedSimpArgs false
set_option maxRecDepth 100000
namespace Go.Fw
noncomputable section
namespace impl_coefOk
def g (c : Int) : Bool := coefK c
end impl_coefOk
namespace impl_coefOk
def Z0 {ρ : Type} (N : Nat) (c0 : Int) (kr : Bool → Option ρ) : Option ρ :=
 cond (lk N (!(decide (c0 = 0))))
 (
  kr (lk N ((impl_within.g c0 (-1000000) 1000000))))
 (
  kr false)
def Spec : Prop := ∀  (c0 : Int), ∃ N0, ∀ N, N0 ≤ N → Z0 N c0 (fun t2 => some ((), (t2, ()))) = some ((), ((g c0), ()))

theorem ok : Spec := fun c => ⟨0, fun N hN => by
  simp only [Z0, lk_eq, g, impl_within.g, coefK]
  cases decide (c = 0) <;> rfl⟩

end impl_coefOk
end
end Go.Fw
set_option linter.unusedVariables false
set_option linter.unusedSimpArgs false
set_option maxRecDepth 100000
namespace Go.Fw
noncomputable section
namespace cmp_isNaN_int
def g (_ : Int) : Bool := false
end cmp_isNaN_int
namespace cmp_isNaN_int
def Z0 {ρ : Type} (N : Nat) (x0 : Int) (kr : Bool → Option ρ) : Option ρ :=
 kr (lk N (!(decide (x0 = x0))))
def Spec : Prop := ∀  (x0 : Int), ∃ N0, ∀ N, N0 ≤ N → Z0 N x0 (fun t2 => some ((), (t2, ()))) = some ((), ((g x0), ()))

theorem ok : Spec := fun x => ⟨0, fun N hN => by simp [Z0, lk_eq, g]⟩

end cmp_isNaN_int
end
end Go.Fw
set_option linter.unusedVariables false
set_option linter.unusedSimpArgs false
set_option maxRecDepth 100000
namespace Go.Fw
noncomputable section
namespace cmp_Compare_int
def g (x y : Int) : Int := if x = y then 0 else if x < y then -1 else 1
end cmp_Compare_int
namespace cmp_Compare_int
def Z0 {ρ : Type} (N : Nat) (x0 : Int) (y1 : Int) (kr : Int → Option ρ) : Option ρ :=
 cond (lk N ((cmp_isNaN_int.g x0)))
 (
  cond (lk N ((cmp_isNaN_int.g y1)))
  (
   kr 0)
  (
   kr (-1)))
 (
  cond (lk N ((cmp_isNaN_int.g y1)))
  (
   kr 1)
  (
   cond (lk N (decide (x0 < y1)))
   (
    kr (-1))
   (
    cond (lk N (decide (y1 < x0)))
    (
     kr 1)
    (
     kr 0))))
def Spec : Prop := ∀  (x0 : Int) (y1 : Int), ∃ N0, ∀ N, N0 ≤ N → Z0 N x0 y1 (fun t4 => some ((), (t4, ()))) = some ((), ((g x0 y1), ()))

theorem ok : Spec := fun x y => ⟨0, fun N hN => by
  simp only [Z0, lk_eq, g, cmp_isNaN_int.g, cond_false]
  by_cases h : x < y
  · rw [dt h, if_neg (by omega), if_pos h]; rfl
  · rw [df h]
    by_cases h2 : y < x
    · rw [dt h2, if_neg (by omega), if_neg h]; rfl
    · rw [df h2, if_pos (by omega)]; rfl⟩

end cmp_Compare_int
end
end Go.Fw
set_option linter.unusedVariables false
set_option linter.unusedSimpArgs false
set_option maxRecDepth 100000
namespace Go.Fw
noncomputable section
namespace slices_Compare_int_int
abbrev g (a b : List Int) : Int := lexCmp a b
end slices_Compare_int_int
namespace slices_Compare_int_int
def Z1 {ρ : Type} (N : Nat) (s10 : List Int) (s21 : List Int) (kn : List Int → List Int → Option ρ) : Option ρ :=
 kn s10 s21
def Z4 {ρ : Type} (N : Nat) (s10 : List Int) (s21 : List Int) (kn : List Int → List Int → List Int → Int → Int → Option ρ) : Option ρ :=
 kn s10 s21 s10 (s10.length : Int) 0
def Z7 {ρ : Type} (N : Nat) (s10 : List Int) (s21 : List Int) (t9 : List Int) (t10 : Int) (t11 : Int) (kn : List Int → List Int → List Int → Int → Int → Option ρ) (k0 : List Int → List Int → Option ρ) (kr : Int → Option ρ) : Option ρ :=
 cond (lk N (decide (t11 < t10)))
 (
  cond (lk N (inB t11 t9.length)) (
   cond (lk N (decide ((s21.length : Int) ≤ t11)))
   (
    kr 1)
   (
    cond (lk N (inB t11 s21.length)) (
     cond (lk N (!(decide ((cmp_Compare_int.g (t9.getD t11.toNat 0) (s21.getD t11.toNat 0)) = 0))))
     (
      kr (cmp_Compare_int.g (t9.getD t11.toNat 0) (s21.getD t11.toNat 0)))
     (
      kn s10 s21 t9 t10 (w64 (t11 + 1)))) none)) none)
 (
  k0 s10 s21)
def Z6L {ρ : Type} (N : Nat) (k0 : List Int → List Int → Option ρ) (kr : Int → Option ρ) : Nat → List Int → List Int → List Int → Int → Int → Option ρ
  | 0, _, _, _, _, _ => none
  | M + 1, s10, s21, t9, t10, t11 => Z7 N s10 s21 t9 t10 t11 (fun s10 s21 t9 t10 t11 => Z6L N k0 kr M s10 s21 t9 t10 t11) k0 kr
def Z6 {ρ : Type} (N : Nat) (s10 : List Int) (s21 : List Int) (t9 : List Int) (t10 : Int) (t11 : Int) (k0 : List Int → List Int → Option ρ) (kr : Int → Option ρ) : Option ρ := Z6L N k0 kr N s10 s21 t9 t10 t11
def Z5 {ρ : Type} (N : Nat) (s10 : List Int) (s21 : List Int) (t9 : List Int) (t10 : Int) (t11 : Int) (kn : List Int → List Int → Option ρ) (kr : Int → Option ρ) : Option ρ := Z6 N s10 s21 t9 t10 t11 kn kr
def Z3 {ρ : Type} (N : Nat) (s10 : List Int) (s21 : List Int) (kn : List Int → List Int → Option ρ) (kr : Int → Option ρ) : Option ρ := Z4 N s10 s21 (fun s10 s21 t9 t10 t11 => Z5 N s10 s21 t9 t10 t11 kn kr)
def Z8 {ρ : Type} (N : Nat) (s10 : List Int) (s21 : List Int) (kr : Int → Option ρ) : Option ρ :=
 cond (lk N (decide ((s10.length : Int) < (s21.length : Int))))
 (
  kr (-1))
 (
  kr 0)
def Z2 {ρ : Type} (N : Nat) (s10 : List Int) (s21 : List Int) (kr : Int → Option ρ) : Option ρ := Z3 N s10 s21 (fun s10 s21 => Z8 N s10 s21 kr) kr
def Z0 {ρ : Type} (N : Nat) (s10 : List Int) (s21 : List Int) (kr : Int → Option ρ) : Option ρ := Z1 N s10 s21 (fun s10 s21 => Z2 N s10 s21 kr)
def Spec : Prop := ∀  (s10 : List Int) (s21 : List Int), Ty.bd (.sl 0 (.int .i64)) s10 → Ty.bd (.sl 0 (.int .i64)) s21 → ∃ N0, ∀ N, N0 ≤ N → Z0 N s10 s21 (fun t4 => some ((), (t4, ()))) = some ((), ((g s10 s21), ()))

theorem loop {ρ : Type} (N : Nat) (k0 : List Int → List Int → Option ρ) (kr : Int → Option ρ) (a b : List Int) (ha : a.length ≤ maxLen) (h0 : k0 a b = if a.length < b.length then kr (-1) else kr 0) : ∀ (M j : Nat), j ≤ a.length → j ≤ b.length → a.length - j < M →
    Z6L N k0 kr M a b a (a.length : Int) (j : Int) = kr (lexCmp (a.drop j) (b.drop j)) := by
  intro M
  induction M with
  | zero => intro j _ _ h; omega
  | succ M ih =>
    intro j hj hb hM
    simp only [Z6L, Z7]
    by_cases h : j < a.length
    · rw [ct (dt (by omega)), ct (inB_nat h), drop_getD 0 h]
      by_cases h2 : j < b.length
      · rw [cf (df (by omega)), ct (inB_nat h2), Int.toNat_natCast, w64_succ (by omega), drop_getD (l := b) 0 h2, lexCmp, ih (j + 1) h h2 (by omega)]
        by_cases e : a.getD j 0 = b.getD j 0
        · rw [cf (nf (by rw [cmp_Compare_int.g, if_pos e])), if_pos e]
        · rw [ct (nt (by simp only [cmp_Compare_int.g, if_neg e]; split <;> omega)), if_neg e]
          simp only [cmp_Compare_int.g, if_neg e]
      · rw [ct (dt (by omega)), List.drop_of_length_le (l := b) (by omega)]
        rfl
    · rw [cf (df (by omega)), List.drop_of_length_le (by omega), h0]
      by_cases h2 : j < b.length
      · rw [if_pos (by omega), drop_getD (l := b) 0 h2]; rfl
      · rw [if_neg (by omega), List.drop_of_length_le (l := b) (by omega)]; rfl
theorem ok : Spec := fun a b ha hb => ⟨a.length + 1, fun N hN => by
  simp only [Z1, Z4, Z7, Z6, Z5, Z3, Z8, Z2, Z0]
  refine (loop N _ (fun t => some ((), (t, ()))) a b ha.1 ?_ N 0 (by omega) (by omega) (by omega)).trans rfl
  by_cases h : a.length < b.length
  · rw [ct (dt (by omega)), if_pos h]
  · rw [cf (df (by omega)), if_neg h]⟩

end slices_Compare_int_int
end
end Go.Fw
set_option linter.unusedVariables false
set_option linter.unusedSimpArgs false
set_option maxRecDepth 100000
namespace Go.Fw
noncomputable section
namespace impl_LaurentOk
def g (f : Int × List (List Int × Int)) : Bool := lokK f
end impl_LaurentOk
namespace impl_LaurentOk
def Z1 {ρ : Type} (N : Nat) (f0 : Int × List (List Int × Int)) (kn : Int → (List (List Int × Int)) → Option ρ) : Option ρ :=
 kn f0.1 f0.2
def Z3 {ρ : Type} (N : Nat) (f1_0 : Int) (f1_1 : List (List Int × Int)) (kn : Int → (List (List Int × Int)) → Option ρ) (kr : Bool → Option ρ) : Option ρ :=
 cond (!(lk N ((impl_within.g f1_0 1 8))))
 (
  kr false)
 (
  cond (lk N (decide (600 < (f1_1.length : Int))))
  (
   kr false)
  (
   kn f1_0 f1_1))
def Z6 {ρ : Type} (N : Nat) (f1_0 : Int) (f1_1 : List (List Int × Int)) (kn : (List (List Int × Int)) → Int → Int → Int → (List (List Int × Int)) → Option ρ) : Option ρ :=
 kn f1_1 (f1_1.length : Int) 0 f1_0 f1_1
def Z9 {ρ : Type} (N : Nat) (t16 : List (List Int × Int)) (t17 : Int) (t18 : Int) (f1_0 : Int) (f1_1 : List (List Int × Int)) (kn : (List (List Int × Int)) → Int → Int → Int → (List (List Int × Int)) → Option ρ) (k0 : Option ρ) (kr : Bool → Option ρ) : Option ρ :=
 cond (lk N (decide (t18 < t17)))
 (
  cond (lk N (inB t18 t16.length)) (
   cond (!(lk N ((impl_expOk.g (t16.getD t18.toNat ([], 0)).1 f1_0))))
   (
    kr false)
   (
    cond (!(lk N ((impl_coefOk.g (t16.getD t18.toNat ([], 0)).2))))
    (
     kr false)
    (
     cond (lk N (decide (0 < t18)))
     (
      cond (lk N (inB (w64 (t18 - 1)) f1_1.length)) (
       cond (lk N (decide ((slices_Compare_int_int.g (f1_1.getD (w64 (t18 - 1)).toNat ([], 0)).1 (t16.getD t18.toNat ([], 0)).1) ≤ 0)))
       (
        kr false)
       (
        kn t16 t17 (w64 (t18 + 1)) f1_0 f1_1)) none)
     (
      kn t16 t17 (w64 (t18 + 1)) f1_0 f1_1)))) none)
 (
  k0)
def Z8L {ρ : Type} (N : Nat) (k0 : Option ρ) (kr : Bool → Option ρ) : Nat → (List (List Int × Int)) → Int → Int → Int → (List (List Int × Int)) → Option ρ
  | 0, _, _, _, _, _ => none
  | M + 1, t16, t17, t18, f1_0, f1_1 => Z9 N t16 t17 t18 f1_0 f1_1 (fun t16 t17 t18 f1_0 f1_1 => Z8L N k0 kr M t16 t17 t18 f1_0 f1_1) k0 kr
def Z8 {ρ : Type} (N : Nat) (t16 : List (List Int × Int)) (t17 : Int) (t18 : Int) (f1_0 : Int) (f1_1 : List (List Int × Int)) (k0 : Option ρ) (kr : Bool → Option ρ) : Option ρ := Z8L N k0 kr N t16 t17 t18 f1_0 f1_1
def Z7 {ρ : Type} (N : Nat) (t16 : List (List Int × Int)) (t17 : Int) (t18 : Int) (f1_0 : Int) (f1_1 : List (List Int × Int)) (kn : Option ρ) (kr : Bool → Option ρ) : Option ρ := Z8 N t16 t17 t18 f1_0 f1_1 kn kr
def Z5 {ρ : Type} (N : Nat) (f1_0 : Int) (f1_1 : List (List Int × Int)) (kn : Option ρ) (kr : Bool → Option ρ) : Option ρ := Z6 N f1_0 f1_1 (fun t16 t17 t18 f1_0 f1_1 => Z7 N t16 t17 t18 f1_0 f1_1 kn kr)
def Z10 {ρ : Type} (N : Nat)  (kr : Bool → Option ρ) : Option ρ :=
 kr true
def Z4 {ρ : Type} (N : Nat) (f1_0 : Int) (f1_1 : List (List Int × Int)) (kr : Bool → Option ρ) : Option ρ := Z5 N f1_0 f1_1 (Z10 N kr) kr
def Z2 {ρ : Type} (N : Nat) (f1_0 : Int) (f1_1 : List (List Int × Int)) (kr : Bool → Option ρ) : Option ρ := Z3 N f1_0 f1_1 (fun f1_0 f1_1 => Z4 N f1_0 f1_1 kr) kr
def Z0 {ρ : Type} (N : Nat) (f0 : Int × List (List Int × Int)) (kr : Bool → Option ρ) : Option ρ := Z1 N f0 (fun f1_0 f1_1 => Z2 N f1_0 f1_1 kr)
def Spec : Prop := ∀  (f0 : Int × List (List Int × Int)), Ty.bd (.pair (.int .i64) (.sl 0 (.pair (.sl 0 (.int .i64)) (.int .i64)))) f0 → ∃ N0, ∀ N, N0 ≤ N → Z0 N f0 (fun t2 => some ((), (t2, ()))) = some ((), ((g f0), ()))

theorem loop {ρ : Type} (N : Nat) (kr : Bool → Option ρ) (v : Int) (l : List (List Int × Int)) (hl : l.length ≤ maxLen) : ∀ (M j : Nat), j ≤ l.length → l.length - j < M →
    Z8L N (kr true) kr M l (l.length : Int) (j : Int) v l = kr (termsK v (l.drop j) (prevE l j)) := by
  intro M
  induction M with
  | zero => intro j _ h; omega
  | succ M ih =>
    intro j hj hM
    simp only [Z8L, Z9]
    by_cases h : j < l.length
    · rw [ct (dt (by omega)), ct (inB_nat h), Int.toNat_natCast, w64_succ (by omega), drop_getD ([], 0) h, termsK, ih (j + 1) h (by omega)]
      simp only [lk_eq, impl_expOk.g, impl_coefOk.g]
      cases expK v (l.getD j ([], 0)).1
      · rfl
      cases coefK (l.getD j ([], 0)).2
      · rfl
      simp only [Bool.not_true, cond_false, Bool.true_and]
      cases j with
      | zero => rfl
      | succ j =>
        rw [dt (show (0 : Int) < ((j + 1 : Nat) : Int) by omega), show w64 (((j + 1 : Nat) : Int) - 1) = (j : Int) by rw [w64_id (by omega) (by rw [maxLen_val] at hl; omega)]; omega, inB_nat (by omega)]
        simp only [cond_true, Int.toNat_natCast, slices_Compare_int_int.g, lexCmp_le, prevE, belowK]
        cases lexLt (l.getD (j + 1) ([], 0)).1 (l.getD j ([], 0)).1 <;> rfl
    · rw [cf (df (by omega)), List.drop_of_length_le (by omega), termsK]
theorem ok : Spec := fun f hb => ⟨f.2.length + 1, fun N hN => by
  simp only [Z1, Z3, Z6, Z9, Z8, Z7, Z5, Z10, Z4, Z2, Z0, g, lokK, impl_within.g]
  cases h1 : inK f.1 1 8
  · simp [lk_eq]
  by_cases h2 : (600 : Int) < f.2.length
  · rw [cf' (by simp [lk_eq]), ct (dt h2), df (by omega)]
    simp
  · rw [cf' (by simp [lk_eq]), cf (df h2), dt (show f.2.length ≤ 600 by omega)]
    exact (loop N (fun t => some ((), (t, ()))) _ f.2 hb.2.1 N 0 (by omega) (by omega)).trans rfl⟩

end impl_LaurentOk
end
end Go.Fw
set_option linter.unusedVariables false
set_option linter.unusedSimpArgs false
set_option maxRecDepth 100000
namespace Go.Fw
noncomputable section
namespace impl_residue
def g (n : Int) : Int := resK n
end impl_residue
namespace impl_residue
def Z0 {ρ : Type} (N : Nat) (n0 : Int) (kr : Int → Option ρ) : Option ρ :=
 cond (lk N (true)) (
  cond (lk N (true)) (
   kr (Int.tmod (w64 ((Int.tmod n0 32003) + 32003)) 32003)) none) none
def Spec : Prop := ∀  (n0 : Int), ∃ N0, ∀ N, N0 ≤ N → Z0 N n0 (fun t2 => some ((), (t2, ()))) = some ((), ((g n0), ()))

theorem ok : Spec := fun n => ⟨0, fun N hN => by
  simp only [Z0, lk_eq, cond_true]
  rfl⟩

end impl_residue
end
end Go.Fw
set_option linter.unusedVariables false
set_option linter.unusedSimpArgs false
set_option maxRecDepth 100000
namespace Go.Fw
noncomputable section
namespace impl_EvaluateLaurent_1
def g (v : Int) : Bool := decide (resK v = 0)
end impl_EvaluateLaurent_1
namespace impl_EvaluateLaurent_1
def Z0 {ρ : Type} (N : Nat) (v0 : Int) (kr : Bool → Option ρ) : Option ρ :=
 kr (lk N (decide ((impl_residue.g v0) = 0)))
def Spec : Prop := ∀  (v0 : Int), ∃ N0, ∀ N, N0 ≤ N → Z0 N v0 (fun t2 => some ((), (t2, ()))) = some ((), ((g v0), ()))

theorem ok : Spec := fun n => ⟨0, fun N hN => by
  simp only [Z0, lk_eq]
  rfl⟩

end impl_EvaluateLaurent_1
end
end Go.Fw
set_option linter.unusedVariables false
set_option linter.unusedSimpArgs false
set_option maxRecDepth 100000
namespace Go.Fw
noncomputable section
namespace slices_IndexFunc_int_int_Evaluate
def go (p : Int → Bool) : List Int → Nat → Int
  | [], _ => -1
  | x :: xs, j => if p x = true then (j : Int) else go p xs (j + 1)
def g (s : List Int) (_ : Unit) : Int := go impl_EvaluateLaurent_1.g s 0
end slices_IndexFunc_int_int_Evaluate
namespace slices_IndexFunc_int_int_Evaluate
def Z1 {ρ : Type} (N : Nat) (s0 : List Int) (f1 : Unit) (kn : List Int → Option ρ) : Option ρ :=
 kn s0
def Z4 {ρ : Type} (N : Nat) (s0 : List Int) (kn : List Int → Int → Int → Option ρ) : Option ρ :=
 kn s0 (s0.length : Int) 0
def Z7 {ρ : Type} (N : Nat) (s0 : List Int) (t7 : Int) (t8 : Int) (kn : List Int → Int → Int → Option ρ) (k0 : Option ρ) (kr : Int → Option ρ) : Option ρ :=
 cond (lk N (decide (t8 < t7)))
 (
  cond (lk N (inB t8 s0.length)) (
   cond (lk N ((impl_EvaluateLaurent_1.g (s0.getD t8.toNat 0))))
   (
    kr t8)
   (
    kn s0 t7 (w64 (t8 + 1)))) none)
 (
  k0)
def Z6L {ρ : Type} (N : Nat) (k0 : Option ρ) (kr : Int → Option ρ) : Nat → List Int → Int → Int → Option ρ
  | 0, _, _, _ => none
  | M + 1, s0, t7, t8 => Z7 N s0 t7 t8 (fun s0 t7 t8 => Z6L N k0 kr M s0 t7 t8) k0 kr
def Z6 {ρ : Type} (N : Nat) (s0 : List Int) (t7 : Int) (t8 : Int) (k0 : Option ρ) (kr : Int → Option ρ) : Option ρ := Z6L N k0 kr N s0 t7 t8
def Z5 {ρ : Type} (N : Nat) (s0 : List Int) (t7 : Int) (t8 : Int) (kn : Option ρ) (kr : Int → Option ρ) : Option ρ := Z6 N s0 t7 t8 kn kr
def Z3 {ρ : Type} (N : Nat) (s0 : List Int) (kn : Option ρ) (kr : Int → Option ρ) : Option ρ := Z4 N s0 (fun s0 t7 t8 => Z5 N s0 t7 t8 kn kr)
def Z8 {ρ : Type} (N : Nat)  (kr : Int → Option ρ) : Option ρ :=
 kr (-1)
def Z2 {ρ : Type} (N : Nat) (s0 : List Int) (kr : Int → Option ρ) : Option ρ := Z3 N s0 (Z8 N kr) kr
def Z0 {ρ : Type} (N : Nat) (s0 : List Int) (f1 : Unit) (kr : Int → Option ρ) : Option ρ := Z1 N s0 f1 (fun s0 => Z2 N s0 kr)
def Spec : Prop := ∀  (s0 : List Int) (f1 : Unit), Ty.bd (.sl 0 (.int .i64)) s0 → ∃ N0, ∀ N, N0 ≤ N → Z0 N s0 f1 (fun t4 => some ((), (t4, ()))) = some ((), ((g s0 f1), ()))

theorem loop {ρ : Type} (N : Nat) (kr : Int → Option ρ) (a : List Int) (ha : a.length ≤ maxLen) : ∀ (M j : Nat), j ≤ a.length → a.length - j < M →
    Z6L N (kr (-1)) kr M a (a.length : Int) (j : Int) = kr (go impl_EvaluateLaurent_1.g (a.drop j) j) := by
  intro M
  induction M with
  | zero => intro j _ h; omega
  | succ M ih =>
    intro j hj hM
    simp only [Z6L, Z7]
    by_cases h : j < a.length
    · rw [ct (dt (by omega)), ct (inB_nat h), Int.toNat_natCast, w64_succ (by omega), ih (j + 1) h (by omega), drop_getD 0 h, go]
      cases e : impl_EvaluateLaurent_1.g (a.getD j 0)
      · rw [cf rfl, if_neg (by simp)]
      · rw [ct rfl, if_pos rfl]
    · rw [cf (df (by omega)), List.drop_of_length_le (by omega), go]
theorem ok : Spec := fun a _ ha => ⟨a.length + 1, fun N hN => by
  simp only [Z1, Z4, Z7, Z6, Z5, Z3, Z8, Z2, Z0]
  exact (loop N (fun t => some ((), (t, ()))) a ha.1 N 0 (by omega) (by omega)).trans rfl⟩
theorem go_pos (p : Int → Bool) : ∀ (l : List Int) (j : Nat), 0 ≤ go p l j ↔ ∃ x ∈ l, p x = true
  | [], j => by simp [go]
  | x :: xs, j => by
    rw [go]
    by_cases h : p x = true
    · rw [if_pos h]; simp [h]
    · rw [if_neg h, go_pos p xs]; simp [h]

end slices_IndexFunc_int_int_Evaluate
end
end Go.Fw
set_option linter.unusedVariables false
set_option linter.unusedSimpArgs false
set_option maxRecDepth 100000
namespace Go.Fw
noncomputable section
namespace slices_ContainsFunc_int_int_Evaluate
def g (s : List Int) (_ : Unit) : Bool := s.any impl_EvaluateLaurent_1.g
end slices_ContainsFunc_int_int_Evaluate
namespace slices_ContainsFunc_int_int_Evaluate
def Z0 {ρ : Type} (N : Nat) (s0 : List Int) (f1 : Unit) (kr : Bool → Option ρ) : Option ρ :=
 kr (lk N (decide (0 ≤ (slices_IndexFunc_int_int_Evaluate.g s0 ()))))
def Spec : Prop := ∀  (s0 : List Int) (f1 : Unit), Ty.bd (.sl 0 (.int .i64)) s0 → ∃ N0, ∀ N, N0 ≤ N → Z0 N s0 f1 (fun t4 => some ((), (t4, ()))) = some ((), ((g s0 f1), ()))

theorem ok : Spec := fun a _ ha => ⟨0, fun N hN => by
  simp only [Z0, lk_eq, g]
  have := (show 0 ≤ slices_IndexFunc_int_int_Evaluate.g a () ↔ ∃ x ∈ a, impl_EvaluateLaurent_1.g x = true from slices_IndexFunc_int_int_Evaluate.go_pos impl_EvaluateLaurent_1.g a 0)
  cases e : a.any impl_EvaluateLaurent_1.g
  · rw [df (fun h => by have := this.1 h; rw [← List.any_eq_true, e] at this; cases this)]
  · rw [dt (this.2 (List.any_eq_true.1 e))]⟩

end slices_ContainsFunc_int_int_Evaluate
end
end Go.Fw
set_option linter.unusedVariables false
set_option linter.unusedSimpArgs false
set_option maxRecDepth 100000
namespace Go.Fw
noncomputable section
namespace impl_inverse
def P (x : Int) : Bool := decide (0 ≤ x) && decide (x < 32003)
def g (x : Int) : Int := pmod x 32001
end impl_inverse
namespace impl_inverse
def Z1 {ρ : Type} (N : Nat) (x0 : Int) (kn : Int → Option ρ) : Option ρ :=
 kn x0
def Z3 {ρ : Type} (N : Nat) (x0 : Int) (kn : Int → Int → Option ρ) : Option ρ :=
 kn 1 x0
def Z6 {ρ : Type} (N : Nat) (out3 : Int) (base4 : Int) (kn : Int → Int → Int → Option ρ) : Option ρ :=
 kn out3 base4 32001
def Z9 {ρ : Type} (N : Nat) (out3 : Int) (base4 : Int) (n5 : Int) (kn : Int → Int → Int → Option ρ) (k0 : Int → Option ρ) : Option ρ :=
 cond (lk N (decide (0 < n5)))
 (
  cond (lk N (true)) (
   cond (lk N (decide ((Int.tmod n5 2) = 1)))
   (
    cond (lk N (true)) (
     cond (lk N (true)) (
      cond (lk N (true)) (
       kn (Int.tmod (w64 (out3 * base4)) 32003) (Int.tmod (w64 (base4 * base4)) 32003) (w64 (Int.tdiv n5 2))) none) none) none)
   (
    cond (lk N (true)) (
     cond (lk N (true)) (
      kn out3 (Int.tmod (w64 (base4 * base4)) 32003) (w64 (Int.tdiv n5 2))) none) none)) none)
 (
  k0 out3)
def Z8L {ρ : Type} (N : Nat) (k0 : Int → Option ρ) : Nat → Int → Int → Int → Option ρ
  | 0, _, _, _ => none
  | M + 1, out3, base4, n5 => Z9 N out3 base4 n5 (fun out3 base4 n5 => Z8L N k0 M out3 base4 n5) k0
def Z8 {ρ : Type} (N : Nat) (out3 : Int) (base4 : Int) (n5 : Int) (k0 : Int → Option ρ) : Option ρ := Z8L N k0 N out3 base4 n5
def Z7 {ρ : Type} (N : Nat) (out3 : Int) (base4 : Int) (n5 : Int) (kn : Int → Option ρ) : Option ρ := Z8 N out3 base4 n5 kn
def Z5 {ρ : Type} (N : Nat) (out3 : Int) (base4 : Int) (kn : Int → Option ρ) : Option ρ := Z6 N out3 base4 (fun out3 base4 n5 => Z7 N out3 base4 n5 kn)
def Z10 {ρ : Type} (N : Nat) (out3 : Int) (kr : Int → Option ρ) : Option ρ :=
 kr out3
def Z4 {ρ : Type} (N : Nat) (out3 : Int) (base4 : Int) (kr : Int → Option ρ) : Option ρ := Z5 N out3 base4 (fun out3 => Z10 N out3 kr)
def Z2 {ρ : Type} (N : Nat) (x0 : Int) (kr : Int → Option ρ) : Option ρ := Z3 N x0 (fun out3 base4 => Z4 N out3 base4 kr)
def Z0 {ρ : Type} (N : Nat) (x0 : Int) (kr : Int → Option ρ) : Option ρ := Z1 N x0 (fun x0 => Z2 N x0 kr)
def Spec : Prop := ∀  (x0 : Int), P x0 = true → ∃ N0, ∀ N, N0 ≤ N → Z0 N x0 (fun t2 => some ((), (t2, ()))) = some ((), ((g x0), ()))

theorem loop {ρ : Type} (N : Nat) (k0 : Int → Option ρ) : ∀ (M n : Nat) (x out : Int), 0 ≤ x ∧ x < 32003 → 0 ≤ out ∧ out < 32003 → n < 4611686018427387904 → n < M →
    Z8L N k0 M out x (n : Int) = k0 (out * x ^ n % 32003) := by
  intro M
  induction M with
  | zero => intro n _ _ _ _ _ h; omega
  | succ M ih =>
    intro n x out hx ho hn hM
    simp only [Z8L, Z9]
    by_cases h : n = 0
    · subst h
      rw [cf (df (by omega)), Int.pow_zero, Int.mul_one, Int.emod_eq_of_lt ho.1 ho.2]
    · have h1 := prod_range hx hx
      have h2 := prod_range ho hx
      have e1 : Int.tmod (n : Int) 2 = ((n % 2 : Nat) : Int) := rfl
      have e2 : Int.tdiv (n : Int) 2 = ((n / 2 : Nat) : Int) := rfl
      rw [ct (dt (by omega)), ct rfl, w64_id (n := x * x) (by omega) (by omega), w64_id (n := out * x) (by omega) (by omega), e2, w64_id (by omega) (by omega), tm h1.1, tm h2.1]
      by_cases hp : n % 2 = 1
      · rw [ct (dt (by rw [e1]; omega)), ct rfl, ct rfl, ct rfl, ih _ _ _ (by omega) (by omega) (by omega) (by omega), sq_odd _ _ hp]
      · rw [cf (df (by rw [e1]; omega)), ct rfl, ct rfl, ih _ _ _ (by omega) ho (by omega) (by omega), sq_even _ _ hp]
theorem ok : Spec := fun x hp => ⟨32002, fun N hN => by
  simp only [P, Bool.and_eq_true, decide_eq_true_eq] at hp
  simp only [Z1, Z3, Z6, Z9, Z8, Z7, Z5, Z10, Z4, Z2, Z0, g]
  rw [show (32001 : Int) = ((32001 : Nat) : Int) from rfl]
  have := loop N (fun t => some ((), (t, ()))) N 32001 x 1 hp (by omega) (by omega) (by omega)
  rw [this, Int.one_mul]
  rfl⟩

end impl_inverse
end
end Go.Fw
set_option linter.unusedVariables false
set_option linter.unusedSimpArgs false
set_option maxRecDepth 100000
namespace Go.Fw
noncomputable section
namespace impl_powerOf
def P (x n : Int) : Bool := decide (0 ≤ x) && (decide (x < 32003) && (decide (0 ≤ n) && decide (n < 4611686018427387904)))
def g (x n : Int) : Int := pmod x n.toNat
end impl_powerOf
namespace impl_powerOf
def Z1 {ρ : Type} (N : Nat) (x0 : Int) (n1 : Int) (kn : Int → Int → Option ρ) : Option ρ :=
 kn x0 n1
def Z3 {ρ : Type} (N : Nat) (x0 : Int) (n1 : Int) (kn : Int → Int → Int → Option ρ) : Option ρ :=
 kn x0 n1 1
def Z7 {ρ : Type} (N : Nat) (x0 : Int) (n1 : Int) (out5 : Int) (kn : Int → Int → Int → Option ρ) (k0 : Int → Option ρ) : Option ρ :=
 cond (lk N (decide (0 < n1)))
 (
  cond (lk N (true)) (
   kn x0 (w64 (n1 - 1)) (Int.tmod (w64 (out5 * x0)) 32003)) none)
 (
  k0 out5)
def Z6L {ρ : Type} (N : Nat) (k0 : Int → Option ρ) : Nat → Int → Int → Int → Option ρ
  | 0, _, _, _ => none
  | M + 1, x0, n1, out5 => Z7 N x0 n1 out5 (fun x0 n1 out5 => Z6L N k0 M x0 n1 out5) k0
def Z6 {ρ : Type} (N : Nat) (x0 : Int) (n1 : Int) (out5 : Int) (k0 : Int → Option ρ) : Option ρ := Z6L N k0 N x0 n1 out5
def Z5 {ρ : Type} (N : Nat) (x0 : Int) (n1 : Int) (out5 : Int) (kn : Int → Option ρ) : Option ρ := Z6 N x0 n1 out5 kn
def Z8 {ρ : Type} (N : Nat) (out5 : Int) (kr : Int → Option ρ) : Option ρ :=
 kr out5
def Z4 {ρ : Type} (N : Nat) (x0 : Int) (n1 : Int) (out5 : Int) (kr : Int → Option ρ) : Option ρ := Z5 N x0 n1 out5 (fun out5 => Z8 N out5 kr)
def Z2 {ρ : Type} (N : Nat) (x0 : Int) (n1 : Int) (kr : Int → Option ρ) : Option ρ := Z3 N x0 n1 (fun x0 n1 out5 => Z4 N x0 n1 out5 kr)
def Z0 {ρ : Type} (N : Nat) (x0 : Int) (n1 : Int) (kr : Int → Option ρ) : Option ρ := Z1 N x0 n1 (fun x0 n1 => Z2 N x0 n1 kr)
def Spec : Prop := ∀  (x0 : Int) (n1 : Int), P x0 n1 = true → ∃ N0, ∀ N, N0 ≤ N → Z0 N x0 n1 (fun t4 => some ((), (t4, ()))) = some ((), ((g x0 n1), ()))

theorem loop {ρ : Type} (N : Nat) (k0 : Int → Option ρ) : ∀ (M n : Nat) (x out : Int), 0 ≤ x ∧ x < 32003 → 0 ≤ out ∧ out < 32003 → n < 4611686018427387904 → n < M →
    Z6L N k0 M x (n : Int) out = k0 (out * x ^ n % 32003) := by
  intro M
  induction M with
  | zero => intro n _ _ _ _ _ h; omega
  | succ M ih =>
    intro n x out hx ho hn hM
    simp only [Z6L, Z7]
    by_cases h : n = 0
    · subst h
      rw [cf (df (by omega)), Int.pow_zero, Int.mul_one, Int.emod_eq_of_lt ho.1 ho.2]
    · obtain ⟨k, rfl⟩ : ∃ k, n = k + 1 := ⟨n - 1, by omega⟩
      have h2 := prod_range ho hx
      rw [ct (dt (by omega)), ct rfl, w64_id (n := out * x) (by omega) (by omega), tm h2.1, show w64 (((k + 1 : Nat) : Int) - 1) = (k : Int) by rw [w64_id (by omega) (by omega)]; omega, ih _ _ _ hx (by omega) (by omega) (by omega), one_pow]
theorem ok : Spec := fun x n hp => ⟨n.natAbs + 1, fun N hN => by
  simp only [P, Bool.and_eq_true, decide_eq_true_eq] at hp
  obtain ⟨h1, h2, h3, h4⟩ := hp
  obtain ⟨k, rfl⟩ := Int.eq_ofNat_of_zero_le h3
  simp only [Z1, Z3, Z7, Z6, Z5, Z8, Z4, Z2, Z0, g]
  have := loop N (fun t => some ((), (t, ()))) N k x 1 ⟨h1, h2⟩ (by omega) (by omega) (by omega)
  rw [this, Int.one_mul]
  rfl⟩

end impl_powerOf
end
end Go.Fw
set_option linter.unusedVariables false
set_option linter.unusedSimpArgs false
set_option maxRecDepth 100000
namespace Go.Fw
noncomputable section
namespace impl_EvaluateLaurent
def g (f : Int × List (List Int × Int)) (vs : List Int) : Int := evalK f vs
end impl_EvaluateLaurent
namespace impl_EvaluateLaurent
def Z1 {ρ : Type} (N : Nat) (f0 : Int × List (List Int × Int)) (values1 : List Int) (kn : List Int → Int → (List (List Int × Int)) → Option ρ) : Option ρ :=
 kn values1 f0.1 f0.2
def Z3 {ρ : Type} (N : Nat) (values1 : List Int) (f2_0 : Int) (f2_1 : List (List Int × Int)) (kn : List Int → Int → (List (List Int × Int)) → Option ρ) (kr : Int → Option ρ) : Option ρ :=
 cond (!(lk N ((impl_LaurentOk.g (f2_0, f2_1)))))
 (
  kr (-1))
 (
  cond (lk N (!(decide ((values1.length : Int) = f2_0))))
  (
   kr (-1))
  (
   cond (lk N ((slices_ContainsFunc_int_int_Evaluate.g values1 ())))
   (
    kr (-1))
   (
    kn values1 f2_0 f2_1)))
def Z5 {ρ : Type} (N : Nat) (values1 : List Int) (f2_0 : Int) (f2_1 : List (List Int × Int)) (kn : List Int → Int → Int → (List (List Int × Int)) → Option ρ) : Option ρ :=
 kn values1 0 f2_0 f2_1
def Z8 {ρ : Type} (N : Nat) (values1 : List Int) (sum5 : Int) (f2_0 : Int) (f2_1 : List (List Int × Int)) (kn : List Int → Int → (List (List Int × Int)) → Int → Int → Option ρ) : Option ρ :=
 kn values1 sum5 f2_1 (f2_1.length : Int) 0
def Z12 {ρ : Type} (N : Nat) (values1 : List Int) (sum5 : Int) (t27 : List (List Int × Int)) (t28 : Int) (t29 : Int) (kn : List Int → Int → (List (List Int × Int)) → Int → Int → Bool → Option ρ) : Option ρ :=
 kn values1 sum5 t27 t28 t29 (lk N (decide (t29 < t28)))
def Z14 {ρ : Type} (N : Nat) (values1 : List Int) (sum5 : Int) (t27 : List (List Int × Int)) (t28 : Int) (t29 : Int) (t30 : Bool) (kn : List Int → Int → (List (List Int × Int)) → Int → Int → Option ρ) (k0 : Int → Option ρ) : Option ρ :=
 cond (t30)
 (
  kn values1 sum5 t27 t28 t29)
 (
  k0 sum5)
def Z18 {ρ : Type} (N : Nat) (values1 : List Int) (sum5 : Int) (t27 : List (List Int × Int)) (t28 : Int) (t29 : Int) (kn : List Int → Int → (List (List Int × Int)) → Int → Int → List Int → Int → Option ρ) : Option ρ :=
 cond (lk N (inB t29 t27.length)) (
  kn values1 sum5 t27 t28 t29 (t27.getD t29.toNat ([], 0)).1 (t27.getD t29.toNat ([], 0)).2) none
def Z20 {ρ : Type} (N : Nat) (values1 : List Int) (sum5 : Int) (t27 : List (List Int × Int)) (t28 : Int) (t29 : Int) (t7_0 : List Int) (t7_1 : Int) (kn : List Int → Int → Int → (List (List Int × Int)) → Int → Int → List Int → Int → Option ρ) : Option ρ :=
 kn values1 sum5 (impl_residue.g t7_1) t27 t28 t29 t7_0 t7_1
def Z23 {ρ : Type} (N : Nat) (values1 : List Int) (sum5 : Int) (p8 : Int) (t27 : List (List Int × Int)) (t28 : Int) (t29 : Int) (t7_0 : List Int) (t7_1 : Int) (kn : List Int → Int → Int → (List (List Int × Int)) → Int → Int → List Int → Int → Int → Option ρ) : Option ρ :=
 kn values1 sum5 p8 t27 t28 t29 t7_0 (t7_0.length : Int) 0
def Z26 {ρ : Type} (N : Nat) (values1 : List Int) (sum5 : Int) (p8 : Int) (t27 : List (List Int × Int)) (t28 : Int) (t29 : Int) (t37 : List Int) (t38 : Int) (t39 : Int) (kn : List Int → Int → Int → (List (List Int × Int)) → Int → Int → List Int → Int → Int → Option ρ) (k2 : List Int → Int → Int → (List (List Int × Int)) → Int → Int → Option ρ) : Option ρ :=
 cond (lk N (decide (t39 < t38)))
 (
  cond (lk N (inB t39 t37.length)) (
   cond (lk N (inB t39 values1.length)) (
    cond (lk N (decide ((t37.getD t39.toNat 0) < 0)))
    (
     cond (lk N (impl_inverse.P (impl_residue.g (values1.getD t39.toNat 0)))) (
      cond (lk N (impl_powerOf.P (impl_inverse.g (impl_residue.g (values1.getD t39.toNat 0))) (w64 (0 - (t37.getD t39.toNat 0))))) (
       cond (lk N (true)) (
        kn values1 sum5 (Int.tmod (w64 (p8 * (impl_powerOf.g (impl_inverse.g (impl_residue.g (values1.getD t39.toNat 0))) (w64 (0 - (t37.getD t39.toNat 0)))))) 32003) t27 t28 t29 t37 t38 (w64 (t39 + 1))) none) none) none)
    (
     cond (lk N (impl_powerOf.P (impl_residue.g (values1.getD t39.toNat 0)) (t37.getD t39.toNat 0))) (
      cond (lk N (true)) (
       kn values1 sum5 (Int.tmod (w64 (p8 * (impl_powerOf.g (impl_residue.g (values1.getD t39.toNat 0)) (t37.getD t39.toNat 0)))) 32003) t27 t28 t29 t37 t38 (w64 (t39 + 1))) none) none)) none) none)
 (
  k2 values1 sum5 p8 t27 t28 t29)
def Z25L {ρ : Type} (N : Nat) (k2 : List Int → Int → Int → (List (List Int × Int)) → Int → Int → Option ρ) : Nat → List Int → Int → Int → (List (List Int × Int)) → Int → Int → List Int → Int → Int → Option ρ
  | 0, _, _, _, _, _, _, _, _, _ => none
  | M + 1, values1, sum5, p8, t27, t28, t29, t37, t38, t39 => Z26 N values1 sum5 p8 t27 t28 t29 t37 t38 t39 (fun values1 sum5 p8 t27 t28 t29 t37 t38 t39 => Z25L N k2 M values1 sum5 p8 t27 t28 t29 t37 t38 t39) k2
def Z25 {ρ : Type} (N : Nat) (values1 : List Int) (sum5 : Int) (p8 : Int) (t27 : List (List Int × Int)) (t28 : Int) (t29 : Int) (t37 : List Int) (t38 : Int) (t39 : Int) (k2 : List Int → Int → Int → (List (List Int × Int)) → Int → Int → Option ρ) : Option ρ := Z25L N k2 N values1 sum5 p8 t27 t28 t29 t37 t38 t39
def Z24 {ρ : Type} (N : Nat) (values1 : List Int) (sum5 : Int) (p8 : Int) (t27 : List (List Int × Int)) (t28 : Int) (t29 : Int) (t37 : List Int) (t38 : Int) (t39 : Int) (kn : List Int → Int → Int → (List (List Int × Int)) → Int → Int → Option ρ) : Option ρ := Z25 N values1 sum5 p8 t27 t28 t29 t37 t38 t39 kn
def Z22 {ρ : Type} (N : Nat) (values1 : List Int) (sum5 : Int) (p8 : Int) (t27 : List (List Int × Int)) (t28 : Int) (t29 : Int) (t7_0 : List Int) (t7_1 : Int) (kn : List Int → Int → Int → (List (List Int × Int)) → Int → Int → Option ρ) : Option ρ := Z23 N values1 sum5 p8 t27 t28 t29 t7_0 t7_1 (fun values1 sum5 p8 t27 t28 t29 t37 t38 t39 => Z24 N values1 sum5 p8 t27 t28 t29 t37 t38 t39 kn)
def Z27 {ρ : Type} (N : Nat) (values1 : List Int) (sum5 : Int) (p8 : Int) (t27 : List (List Int × Int)) (t28 : Int) (t29 : Int) (kn : List Int → Int → (List (List Int × Int)) → Int → Int → Option ρ) : Option ρ :=
 cond (lk N (true)) (
  kn values1 (Int.tmod (w64 (sum5 + p8)) 32003) t27 t28 t29) none
def Z21 {ρ : Type} (N : Nat) (values1 : List Int) (sum5 : Int) (p8 : Int) (t27 : List (List Int × Int)) (t28 : Int) (t29 : Int) (t7_0 : List Int) (t7_1 : Int) (kn : List Int → Int → (List (List Int × Int)) → Int → Int → Option ρ) : Option ρ := Z22 N values1 sum5 p8 t27 t28 t29 t7_0 t7_1 (fun values1 sum5 p8 t27 t28 t29 => Z27 N values1 sum5 p8 t27 t28 t29 kn)
def Z19 {ρ : Type} (N : Nat) (values1 : List Int) (sum5 : Int) (t27 : List (List Int × Int)) (t28 : Int) (t29 : Int) (t7_0 : List Int) (t7_1 : Int) (kn : List Int → Int → (List (List Int × Int)) → Int → Int → Option ρ) : Option ρ := Z20 N values1 sum5 t27 t28 t29 t7_0 t7_1 (fun values1 sum5 p8 t27 t28 t29 t7_0 t7_1 => Z21 N values1 sum5 p8 t27 t28 t29 t7_0 t7_1 kn)
def Z17 {ρ : Type} (N : Nat) (values1 : List Int) (sum5 : Int) (t27 : List (List Int × Int)) (t28 : Int) (t29 : Int) (kn : List Int → Int → (List (List Int × Int)) → Int → Int → Option ρ) : Option ρ := Z18 N values1 sum5 t27 t28 t29 (fun values1 sum5 t27 t28 t29 t7_0 t7_1 => Z19 N values1 sum5 t27 t28 t29 t7_0 t7_1 kn)
def Z16 {ρ : Type} (N : Nat) (values1 : List Int) (sum5 : Int) (t27 : List (List Int × Int)) (t28 : Int) (t29 : Int) (kn : List Int → Int → (List (List Int × Int)) → Int → Int → Option ρ) : Option ρ := Z17 N values1 sum5 t27 t28 t29 kn
def Z28 {ρ : Type} (N : Nat) (values1 : List Int) (sum5 : Int) (t27 : List (List Int × Int)) (t28 : Int) (t29 : Int) (kn : List Int → Int → (List (List Int × Int)) → Int → Int → Option ρ) : Option ρ :=
 kn values1 sum5 t27 t28 (w64 (t29 + 1))
def Z15 {ρ : Type} (N : Nat) (values1 : List Int) (sum5 : Int) (t27 : List (List Int × Int)) (t28 : Int) (t29 : Int) (kn : List Int → Int → (List (List Int × Int)) → Int → Int → Option ρ) : Option ρ := Z16 N values1 sum5 t27 t28 t29 (fun values1 sum5 t27 t28 t29 => Z28 N values1 sum5 t27 t28 t29 kn)
def Z13 {ρ : Type} (N : Nat) (values1 : List Int) (sum5 : Int) (t27 : List (List Int × Int)) (t28 : Int) (t29 : Int) (t30 : Bool) (kn : List Int → Int → (List (List Int × Int)) → Int → Int → Option ρ) (k0 : Int → Option ρ) : Option ρ := Z14 N values1 sum5 t27 t28 t29 t30 (fun values1 sum5 t27 t28 t29 => Z15 N values1 sum5 t27 t28 t29 kn) k0
def Z11 {ρ : Type} (N : Nat) (values1 : List Int) (sum5 : Int) (t27 : List (List Int × Int)) (t28 : Int) (t29 : Int) (kn : List Int → Int → (List (List Int × Int)) → Int → Int → Option ρ) (k0 : Int → Option ρ) : Option ρ := Z12 N values1 sum5 t27 t28 t29 (fun values1 sum5 t27 t28 t29 t30 => Z13 N values1 sum5 t27 t28 t29 t30 kn k0)
def Z10L {ρ : Type} (N : Nat) (k0 : Int → Option ρ) : Nat → List Int → Int → (List (List Int × Int)) → Int → Int → Option ρ
  | 0, _, _, _, _, _ => none
  | M + 1, values1, sum5, t27, t28, t29 => Z11 N values1 sum5 t27 t28 t29 (fun values1 sum5 t27 t28 t29 => Z10L N k0 M values1 sum5 t27 t28 t29) k0
def Z10 {ρ : Type} (N : Nat) (values1 : List Int) (sum5 : Int) (t27 : List (List Int × Int)) (t28 : Int) (t29 : Int) (k0 : Int → Option ρ) : Option ρ := Z10L N k0 N values1 sum5 t27 t28 t29
def Z9 {ρ : Type} (N : Nat) (values1 : List Int) (sum5 : Int) (t27 : List (List Int × Int)) (t28 : Int) (t29 : Int) (kn : Int → Option ρ) : Option ρ := Z10 N values1 sum5 t27 t28 t29 kn
def Z7 {ρ : Type} (N : Nat) (values1 : List Int) (sum5 : Int) (f2_0 : Int) (f2_1 : List (List Int × Int)) (kn : Int → Option ρ) : Option ρ := Z8 N values1 sum5 f2_0 f2_1 (fun values1 sum5 t27 t28 t29 => Z9 N values1 sum5 t27 t28 t29 kn)
def Z29 {ρ : Type} (N : Nat) (sum5 : Int) (kr : Int → Option ρ) : Option ρ :=
 kr sum5
def Z6 {ρ : Type} (N : Nat) (values1 : List Int) (sum5 : Int) (f2_0 : Int) (f2_1 : List (List Int × Int)) (kr : Int → Option ρ) : Option ρ := Z7 N values1 sum5 f2_0 f2_1 (fun sum5 => Z29 N sum5 kr)
def Z4 {ρ : Type} (N : Nat) (values1 : List Int) (f2_0 : Int) (f2_1 : List (List Int × Int)) (kr : Int → Option ρ) : Option ρ := Z5 N values1 f2_0 f2_1 (fun values1 sum5 f2_0 f2_1 => Z6 N values1 sum5 f2_0 f2_1 kr)
def Z2 {ρ : Type} (N : Nat) (values1 : List Int) (f2_0 : Int) (f2_1 : List (List Int × Int)) (kr : Int → Option ρ) : Option ρ := Z3 N values1 f2_0 f2_1 (fun values1 f2_0 f2_1 => Z4 N values1 f2_0 f2_1 kr) kr
def Z0 {ρ : Type} (N : Nat) (f0 : Int × List (List Int × Int)) (values1 : List Int) (kr : Int → Option ρ) : Option ρ := Z1 N f0 values1 (fun values1 f2_0 f2_1 => Z2 N values1 f2_0 f2_1 kr)
def Spec : Prop := ∀  (f0 : Int × List (List Int × Int)) (values1 : List Int), Ty.bd (.pair (.int .i64) (.sl 0 (.pair (.sl 0 (.int .i64)) (.int .i64)))) f0 → Ty.bd (.sl 0 (.int .i64)) values1 → ∃ N0, ∀ N, N0 ≤ N → Z0 N f0 values1 (fun t4 => some ((), (t4, ()))) = some ((), ((g f0 values1), ()))

theorem step_g (x e : Int) (he : -20 ≤ e ∧ e ≤ 20) : (e < 0 → impl_powerOf.P (impl_inverse.g (impl_residue.g x)) (w64 (0 - e)) = true ∧ impl_inverse.P (impl_residue.g x) = true ∧ impl_powerOf.g (impl_inverse.g (impl_residue.g x)) (w64 (0 - e)) = powK (resK x) e) ∧
    (¬ e < 0 → impl_powerOf.P (impl_residue.g x) e = true ∧ impl_powerOf.g (impl_residue.g x) e = powK (resK x) e) := by
  have hr := resK_range x
  have hp := pmod_range (resK x) 32001
  refine ⟨fun h => ⟨?_, ?_, ?_⟩, fun h => ⟨?_, ?_⟩⟩
  · show impl_powerOf.P (pmod (resK x) 32001) (w64 (0 - e)) = true
    rw [w64_id (by omega) (by omega)]
    simp only [impl_powerOf.P, Bool.and_eq_true, decide_eq_true_eq]
    omega
  · show impl_inverse.P (resK x) = true
    simp only [impl_inverse.P, Bool.and_eq_true, decide_eq_true_eq]
    omega
  · rw [w64_id (by omega) (by omega), powK, if_pos h, Int.zero_sub]
    rfl
  · show impl_powerOf.P (resK x) e = true
    simp only [impl_powerOf.P, Bool.and_eq_true, decide_eq_true_eq]
    omega
  · rw [powK, if_neg h]
    rfl
theorem inner {ρ : Type} (N : Nat) (k2 : List Int → Int → Int → (List (List Int × Int)) → Int → Int → Option ρ) (t27 : List (List Int × Int)) (t28 t29 : Int) (vs es : List Int) (hb : vs.length ≤ maxLen) (s : Int) (he : es.length = vs.length) (hr : ∀ i, -20 ≤ es.getD i 0 ∧ es.getD i 0 ≤ 20) : ∀ (M j : Nat) (x : Int), 0 ≤ x ∧ x < 32003 → j ≤ vs.length → vs.length - j < M →
    Z25L N k2 M vs s x t27 t28 t29 es (es.length : Int) (j : Int) = k2 vs s (monK vs (es.drop j) j x) t27 t28 t29 := by
  intro M
  induction M with
  | zero => intro j _ _ _ h; omega
  | succ M ih =>
    intro j x hx hj hM
    simp only [Z25L, Z26]
    by_cases h : j < vs.length
    · have hbd := hr j
      obtain ⟨g1, g2⟩ := step_g (vs.getD j 0) (es.getD j 0) hbd
      have hpr := prod_range hx (powK_range (resK (vs.getD j 0)) (es.getD j 0))
      rw [ct (dt (by omega)), ct (inB_nat (by omega)), ct (inB_nat h), drop_getD 0 (by omega), monK]
      simp only [Int.toNat_natCast]
      by_cases hn : es.getD j 0 < 0
      · obtain ⟨p1, p2, p3⟩ := g1 hn
        rw [ct (dt hn), ct p2, ct p1, ct rfl, p3, w64_id (by omega) (by omega), tm hpr.1, w64_succ (by omega)]
        exact ih (j + 1) _ (by omega) h (by omega)
      · obtain ⟨p1, p3⟩ := g2 hn
        rw [cf (df hn), ct p1, ct rfl, p3, w64_id (by omega) (by omega), tm hpr.1, w64_succ (by omega)]
        exact ih (j + 1) _ (by omega) h (by omega)
    · rw [cf (df (by omega)), List.drop_of_length_le (by omega), monK]
theorem loop2 {ρ : Type} (N : Nat) (k0 : Int → Option ρ) (l : List (List Int × Int)) (hl : l.length ≤ maxLen) (vs : List Int) (hb : vs.length ≤ maxLen) (hN : vs.length < N) (he : ∀ t ∈ l, t.1.length = vs.length ∧ ∀ i, -20 ≤ t.1.getD i 0 ∧ t.1.getD i 0 ≤ 20) : ∀ (M k : Nat) (s : Int), 0 ≤ s ∧ s < 32003 → k ≤ l.length → l.length - k < M →
    Z10L N k0 M vs s l (l.length : Int) (k : Int) = k0 (sumK vs (l.drop k) s) := by
  intro M
  induction M with
  | zero => intro k _ _ _ h; omega
  | succ M ih =>
    intro k s hs hk hM
    simp only [Z10L, Z11, Z12, Z13, Z14]
    by_cases h : k < l.length
    · obtain ⟨h1, h2⟩ := he _ (getD_mem ([], 0) h)
      rw [ct' (by rw [lk_eq]; exact dt (by omega))]
      simp only [Z15, Z16, Z17, Z18]
      rw [ct (inB_nat h)]
      simp only [Z19, Z20, Z21, Z22, Z23, Z24, Z25, Int.toNat_natCast]
      have hrr := resK_range (l.getD k ([], 0)).2
      have hin := inner (ρ := ρ) N (fun values1 sum5 p8 t27 t28 t29 => Z27 N values1 sum5 p8 t27 t28 t29 (fun values1 sum5 t27 t28 t29 => Z28 N values1 sum5 t27 t28 t29 (fun values1 sum5 t27 t28 t29 => Z10L N k0 M values1 sum5 t27 t28 t29))) l (l.length : Int) (k : Int) vs (l.getD k ([], 0)).1 hb s h1 h2 N 0 (resK (l.getD k ([], 0)).2) hrr (by omega) (by omega)
      rw [show ((0 : Nat) : Int) = 0 from rfl] at hin
      rw [show impl_residue.g (l.getD k ([], 0)).2 = resK (l.getD k ([], 0)).2 from rfl, hin, List.drop_zero]
      have hmr := monK_range vs (l.getD k ([], 0)).1 0 _ hrr
      simp only [Z27, Z28]
      rw [ct rfl, w64_id (by omega) (by omega), tm (by omega), w64_succ (by omega), drop_getD ([], 0) h, sumK]
      exact ih (k + 1) _ (by omega) h (by omega)
    · rw [cf' (by rw [lk_eq]; exact df (by omega)), List.drop_of_length_le (by omega), sumK]
theorem ok : Spec := fun f vs hb hv => ⟨f.2.length + vs.length + 10, fun N hN => by
  have hvl : vs.length ≤ maxLen := hv.1
  simp only [Z0, Z1, Z2, Z3, g, evalK]
  have hval : impl_LaurentOk.g (f.1, f.2) = lokK f := rfl
  rw [hval]
  cases h1 : lokK f
  · simp [lk_eq]
  by_cases h2 : (vs.length : Int) = f.1
  · rw [cf' (by simp [lk_eq]), cf (nf h2), dt h2]
    have hc : slices_ContainsFunc_int_int_Evaluate.g vs () = vs.any fun v => decide (resK v = 0) := rfl
    rw [hc]
    cases hz : vs.any fun v => decide (resK v = 0)
    · rw [cf rfl]
      simp only [Z4, Z5, Z6, Z7, Z8, Z9, Z10, Z29]
      have hmem := lokK_mem h1
      have l2 := loop2 (ρ := Unit × Int × Unit) N (fun sum5 => some ((), (sum5, ()))) f.2 hb.2.1 vs hvl (by omega) (fun t ht => by
        have := hmem.2.2.2 t ht
        exact ⟨by omega, this.2.1⟩) N 0 0 (by omega) (by omega) (by omega)
      rw [show ((0 : Nat) : Int) = 0 from rfl, List.drop_zero] at l2
      rw [l2]
      rfl
    · rw [ct rfl]; rfl
  · rw [cf' (by simp [lk_eq]), ct (nt h2), df h2]
    rfl⟩

end impl_EvaluateLaurent
end
end Go.Fw
set_option linter.unusedVariables false
set_option linter.unusedSimpArgs false
set_option maxRecDepth 100000
namespace Go.Fw
noncomputable section
namespace laws_eqIntS
def g (a b : List Int) : Bool := decide (a = b)
end laws_eqIntS
namespace laws_eqIntS
def Z1 {ρ : Type} (N : Nat) (a0 : List Int) (b1 : List Int) (kn : List Int → List Int → Option ρ) : Option ρ :=
 kn a0 b1
def Z3 {ρ : Type} (N : Nat) (a0 : List Int) (b1 : List Int) (kn : List Int → List Int → Option ρ) (kr : Bool → Option ρ) : Option ρ :=
 cond (lk N (!(decide ((a0.length : Int) = (b1.length : Int)))))
 (
  kr false)
 (
  kn a0 b1)
def Z6 {ρ : Type} (N : Nat) (a0 : List Int) (b1 : List Int) (kn : List Int → List Int → Int → Option ρ) : Option ρ :=
 kn a0 b1 0
def Z9 {ρ : Type} (N : Nat) (a0 : List Int) (b1 : List Int) (i5 : Int) (kn : List Int → List Int → Int → Option ρ) (k0 : Option ρ) (kr : Bool → Option ρ) : Option ρ :=
 cond (lk N (decide (i5 < (a0.length : Int))))
 (
  cond (lk N (inB i5 a0.length)) (
   cond (lk N (inB i5 b1.length)) (
    cond (lk N (!(decide ((a0.getD i5.toNat 0) = (b1.getD i5.toNat 0)))))
    (
     kr false)
    (
     kn a0 b1 (w64 (i5 + 1)))) none) none)
 (
  k0)
def Z8L {ρ : Type} (N : Nat) (k0 : Option ρ) (kr : Bool → Option ρ) : Nat → List Int → List Int → Int → Option ρ
  | 0, _, _, _ => none
  | M + 1, a0, b1, i5 => Z9 N a0 b1 i5 (fun a0 b1 i5 => Z8L N k0 kr M a0 b1 i5) k0 kr
def Z8 {ρ : Type} (N : Nat) (a0 : List Int) (b1 : List Int) (i5 : Int) (k0 : Option ρ) (kr : Bool → Option ρ) : Option ρ := Z8L N k0 kr N a0 b1 i5
def Z7 {ρ : Type} (N : Nat) (a0 : List Int) (b1 : List Int) (i5 : Int) (kn : Option ρ) (kr : Bool → Option ρ) : Option ρ := Z8 N a0 b1 i5 kn kr
def Z5 {ρ : Type} (N : Nat) (a0 : List Int) (b1 : List Int) (kn : Option ρ) (kr : Bool → Option ρ) : Option ρ := Z6 N a0 b1 (fun a0 b1 i5 => Z7 N a0 b1 i5 kn kr)
def Z10 {ρ : Type} (N : Nat)  (kr : Bool → Option ρ) : Option ρ :=
 kr true
def Z4 {ρ : Type} (N : Nat) (a0 : List Int) (b1 : List Int) (kr : Bool → Option ρ) : Option ρ := Z5 N a0 b1 (Z10 N kr) kr
def Z2 {ρ : Type} (N : Nat) (a0 : List Int) (b1 : List Int) (kr : Bool → Option ρ) : Option ρ := Z3 N a0 b1 (fun a0 b1 => Z4 N a0 b1 kr) kr
def Z0 {ρ : Type} (N : Nat) (a0 : List Int) (b1 : List Int) (kr : Bool → Option ρ) : Option ρ := Z1 N a0 b1 (fun a0 b1 => Z2 N a0 b1 kr)
def Spec : Prop := ∀  (a0 : List Int) (b1 : List Int), Ty.bd (.sl 0 (.int .i64)) a0 → Ty.bd (.sl 0 (.int .i64)) b1 → ∃ N0, ∀ N, N0 ≤ N → Z0 N a0 b1 (fun t4 => some ((), (t4, ()))) = some ((), ((g a0 b1), ()))

theorem loop {ρ : Type} (N : Nat) (k0 : Option ρ) (kr : Bool → Option ρ) (a b : List Int) (hl : a.length = b.length) (ha : a.length ≤ maxLen) : ∀ (M j : Nat), j ≤ a.length → a.length - j < M →
    Z8L N k0 kr M a b (j : Int) = if a.drop j = b.drop j then k0 else kr false := by
  intro M
  induction M with
  | zero => intro j _ h; omega
  | succ M ih =>
    intro j hj hM
    simp only [Z8L, Z9]
    by_cases h : j < a.length
    · rw [ct (dt (by omega)), ct (inB_nat h), ct (inB_nat (by omega)), Int.toNat_natCast, w64_succ (by omega), ih (j + 1) h (by omega), drop_getD 0 h, drop_getD (l := b) (j := j) 0 (by omega)]
      by_cases e : a.getD j 0 = b.getD j 0
      · rw [cf (nf e), e]
        simp only [List.cons.injEq, true_and]
      · rw [ct (nt e), if_neg (by simp only [List.cons.injEq]; exact fun h => e h.1)]
    · rw [cf (df (by omega)), if_pos (by rw [List.drop_of_length_le (by omega), List.drop_of_length_le (by omega)])]
theorem ok : Spec := fun a b ha hb => ⟨a.length + 1, fun N hN => by
  simp only [Z1, Z3, Z6, Z9, Z8, Z7, Z5, Z10, Z4, Z2, Z0]
  by_cases hl : a.length = b.length
  · rw [cf (nf (by omega))]
    rw [show (0 : Int) = ((0 : Nat) : Int) from rfl, loop _ _ _ a b hl ha.1 N 0 (by omega) (by omega)]
    by_cases e : a = b <;> simp [e, g]
  · rw [ct (nt (by omega))]
    have : a ≠ b := fun e => hl (by rw [e])
    simp [g, this]⟩

end laws_eqIntS
end
end Go.Fw
set_option linter.unusedVariables false
set_option linter.unusedSimpArgs false
set_option maxRecDepth 100000
namespace Go.Fw
noncomputable section
namespace laws_eqTerm
def g (a b : List Int × Int) : Bool := decide (a = b)
end laws_eqTerm
namespace laws_eqTerm
def Z0 {ρ : Type} (N : Nat) (a0 : List Int × Int) (b1 : List Int × Int) (kr : Bool → Option ρ) : Option ρ :=
 cond (!(lk N ((laws_eqIntS.g a0.1 b1.1))))
 (
  kr false)
 (
  cond (lk N (!(decide (a0.2 = b1.2))))
  (
   kr false)
  (
   kr true))
def Spec : Prop := ∀  (a0 : List Int × Int) (b1 : List Int × Int), Ty.bd (.pair (.sl 0 (.int .i64)) (.int .i64)) a0 → Ty.bd (.pair (.sl 0 (.int .i64)) (.int .i64)) b1 → ∃ N0, ∀ N, N0 ≤ N → Z0 N a0 b1 (fun t4 => some ((), (t4, ()))) = some ((), ((g a0 b1), ()))

theorem ok : Spec := fun a b ha hb => ⟨0, fun N hN => by
  obtain ⟨a1, a2⟩ := a
  obtain ⟨b1, b2⟩ := b
  simp only [Z0, lk_eq, g, laws_eqIntS.g, Prod.mk.injEq]
  by_cases h1 : a1 = b1 <;> by_cases h2 : a2 = b2 <;> simp [h1, h2]⟩

end laws_eqTerm
end
end Go.Fw
set_option linter.unusedVariables false
set_option linter.unusedSimpArgs false
set_option maxRecDepth 100000
namespace Go.Fw
noncomputable section
namespace laws_eqTermS
def g (a b : List (List Int × Int)) : Bool := decide (a = b)
end laws_eqTermS
namespace laws_eqTermS
def Z1 {ρ : Type} (N : Nat) (a0 : List (List Int × Int)) (b1 : List (List Int × Int)) (kn : (List (List Int × Int)) → (List (List Int × Int)) → Option ρ) : Option ρ :=
 kn a0 b1
def Z3 {ρ : Type} (N : Nat) (a0 : List (List Int × Int)) (b1 : List (List Int × Int)) (kn : (List (List Int × Int)) → (List (List Int × Int)) → Option ρ) (kr : Bool → Option ρ) : Option ρ :=
 cond (lk N (!(decide ((a0.length : Int) = (b1.length : Int)))))
 (
  kr false)
 (
  kn a0 b1)
def Z6 {ρ : Type} (N : Nat) (a0 : List (List Int × Int)) (b1 : List (List Int × Int)) (kn : (List (List Int × Int)) → (List (List Int × Int)) → Int → Option ρ) : Option ρ :=
 kn a0 b1 0
def Z9 {ρ : Type} (N : Nat) (a0 : List (List Int × Int)) (b1 : List (List Int × Int)) (i5 : Int) (kn : (List (List Int × Int)) → (List (List Int × Int)) → Int → Option ρ) (k0 : Option ρ) (kr : Bool → Option ρ) : Option ρ :=
 cond (lk N (decide (i5 < (a0.length : Int))))
 (
  cond (lk N (inB i5 a0.length)) (
   cond (lk N (inB i5 b1.length)) (
    cond (!(lk N ((laws_eqTerm.g (a0.getD i5.toNat ([], 0)) (b1.getD i5.toNat ([], 0))))))
    (
     kr false)
    (
     kn a0 b1 (w64 (i5 + 1)))) none) none)
 (
  k0)
def Z8L {ρ : Type} (N : Nat) (k0 : Option ρ) (kr : Bool → Option ρ) : Nat → (List (List Int × Int)) → (List (List Int × Int)) → Int → Option ρ
  | 0, _, _, _ => none
  | M + 1, a0, b1, i5 => Z9 N a0 b1 i5 (fun a0 b1 i5 => Z8L N k0 kr M a0 b1 i5) k0 kr
def Z8 {ρ : Type} (N : Nat) (a0 : List (List Int × Int)) (b1 : List (List Int × Int)) (i5 : Int) (k0 : Option ρ) (kr : Bool → Option ρ) : Option ρ := Z8L N k0 kr N a0 b1 i5
def Z7 {ρ : Type} (N : Nat) (a0 : List (List Int × Int)) (b1 : List (List Int × Int)) (i5 : Int) (kn : Option ρ) (kr : Bool → Option ρ) : Option ρ := Z8 N a0 b1 i5 kn kr
def Z5 {ρ : Type} (N : Nat) (a0 : List (List Int × Int)) (b1 : List (List Int × Int)) (kn : Option ρ) (kr : Bool → Option ρ) : Option ρ := Z6 N a0 b1 (fun a0 b1 i5 => Z7 N a0 b1 i5 kn kr)
def Z10 {ρ : Type} (N : Nat)  (kr : Bool → Option ρ) : Option ρ :=
 kr true
def Z4 {ρ : Type} (N : Nat) (a0 : List (List Int × Int)) (b1 : List (List Int × Int)) (kr : Bool → Option ρ) : Option ρ := Z5 N a0 b1 (Z10 N kr) kr
def Z2 {ρ : Type} (N : Nat) (a0 : List (List Int × Int)) (b1 : List (List Int × Int)) (kr : Bool → Option ρ) : Option ρ := Z3 N a0 b1 (fun a0 b1 => Z4 N a0 b1 kr) kr
def Z0 {ρ : Type} (N : Nat) (a0 : List (List Int × Int)) (b1 : List (List Int × Int)) (kr : Bool → Option ρ) : Option ρ := Z1 N a0 b1 (fun a0 b1 => Z2 N a0 b1 kr)
def Spec : Prop := ∀  (a0 : List (List Int × Int)) (b1 : List (List Int × Int)), Ty.bd (.sl 0 (.pair (.sl 0 (.int .i64)) (.int .i64))) a0 → Ty.bd (.sl 0 (.pair (.sl 0 (.int .i64)) (.int .i64))) b1 → ∃ N0, ∀ N, N0 ≤ N → Z0 N a0 b1 (fun t4 => some ((), (t4, ()))) = some ((), ((g a0 b1), ()))

theorem loop {ρ : Type} (N : Nat) (k0 : Option ρ) (kr : Bool → Option ρ) (a b : List (List Int × Int)) (hl : a.length = b.length) (ha : a.length ≤ maxLen) : ∀ (M j : Nat), j ≤ a.length → a.length - j < M →
    Z8L N k0 kr M a b (j : Int) = if a.drop j = b.drop j then k0 else kr false := by
  intro M
  induction M with
  | zero => intro j _ h; omega
  | succ M ih =>
    intro j hj hM
    simp only [Z8L, Z9]
    by_cases h : j < a.length
    · rw [ct (dt (by omega)), ct (inB_nat h), ct (inB_nat (by omega)), Int.toNat_natCast, w64_succ (by omega), ih (j + 1) h (by omega), drop_getD ([], 0) h, drop_getD (l := b) (j := j) ([], 0) (by omega)]
      by_cases e : a.getD j ([], 0) = b.getD j ([], 0)
      · rw [cf' (by rw [lk_eq, laws_eqTerm.g, dt e]; rfl), e]
        simp only [List.cons.injEq, true_and]
      · rw [ct' (by rw [lk_eq, laws_eqTerm.g, df e]; rfl), if_neg (by simp only [List.cons.injEq]; exact fun h => e h.1)]
    · rw [cf (df (by omega)), if_pos (by rw [List.drop_of_length_le (by omega), List.drop_of_length_le (by omega)])]
theorem ok : Spec := fun a b ha hb => ⟨a.length + 1, fun N hN => by
  simp only [Z1, Z3, Z6, Z9, Z8, Z7, Z5, Z10, Z4, Z2, Z0]
  by_cases hl : a.length = b.length
  · rw [cf (nf (by omega))]
    rw [show (0 : Int) = ((0 : Nat) : Int) from rfl, loop _ _ _ a b hl ha.1 N 0 (by omega) (by omega)]
    by_cases e : a = b <;> simp [e, g]
  · rw [ct (nt (by omega))]
    have : a ≠ b := fun e => hl (by rw [e])
    simp [g, this]⟩

end laws_eqTermS
end
end Go.Fw
set_option linter.unusedVariables false
set_option linter.unusedSimpArgs false
set_option maxRecDepth 100000
namespace Go.Fw
noncomputable section
namespace laws_eqLaurent
def g (a b : Int × List (List Int × Int)) : Bool := decide (a = b)
end laws_eqLaurent
namespace laws_eqLaurent
def Z0 {ρ : Type} (N : Nat) (a0 : Int × List (List Int × Int)) (b1 : Int × List (List Int × Int)) (kr : Bool → Option ρ) : Option ρ :=
 cond (lk N (!(decide (a0.1 = b1.1))))
 (
  kr false)
 (
  cond (!(lk N ((laws_eqTermS.g a0.2 b1.2))))
  (
   kr false)
  (
   kr true))
def Spec : Prop := ∀  (a0 : Int × List (List Int × Int)) (b1 : Int × List (List Int × Int)), Ty.bd (.pair (.int .i64) (.sl 0 (.pair (.sl 0 (.int .i64)) (.int .i64)))) a0 → Ty.bd (.pair (.int .i64) (.sl 0 (.pair (.sl 0 (.int .i64)) (.int .i64)))) b1 → ∃ N0, ∀ N, N0 ≤ N → Z0 N a0 b1 (fun t4 => some ((), (t4, ()))) = some ((), ((g a0 b1), ()))

theorem ok : Spec := fun a b ha hb => ⟨0, fun N hN => by
  obtain ⟨a1, a2⟩ := a
  obtain ⟨b1, b2⟩ := b
  simp only [Z0, lk_eq, g, laws_eqTermS.g, Prod.mk.injEq]
  by_cases h1 : a1 = b1 <;> by_cases h2 : a2 = b2 <;> simp [h1, h2]⟩

end laws_eqLaurent
end
end Go.Fw
set_option linter.unusedVariables false
set_option linter.unusedSimpArgs false
set_option maxRecDepth 100000
namespace Go.Fw
noncomputable section
namespace laws_FnExactEvaluateLaurent
def g (_ : Int × List (List Int × Int)) (_ : List Int) : Bool := true
end laws_FnExactEvaluateLaurent
namespace laws_FnExactEvaluateLaurent
def Z0 {ρ : Type} (N : Nat) (aF0 : Int × List (List Int × Int)) (aValues1 : List Int) (kr : Bool → Option ρ) : Option ρ :=
 cond (lk N (decide (1048576 < (aValues1.length : Int))))
 (
  kr true)
 (
  cond (lk N (decide ((laws_szLaurent.g aF0 1048576) < 0)))
  (
   kr true)
  (
   cond (lk N (laws_toLaurent.P aF0)) (
    cond (lk N (laws_toIntS.P aValues1)) (
     cond (lk N (laws_toLaurent.P aF0)) (
      cond (lk N (laws_toIntS.P aValues1)) (
       cond (lk N (!(decide ((impl_EvaluateLaurent.g (laws_toLaurent.g aF0) (laws_toIntS.g aValues1)) = (spec_EvaluateLaurent.g (laws_toLaurent.g aF0) (laws_toIntS.g aValues1))))))
       (
        kr false)
       (
        cond (lk N (laws_toLaurent.P aF0)) (
         cond (!(lk N ((laws_eqLaurent.g (laws_toLaurent.g aF0) (laws_toLaurent.g aF0)))))
         (
          kr false)
         (
          cond (lk N (laws_toIntS.P aValues1)) (
           cond (!(lk N ((laws_eqIntS.g (laws_toIntS.g aValues1) (laws_toIntS.g aValues1)))))
           (
            kr false)
           (
            kr true)) none)) none)) none) none) none) none))
def Spec : Prop := ∀  (aF0 : Int × List (List Int × Int)) (aValues1 : List Int), Ty.bd (.pair (.int .i64) (.sl 0 (.pair (.sl 0 (.int .i64)) (.int .i64)))) aF0 → Ty.bd (.sl 0 (.int .i64)) aValues1 → ∃ N0, ∀ N, N0 ≤ N → Z0 N aF0 aValues1 (fun t4 => some ((), (t4, ()))) = some ((), ((g aF0 aValues1), ()))

theorem ok : Spec := fun f vs hb hv => ⟨0, fun N hN => by
  by_cases h0 : (1048576 : Int) < vs.length
  · simp only [Z0]
    rw [ct (dt h0)]
    rfl
  by_cases hl : laws_szLaurent.g f 1048576 < 0
  · simp only [Z0]
    rw [cf (df h0), ct (dt hl)]
    rfl
  have hP := szLau_P f hb hl
  have hQ := toInt_P vs (by omega)
  have he : impl_EvaluateLaurent.g f vs = spec_EvaluateLaurent.g f vs := rfl
  simp only [Z0, lk_eq, laws_toLaurent.g, laws_toIntS.g, hP, hQ, laws_eqLaurent.g, laws_eqIntS.g, df h0, df hl, nf he, dt (rfl : f = _), dt (rfl : vs = _)]
  rfl⟩

end laws_FnExactEvaluateLaurent
end
end Go.Fw
