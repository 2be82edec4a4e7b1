/- The plain part: what the functions compute, in lists and numbers. Nothing is assumed. -/
import Derived.Test.YtakkbbpdfmkbnaaDoorFwc
import Derived.Lib.ItoaLen
import Derived.Lib.Join
set_option linter.unusedVariables false
namespace Go.Fw
def lexLt : List Int → List Int → Bool
  | [], [] => false
  | [], _ :: _ => true
  | _ :: _, [] => false
  | x :: xs, y :: ys => if x = y then lexLt xs ys else decide (x < y)
def lexCmp : List Int → List Int → Int
  | [], [] => 0
  | [], _ :: _ => -1
  | _ :: _, [] => 1
  | x :: xs, y :: ys => if x = y then lexCmp xs ys else if x < y then -1 else 1
theorem lexCmp_le : ∀ a b : List Int, decide (lexCmp a b ≤ 0) = !(lexLt b a)
  | [], [] => rfl
  | [], _ :: _ => rfl
  | _ :: _, [] => rfl
  | x :: xs, y :: ys => by
    rw [lexCmp, lexLt]
    by_cases h : x = y
    · rw [if_pos h, if_pos h.symm, lexCmp_le xs ys]
    · rw [if_neg h, if_neg (show ¬ y = x from fun e => h e.symm)]
      by_cases h2 : x < y
      · rw [if_pos h2, df (show ¬ y < x by omega)]; rfl
      · rw [if_neg h2, dt (show y < x by omega)]; rfl
theorem lexCmp_lt : ∀ a b : List Int, decide (lexCmp a b < 0) = lexLt a b
  | [], [] => rfl
  | [], _ :: _ => rfl
  | _ :: _, [] => rfl
  | x :: xs, y :: ys => by
    rw [lexCmp, lexLt]
    by_cases h : x = y
    · rw [if_pos h, if_pos h, lexCmp_lt xs ys]
    · rw [if_neg h, if_neg h]
      by_cases h2 : x < y
      · rw [if_pos h2, dt h2]; rfl
      · rw [if_neg h2, df h2]; rfl
def inK (n lo hi : Int) : Bool := decide (lo ≤ n) && decide (n ≤ hi)
def expK (vars : Int) (e : List Int) : Bool := decide ((e.length : Int) = vars) && e.all fun x => inK x (-20) 20
def coefK (c : Int) : Bool := !(decide (c = 0)) && inK c (-1000000) 1000000
def prevE (l : List (List Int × Int)) : Nat → Option (List Int)
  | 0 => none
  | j + 1 => some (l.getD j ([], 0)).1
def belowK : Option (List Int) → List Int → Bool
  | none, _ => true
  | some p, e => lexLt e p
def termsK (vars : Int) : List (List Int × Int) → Option (List Int) → Bool
  | [], _ => true
  | t :: ts, p => expK vars t.1 && (coefK t.2 && (belowK p t.1 && termsK vars ts (some t.1)))
def lokK (f : Int × List (List Int × Int)) : Bool := inK f.1 1 8 && (decide (f.2.length ≤ 600) && termsK f.1 f.2 none)
end Go.Fw
namespace Go.Fw
def upto {α : Type} (n j : Nat) (F G : Nat → α) : List α := (List.range n).map fun i => if i < j then F i else G i
section
variable {α : Type} {n j : Nat} {F G : Nat → α}
theorem upto_len : (upto n j F G).length = n := by simp [upto]
theorem map_getD {i : Nat} (h : i < n) (d : α) : ((List.range n).map F).getD i d = F i := by
  rw [List.getD_eq_getElem?_getD, List.getElem?_map, List.getElem?_range h]
  rfl
theorem upto_get {i : Nat} (h : i < n) (d : α) : (upto n j F G).getD i d = if i < j then F i else G i := map_getD h d
theorem upto_set (h : j < n) : (upto n j F G).set j (F j) = upto n (j + 1) F G := by
  apply List.ext_getElem?
  intro i
  by_cases hi : i < n
  · by_cases e : j = i
    · subst e
      rw [List.getElem?_set_self (by rw [upto_len]; exact h)]
      simp [upto, List.getElem?_map, List.getElem?_range h]
    · rw [List.getElem?_set_ne e]
      simp only [upto, List.getElem?_map, List.getElem?_range hi, Option.map_some]
      by_cases h1 : i < j
      · rw [if_pos h1, if_pos (by omega)]
      · rw [if_neg h1, if_neg (by omega)]
  · rw [List.getElem?_eq_none (by rw [List.length_set, upto_len]; omega), List.getElem?_eq_none (by rw [upto_len]; omega)]
theorem upto_zero : upto n 0 F G = (List.range n).map G := by simp [upto]
theorem upto_full : upto n n F G = (List.range n).map F := by
  unfold upto
  apply List.map_congr_left
  intro i hi
  rw [if_pos (List.mem_range.1 hi)]
theorem list_map {l : List α} (d : α) (h : l.length = n) : (List.range n).map (fun i => l.getD i d) = l := by
  apply List.ext_getElem?
  intro i
  by_cases hi : i < n
  · rw [List.getElem?_map, List.getElem?_range hi, Option.map_some, List.getD_eq_getElem?_getD, List.getElem?_eq_getElem (by omega), Option.getD_some]
  · rw [List.getElem?_eq_none (by simp; omega), List.getElem?_eq_none (by omega)]
end
end Go.Fw
namespace Go.Fw
noncomputable def itoaB (n : Int) : ByteArray := ⟨(Lib.itoa n).toArray⟩
noncomputable def lsd (u : Nat) : List Int := (Lib.decDigits u).reverse.map fun b => (b.toNat : Int)
theorem u8_dig {t : Nat} (h : t < 10) : ((UInt8.ofNat (48 + t)).toNat : Int) = 48 + (t : Int) := by
  rw [UInt8.toNat_ofNat']
  omega
theorem lsd_small {u : Nat} (h : u < 10) : lsd u = [48 + (u : Int)] := by
  rw [lsd, Lib.decDigits, dif_pos h]
  simp only [List.reverse_cons, List.reverse_nil, List.nil_append, List.map_cons, List.map_nil]
  rw [u8_dig h]
theorem lsd_big {u : Nat} (h : ¬ u < 10) : lsd u = (48 + ((u % 10 : Nat) : Int)) :: lsd (u / 10) := by
  rw [lsd, Lib.decDigits, dif_neg h, List.reverse_append]
  simp only [List.reverse_cons, List.reverse_nil, List.nil_append, List.singleton_append, List.map_cons]
  rw [u8_dig (Nat.mod_lt _ (by omega))]
  rfl
theorem nums_of_bytes (l : List UInt8) : strOfNums (l.map fun b => (b.toNat : Int)) = ⟨l.toArray⟩ := by
  unfold strOfNums
  rw [List.map_map]
  congr 2
  conv => rhs; rw [← List.map_id l]
  apply List.map_congr_left
  intro b _
  simp
theorem nums_lsd (u : Nat) : strOfNums (lsd u).reverse = ⟨(Lib.decDigits u).toArray⟩ := by
  rw [lsd, ← List.map_reverse, List.reverse_reverse, nums_of_bytes]
theorem nums_neg (u : Nat) : strOfNums (45 :: (lsd u).reverse) = ⟨(45 :: Lib.decDigits u).toArray⟩ := by
  rw [lsd, ← List.map_reverse, List.reverse_reverse]
  exact nums_of_bytes (45 :: Lib.decDigits u)
theorem tmod_nat (k : Int) : Int.tmod k 10 = if k < 0 then -((k.natAbs % 10 : Nat) : Int) else ((k.natAbs % 10 : Nat) : Int) := by
  split
  · rename_i h
    obtain ⟨u, rfl⟩ : ∃ u : Nat, k = -(u : Int) := ⟨k.natAbs, by omega⟩
    rw [Int.neg_tmod, Int.natAbs_neg, Int.natAbs_natCast]
    rfl
  · rename_i h
    obtain ⟨u, rfl⟩ : ∃ u : Nat, k = (u : Int) := ⟨k.toNat, by omega⟩
    rw [Int.natAbs_natCast]
    rfl
theorem tdiv_nat (k : Int) : Int.tdiv k 10 = if k < 0 then -((k.natAbs / 10 : Nat) : Int) else ((k.natAbs / 10 : Nat) : Int) := by
  split
  · rename_i h
    obtain ⟨u, rfl⟩ : ∃ u : Nat, k = -(u : Int) := ⟨k.natAbs, by omega⟩
    rw [Int.neg_tdiv, Int.natAbs_neg, Int.natAbs_natCast]
    rfl
  · rename_i h
    obtain ⟨u, rfl⟩ : ∃ u : Nat, k = (u : Int) := ⟨k.toNat, by omega⟩
    rw [Int.natAbs_natCast]
    rfl
theorem w8_id {n : Int} (h0 : 0 ≤ n) (h1 : n < 256) : w8 n = n := by
  unfold w8
  rw [IntKind.wrap_u8]
  omega
theorem dig_pos {k : Int} (h : ¬ Int.tmod k 10 < 0) : w8 (w64 (48 + Int.tmod k 10)) = 48 + ((k.natAbs % 10 : Nat) : Int) := by
  have hm : k.natAbs % 10 < 10 := Nat.mod_lt _ (by omega)
  have e : Int.tmod k 10 = ((k.natAbs % 10 : Nat) : Int) := by
    rw [tmod_nat] at h ⊢
    split
    · rename_i hk
      rw [if_pos hk] at h
      omega
    · rfl
  rw [e, w64_id (by omega) (by omega), w8_id (by omega) (by omega)]
theorem dig_neg {k : Int} (h : Int.tmod k 10 < 0) : w8 (w64 (48 + w64 (0 - Int.tmod k 10))) = 48 + ((k.natAbs % 10 : Nat) : Int) := by
  have hm : k.natAbs % 10 < 10 := Nat.mod_lt _ (by omega)
  have e : Int.tmod k 10 = -((k.natAbs % 10 : Nat) : Int) := by
    rw [tmod_nat] at h ⊢
    split
    · rfl
    · rename_i hk
      rw [if_neg hk] at h
      omega
  have e1 : w64 (0 - -((k.natAbs % 10 : Nat) : Int)) = ((k.natAbs % 10 : Nat) : Int) := by rw [w64_id (by omega) (by omega)]; omega
  rw [e, e1, w64_id (by omega) (by omega), w8_id (by omega) (by omega)]
theorem natAbs_tdiv (k : Int) : (Int.tdiv k 10).natAbs = k.natAbs / 10 := by
  rw [tdiv_nat]
  split <;> omega
end Go.Fw
namespace Go.Fw
theorem ba_app (a b : List UInt8) : (⟨a.toArray⟩ : ByteArray) ++ ⟨b.toArray⟩ = ⟨(a ++ b).toArray⟩ := by
  apply ByteArray.ext
  simp
theorem itoaB_data (n : Int) : (itoaB n).data.toList = Lib.itoa n := by simp [itoaB]
theorem itoaB_size {n : Int} (h : i64P n = true) : (itoaB n).size ≤ 21 := by
  simp only [i64P, Bool.and_eq_true, decide_eq_true_eq] at h
  have := Lib.itoa_length_le n h.1 h.2
  show (Lib.itoa n).toArray.size ≤ 21
  simpa using this
noncomputable def itoasL (l : List Int) : List UInt8 := Lib.join (l.map Lib.itoa) [32]
noncomputable def itoasB (l : List Int) : ByteArray := ⟨(itoasL l).toArray⟩
theorem itoas_snoc {l : List Int} (h : l ≠ []) (n : Int) : itoasL (l ++ [n]) = itoasL l ++ [32] ++ Lib.itoa n := by
  unfold itoasL Lib.join
  cases l with
  | nil => exact absurd rfl h
  | cons x xs =>
    rw [List.map_append, List.map_cons, List.map_cons, List.map_nil]
    induction xs generalizing x with
    | nil => simp [List.intercalate, List.intersperse]
    | cons y ys ih =>
      have := ih y (by simp)
      simp only [List.map_cons, List.cons_append, List.intercalate, List.intersperse, List.flatten_cons, List.append_assoc] at this ⊢
      rw [this]
theorem itoas_one (n : Int) : itoasL [n] = Lib.itoa n := by simp [itoasL, Lib.join, List.intercalate]
theorem itoas_nil : itoasL [] = [] := rfl
theorem itoas_len {l : List Int} (h : l.all i64P = true) : (itoasL l).length ≤ 22 * l.length := by
  have key : ∀ j, j ≤ l.length → (itoasL (l.take j)).length ≤ 22 * j := by
    intro j
    induction j with
    | zero => intro _; simp [itoas_nil]
    | succ j ih =>
      intro hj
      have h2 : i64P (l.getD j 0) = true := List.all_eq_true.1 h _ (getD_mem 0 hj)
      have hn : (Lib.itoa (l.getD j 0)).length ≤ 21 := by
        simp only [i64P, Bool.and_eq_true, decide_eq_true_eq] at h2
        exact Lib.itoa_length_le _ h2.1 h2.2
      have := ih (by omega)
      rw [← take_getD 0 hj]
      by_cases he : l.take j = []
      · rw [he, List.nil_append, itoas_one]
        omega
      · rw [itoas_snoc he]
        simp only [List.length_append, List.length_cons, List.length_nil]
        omega
  have := key l.length (Nat.le_refl _)
  rwa [List.take_length] at this
def rowP (l : List Int) : Bool := decide (l.length ≤ 1048576) && l.all i64P
end Go.Fw
set_option linter.unusedSimpArgs false
set_option maxRecDepth 100000
namespace Go.Fw
noncomputable section
variable {ρ : Type}
namespace laws_toIntS
def P (a : List Int) : Bool := decide (a.length < 1099511627776)
abbrev g (a : List Int) : List Int := a
end laws_toIntS
namespace laws_toIntS
def Z1 {ρ : Type} (N : Nat) (v0 : LI) (kn : LI → Option ρ) : Option ρ :=
 kn v0
def Z3 {ρ : Type} (N : Nat) (v0 : LI) (kn : LI → LI → Option ρ) : Option ρ :=
 cond (lk N (leB 0 (v0.length : Int) && decide ((v0.length : Int) < 1099511627776))) (
  kn (List.replicate (v0.length : Int).toNat (0 : Int)) v0) none
def Z6 {ρ : Type} (N : Nat) (v3 v0 : LI) (kn : LI → LI → Int → Option ρ) : Option ρ :=
 kn v3 v0 0
def Z9 {ρ : Type} (N : Nat) (v3 v0 : LI) (v4 : Int) (kn : LI → LI → Int → Option ρ) (k0 : LI → Option ρ) : Option ρ :=
 cond (lk N (decide (v4 < (v0.length : Int))))
 (
  cond (lk N (inB v4 v0.length)) (
   cond (lk N (inB v4 v3.length)) (
    kn (v3.set v4.toNat (v0.getD v4.toNat 0)) v0 (w64 (v4 + 1))) none) none)
 (
  k0 v3)
def Z8L {ρ : Type} (N : Nat) (k0 : LI → Option ρ) : Nat → LI → LI → Int → Option ρ
  | 0, _, _, _ => none
  | M + 1, v3, v0, v4 => Z9 N v3 v0 v4 (fun v3 v0 v4 => Z8L N k0 M v3 v0 v4) k0
def Z8 N v3 v0 v4 k0 := (Z8L N k0 N v3 v0 v4 : Option ρ)
def Z7 N v3 v0 v4 kn := (Z8 N v3 v0 v4 kn : Option ρ)
def Z5 N v3 v0 kn := (Z6 N v3 v0 (fun v3 v0 v4 => Z7 N v3 v0 v4 kn) : Option ρ)
def Z10 {ρ : Type} (N : Nat) (v3 : LI) (kr : LI → Option ρ) : Option ρ :=
 kr v3
def Z4 N v3 v0 kr := (Z5 N v3 v0 (fun v3 => Z10 N v3 kr) : Option ρ)
def Z2 N v0 kr := (Z3 N v0 (fun v3 v0 => Z4 N v3 v0 kr) : Option ρ)
def Z0 N v0 kr := (Z1 N v0 (fun v0 => Z2 N v0 kr) : Option ρ)
def Spec : Prop := ∀  (v0 : LI), Ty.bd (.sl 0 (.int .i64)) v0 → P v0 = true → ∃ N0, ∀ N, N0 ≤ N → Z0 N v0 (fun v2 => some ((), (v2, ()))) = some ((), ((g v0), ()))
theorem loop {ρ : Type} (N : Nat) (k0 : List Int → Option ρ) (a : List Int) (ha : a.length ≤ maxLen) : ∀ (M j : Nat) (out : List Int), out.length = a.length → out.take j = a.take j → j ≤ a.length → a.length - j < M →
    Z8L N k0 M out a (j : Int) = k0 a := by
  intro M
  induction M with
  | zero => intro j out _ _ _ h; omega
  | succ M ih =>
    intro j out ho ht hj hM
    simp only [Z8L, Z9]
    by_cases h : j < a.length
    · rw [ct (dt (by omega)), ct (inB_nat h), ct (inB_nat (by omega)), Int.toNat_natCast, w64_succ (by omega)]
      refine ih (j + 1) _ (by simpa using ho) ?_ h (by omega)
      rw [take_set_s (by omega), ht, take_getD 0 h]
    · rw [cf (df (by omega))]
      have : j = a.length := by omega
      subst this
      rw [List.take_of_length_le (by omega), List.take_length] at ht
      rw [ht]
theorem ok : Spec := fun a hb hp => ⟨a.length + 1, fun N hN => by
  have hl : a.length < 1099511627776 := by simpa [P] using hp
  simp only [Z1, Z3, Z6, Z9, Z8, Z7, Z5, Z10, Z4, Z2, Z0]
  rw [ct (by simp [leB]; omega)]
  exact loop _ _ a hb.1 _ 0 _ (by simp) (by simp) (by omega) (by omega)⟩
end laws_toIntS
end
end Go.Fw
namespace Go.Fw
theorem toInt_P (a : List Int) (h : (a.length : Int) ≤ 1048576) : laws_toIntS.P a = true := by
  unfold laws_toIntS.P
  exact dt (by omega)
end Go.Fw
namespace Go.Fw
noncomputable section
variable {ρ : Type}
namespace spec_FormatInt
noncomputable def g (n : Int) : ByteArray := itoaB n
def P (n : Int) : Bool := i64P n
end spec_FormatInt
namespace spec_FormatInt
def Z1 {ρ : Type} (N : Nat) (v0 : Int) (kn : Int → Option ρ) : Option ρ :=
 kn v0
def Z3 {ρ : Type} (N : Nat) (v0 : Int) (kn : List Int → Int → Option ρ) : Option ρ :=
 kn ([] : List Int) v0
def Z5 {ρ : Type} (N : Nat) (v3 : List Int) (v0 : Int) (kn : List Int → I2 (Option ρ)) : Option ρ :=
 kn v3 v0 v0
def Z9 {ρ : Type} (N : Nat) (v3 : List Int) (v0 v4 : Int) (kn : List Int → I2 (Option ρ)) (k0 : List Int → Int → Option ρ) : Option ρ :=
 cond (lk N (!(decide (v4 = 0))))
 (
  cond (lk N (true)) (
   cond (lk N (decide ((Int.tmod v4 10) < 0)))
   (
    cond (lk N (Nat.blt (v3.length + ([(w8 ((w64 (48 + (w64 (0 - (Int.tmod v4 10)))))))] : List Int).length) 1099511627776)) (
     cond (lk N (true)) (
      kn (v3 ++ ([(w8 ((w64 (48 + (w64 (0 - (Int.tmod v4 10)))))))] : List Int)) v0 (w64 (Int.tdiv v4 10))) none) none)
   (
    cond (lk N (Nat.blt (v3.length + ([(w8 ((w64 (48 + (Int.tmod v4 10)))))] : List Int).length) 1099511627776)) (
     cond (lk N (true)) (
      kn (v3 ++ ([(w8 ((w64 (48 + (Int.tmod v4 10)))))] : List Int)) v0 (w64 (Int.tdiv v4 10))) none) none)) none)
 (
  cond (lk N (decide ((v3.length : Int) = 0)))
  (
   cond (lk N (true)) (
    cond (lk N (decide ((Int.tmod v4 10) < 0)))
    (
     cond (lk N (Nat.blt (v3.length + ([(w8 ((w64 (48 + (w64 (0 - (Int.tmod v4 10)))))))] : List Int).length) 1099511627776)) (
      cond (lk N (true)) (
       kn (v3 ++ ([(w8 ((w64 (48 + (w64 (0 - (Int.tmod v4 10)))))))] : List Int)) v0 (w64 (Int.tdiv v4 10))) none) none)
    (
     cond (lk N (Nat.blt (v3.length + ([(w8 ((w64 (48 + (Int.tmod v4 10)))))] : List Int).length) 1099511627776)) (
      cond (lk N (true)) (
       kn (v3 ++ ([(w8 ((w64 (48 + (Int.tmod v4 10)))))] : List Int)) v0 (w64 (Int.tdiv v4 10))) none) none)) none)
  (
   k0 v3 v0))
def Z8L {ρ : Type} (N : Nat) (k0 : List Int → Int → Option ρ) : Nat → List Int → Int → Int → Option ρ
  | 0, _, _, _ => none
  | M + 1, v3, v0, v4 => Z9 N v3 v0 v4 (fun v3 v0 v4 => Z8L N k0 M v3 v0 v4) k0
def Z8 N v3 v0 v4 k0 := (Z8L N k0 N v3 v0 v4 : Option ρ)
def Z7 N v3 v0 v4 kn := (Z8 N v3 v0 v4 kn : Option ρ)
def Z11 {ρ : Type} (N : Nat) (v3 : List Int) (v0 : Int) (kn : List Int → List Int → Int → Option ρ) : Option ρ :=
 kn v3 ([] : List Int) v0
def Z13 {ρ : Type} (N : Nat) (v3 v6 : List Int) (v0 : Int) (kn : List Int → List Int → Option ρ) : Option ρ :=
 cond (lk N (decide (v0 < 0)))
 (
  cond (lk N (Nat.blt (v6.length + ([45] : List Int).length) 1099511627776)) (
   kn v3 (v6 ++ ([45] : List Int))) none)
 (
  kn v3 v6)
def Z16 {ρ : Type} (N : Nat) (v3 v6 : List Int) (kn : List Int → List Int → Int → Option ρ) : Option ρ :=
 kn v3 v6 (w64 ((v3.length : Int) - 1))
def Z19 {ρ : Type} (N : Nat) (v3 v6 : List Int) (v7 : Int) (kn : List Int → List Int → Int → Option ρ) (k2 : List Int → Option ρ) : Option ρ :=
 cond (lk N (decide (0 ≤ v7)))
 (
  cond (lk N (inB v7 v3.length)) (
   cond (lk N (Nat.blt (v6.length + ([(v3.getD v7.toNat 0)] : List Int).length) 1099511627776)) (
    kn v3 (v6 ++ ([(v3.getD v7.toNat 0)] : List Int)) (w64 (v7 - 1))) none) none)
 (
  k2 v6)
def Z18L {ρ : Type} (N : Nat) (k2 : List Int → Option ρ) : Nat → List Int → List Int → Int → Option ρ
  | 0, _, _, _ => none
  | M + 1, v3, v6, v7 => Z19 N v3 v6 v7 (fun v3 v6 v7 => Z18L N k2 M v3 v6 v7) k2
def Z18 N v3 v6 v7 k2 := (Z18L N k2 N v3 v6 v7 : Option ρ)
def Z17 N v3 v6 v7 kn := (Z18 N v3 v6 v7 kn : Option ρ)
def Z15 N v3 v6 kn := (Z16 N v3 v6 (fun v3 v6 v7 => Z17 N v3 v6 v7 kn) : Option ρ)
def Z20 {ρ : Type} (N : Nat) (v6 : List Int) (kr : ByteArray → Option ρ) : Option ρ :=
 kr (strOfNums v6)
def Z14 N v3 v6 kr := (Z15 N v3 v6 (fun v6 => Z20 N v6 kr) : Option ρ)
def Z12 N v3 v6 v0 kr := (Z13 N v3 v6 v0 (fun v3 v6 => Z14 N v3 v6 kr) : Option ρ)
def Z10 N v3 v0 kr := (Z11 N v3 v0 (fun v3 v6 v0 => Z12 N v3 v6 v0 kr) : Option ρ)
def Z6 N v3 v0 v4 kr := (Z7 N v3 v0 v4 (fun v3 v0 => Z10 N v3 v0 kr) : Option ρ)
def Z4 N v3 v0 kr := (Z5 N v3 v0 (fun v3 v0 v4 => Z6 N v3 v0 v4 kr) : Option ρ)
def Z2 N v0 kr := (Z3 N v0 (fun v3 v0 => Z4 N v3 v0 kr) : Option ρ)
def Z0 N v0 kr := (Z1 N v0 (fun v0 => Z2 N v0 kr) : Option ρ)
def Spec : Prop := ∀  (v0 : Int), P v0 = true → ∃ N0, ∀ N, N0 ≤ N → Z0 N v0 (fun v2 => some ((), (v2, ()))) = some ((), ((g v0), ()))
theorem done {ρ : Type} {N M : Nat} (k0 : List Int → Int → Option ρ) {ds : List Int} (hd : ds ≠ []) (n : Int) : Z8L N k0 (M + 1) ds n 0 = k0 ds n := by
  have hl : ds.length ≠ 0 := fun h => hd (List.length_eq_zero_iff.1 h)
  simp only [Z8L, Z9]
  rw [cf (show (!decide True) = false from rfl), cf (df (by omega))]
theorem loop {ρ : Type} {N : Nat} (k0 : List Int → Int → Option ρ) (n : Int) : ∀ (c M : Nat) (ds : List Int) (k : Int), k.natAbs < 10 ^ c → k.natAbs < 9223372036854775809 → 1 ≤ c → c < M → ds.length + c ≤ 100 → (k ≠ 0 ∨ ds = []) →
    Z8L N k0 M ds n k = k0 (ds ++ lsd k.natAbs) n := by
  intro c
  induction c with
  | zero => intro M ds k _ _ h; omega
  | succ c ih =>
    intro M ds k hk hk2 _ hM hd hor
    obtain ⟨M, rfl⟩ : ∃ m, M = m + 1 := ⟨M - 1, by omega⟩
    have hq : w64 (Int.tdiv k 10) = Int.tdiv k 10 := by
      have := natAbs_tdiv k
      exact w64_id (by omega) (by omega)
    have hstep : Z8L N k0 (M + 1) ds n k = Z8L N k0 M (ds ++ [48 + ((k.natAbs % 10 : Nat) : Int)]) n (Int.tdiv k 10) := by
      have hb : ∀ x : Int, Nat.blt (ds.length + ([x] : List Int).length) 1099511627776 = true := fun x => Nat.ble_eq_true_of_le (by simp; omega)
      simp only [Z8L, Z9, hq, hb, lk_eq, cond_true]
      by_cases hk0 : k = 0
      · subst hk0
        have hds : ds = [] := hor.resolve_left (by simp)
        subst hds
        rfl
      · rw [nt hk0, cond_true]
        by_cases hneg : Int.tmod k 10 < 0
        · rw [dt hneg, cond_true, dig_neg hneg]
        · rw [df hneg, cond_false, dig_pos hneg]
    rw [hstep]
    by_cases hsm : k.natAbs < 10
    · have e0 : Int.tdiv k 10 = 0 := by
        have := natAbs_tdiv k
        omega
      obtain ⟨M, rfl⟩ : ∃ m, M = m + 1 := ⟨M - 1, by omega⟩
      rw [e0, done k0 (by simp) n, lsd_small hsm, Nat.mod_eq_of_lt hsm]
    · have hc : 1 ≤ c := by
        rcases Nat.eq_zero_or_pos c with h | h
        · subst h
          omega
        · exact h
      have hd2 := natAbs_tdiv k
      rw [ih M _ (Int.tdiv k 10) (by rw [hd2, Nat.div_lt_iff_lt_mul (by omega), ← Nat.pow_succ]; exact hk) (by omega) hc (by omega) (by simp; omega) (.inl (by omega)), hd2, lsd_big hsm, List.append_assoc]
      rfl
theorem back {ρ : Type} {N : Nat} (k2 : List Int → Option ρ) {ds : List Int} (hd : ds.length ≤ 100) : ∀ (j M : Nat) (out : List Int), j ≤ ds.length → j < M → out.length + j ≤ 1000 → Z18L N k2 M ds out ((j : Int) - 1) = k2 (out ++ (ds.take j).reverse) := by
  intro j
  induction j with
  | zero =>
    intro M out _ hM _
    obtain ⟨M, rfl⟩ : ∃ m, M = m + 1 := ⟨M - 1, by omega⟩
    simp only [Z18L, Z19]
    rw [cf (df (by omega)), List.take_zero, List.reverse_nil, List.append_nil]
  | succ j ih =>
    intro M out hj hM ho
    obtain ⟨M, rfl⟩ : ∃ m, M = m + 1 := ⟨M - 1, by omega⟩
    have e : ((j + 1 : Nat) : Int) - 1 = (j : Int) := by omega
    have hb : ∀ x : Int, Nat.blt (out.length + ([x] : List Int).length) 1099511627776 = true := fun x => Nat.ble_eq_true_of_le (by simp; omega)
    simp only [Z18L, Z19, e]
    rw [ct (dt (by omega)), ct (inB_nat hj), ct (hb _), Int.toNat_natCast, w64_id (by omega) (by omega), ih M _ (by omega) (by omega) (by simp; omega), ← take_getD 0 hj, List.reverse_append, List.append_assoc]
    rfl
theorem lsd_len {u : Nat} : ∀ (c : Nat), u < 10 ^ c → 1 ≤ c → (lsd u).length ≤ c := by
  intro c
  induction c generalizing u with
  | zero => intro _ h; omega
  | succ c ih =>
    intro h _
    by_cases hs : u < 10
    · rw [lsd_small hs]
      simp
    · rw [lsd_big hs, List.length_cons]
      have hc : 1 ≤ c := by
        rcases Nat.eq_zero_or_pos c with h' | h'
        · subst h'
          omega
        · exact h'
      have := ih (u := u / 10) (by rw [Nat.div_lt_iff_lt_mul (by omega), ← Nat.pow_succ]; exact h) hc
      omega
theorem ok : Spec := fun n hp => ⟨200, fun N hN => by
  simp only [P, i64P, Bool.and_eq_true, decide_eq_true_eq] at hp
  have h19 : n.natAbs < 10 ^ 19 := by
    have : (10 : Nat) ^ 19 = 10000000000000000000 := by decide
    omega
  have hlen := lsd_len 19 h19 (by omega)
  simp only [Z0, Z1, Z2, Z3, Z4, Z5, Z6, Z7, Z8]
  refine (loop _ n 19 N [] n h19 (by omega) (by omega) (by omega) (by simp) (.inr rfl)).trans ?_
  rw [List.nil_append]
  have hl0 : lsd n.natAbs = (lsd n.natAbs).take (lsd n.natAbs).length := by rw [List.take_length]
  have fin : ∀ out : List Int, out.length ≤ 10 → Z18L N (fun out6 => some ((), (strOfNums out6, ()))) N (lsd n.natAbs) out (((lsd n.natAbs).length : Int) - 1) = some ((), (strOfNums (out ++ (lsd n.natAbs).reverse), ())) := fun out ho => by
    rw [back _ (by omega) _ N out (Nat.le_refl _) (by omega) (by omega), List.take_length]
  simp only [Z10, Z11, Z12, Z13]
  by_cases hneg : n < 0
  · rw [ct (dt hneg), ct (show Nat.blt (([] : List Int).length + ([45] : List Int).length) 1099511627776 = true from rfl)]
    simp only [Z14, Z15, Z16, Z17, Z18, Z20]
    rw [w64_id (by omega) (by omega), fin _ (by simp), g, itoaB, Lib.itoa, if_pos hneg]
    have := nums_neg n.natAbs
    simp only [List.nil_append, List.singleton_append]
    rw [this]
  · rw [cf (df hneg)]
    simp only [Z14, Z15, Z16, Z17, Z18, Z20]
    rw [w64_id (by omega) (by omega), fin _ (by simp), g, itoaB, Lib.itoa, if_neg hneg, List.nil_append, nums_lsd, show n.natAbs = n.toNat by omega]⟩
end spec_FormatInt
end
end Go.Fw
namespace Go.Fw
noncomputable section
variable {ρ : Type}
namespace spec_FormatInts
noncomputable def g (l : List Int) : ByteArray := itoasB l
def P (l : List Int) : Bool := rowP l
end spec_FormatInts
namespace spec_FormatInts
def Z1 {ρ : Type} (N : Nat) (v0 : LI) (kn : LI → Option ρ) : Option ρ :=
 kn v0
def Z3 {ρ : Type} (N : Nat) (v0 : LI) (kn : LI → ByteArray → Option ρ) : Option ρ :=
 kn v0 ByteArray.empty
def Z6 {ρ : Type} (N : Nat) (v0 : LI) (v3 : ByteArray) (kn : LI → ByteArray → Int → Option ρ) : Option ρ :=
 kn v0 v3 0
def Z9 {ρ : Type} (N : Nat) (v0 : LI) (v3 : ByteArray) (v4 : Int) (kn : LI → ByteArray → Int → Option ρ) (k0 : ByteArray → Option ρ) : Option ρ :=
 cond (lk N (decide (v4 < (v0.length : Int))))
 (
  cond (lk N (decide (0 < v4)))
  (
   cond (Nat.blt (v3.size + (⟨#[32]⟩ : ByteArray).size) 4611686018427387904) (
    cond (lk N (inB v4 v0.length)) (
     cond (lk N (spec_FormatInt.P (v0.getD v4.toNat 0))) (
      cond (Nat.blt ((v3 ++ (⟨#[32]⟩ : ByteArray)).size + (spec_FormatInt.g (v0.getD v4.toNat 0)).size) 4611686018427387904) (
       kn v0 ((v3 ++ (⟨#[32]⟩ : ByteArray)) ++ (spec_FormatInt.g (v0.getD v4.toNat 0))) (w64 (v4 + 1))) none) none) none) none)
  (
   cond (lk N (inB v4 v0.length)) (
    cond (lk N (spec_FormatInt.P (v0.getD v4.toNat 0))) (
     cond (Nat.blt (v3.size + (spec_FormatInt.g (v0.getD v4.toNat 0)).size) 4611686018427387904) (
      kn v0 (v3 ++ (spec_FormatInt.g (v0.getD v4.toNat 0))) (w64 (v4 + 1))) none) none) none))
 (
  k0 v3)
def Z8L {ρ : Type} (N : Nat) (k0 : ByteArray → Option ρ) : Nat → LI → ByteArray → Int → Option ρ
  | 0, _, _, _ => none
  | M + 1, v0, v3, v4 => Z9 N v0 v3 v4 (fun v0 v3 v4 => Z8L N k0 M v0 v3 v4) k0
def Z8 N v0 v3 v4 k0 := (Z8L N k0 N v0 v3 v4 : Option ρ)
def Z7 N v0 v3 v4 kn := (Z8 N v0 v3 v4 kn : Option ρ)
def Z5 N v0 v3 kn := (Z6 N v0 v3 (fun v0 v3 v4 => Z7 N v0 v3 v4 kn) : Option ρ)
def Z10 {ρ : Type} (N : Nat) (v3 : ByteArray) (kr : ByteArray → Option ρ) : Option ρ :=
 kr v3
def Z4 N v0 v3 kr := (Z5 N v0 v3 (fun v3 => Z10 N v3 kr) : Option ρ)
def Z2 N v0 kr := (Z3 N v0 (fun v0 v3 => Z4 N v0 v3 kr) : Option ρ)
def Z0 N v0 kr := (Z1 N v0 (fun v0 => Z2 N v0 kr) : Option ρ)
def Spec : Prop := ∀  (v0 : LI), Ty.bd (.sl 0 (.int .i64)) v0 → P v0 = true → ∃ N0, ∀ N, N0 ≤ N → Z0 N v0 (fun v2 => some ((), (v2, ()))) = some ((), ((g v0), ()))
theorem loop {ρ : Type} {N : Nat} (k0 : ByteArray → Option ρ) {l : List Int} (hp : rowP l = true) : ∀ (M j : Nat), j ≤ l.length → l.length - j < M → Z8L N k0 M l (itoasB (l.take j)) (j : Int) = k0 (itoasB l) := by
  simp only [rowP, Bool.and_eq_true, decide_eq_true_eq] at hp
  intro M
  induction M with
  | zero => intro j _ h; omega
  | succ M ih =>
    intro j hj hM
    simp only [Z8L, Z9]
    by_cases h : j < l.length
    · have hi : i64P (l.getD j 0) = true := List.all_eq_true.1 hp.2 _ (getD_mem 0 h)
      have h1 : spec_FormatInt.P (l.getD j 0) = true := hi
      have h2 : spec_FormatInt.g (l.getD j 0) = itoaB (l.getD j 0) := rfl
      have hsz := itoaB_size hi
      have hall : (l.take j).all i64P = true := List.all_eq_true.2 fun x hx => List.all_eq_true.1 hp.2 x (List.mem_of_mem_take hx)
      have hlen := itoas_len hall
      have hs : (itoasB (l.take j)).size ≤ 22 * j := by
        have e : (itoasB (l.take j)).size = (itoasL (l.take j)).length := by simp [itoasB, ByteArray.size]
        rw [List.length_take] at hlen
        omega
      have e1 : (⟨#[32]⟩ : ByteArray).size = 1 := rfl
      have e3 : itoasB (l.take j) ++ (⟨#[32]⟩ : ByteArray) = ⟨(itoasL (l.take j) ++ [32]).toArray⟩ := ba_app _ [32]
      rw [ct (dt (by omega)), w64_succ (by rw [maxLen_val]; omega), Int.toNat_natCast]
      by_cases h0 : j = 0
      · subst h0
        rw [cf (df (by omega)), ct (inB_nat h), ct h1, h2, ct' (show Nat.blt ((itoasB (l.take 0)).size + (itoaB (l.getD 0 0)).size) 4611686018427387904 = true from Nat.ble_eq_true_of_le (by omega))]
        have e : itoasB (l.take 0) ++ itoaB (l.getD 0 0) = itoasB (l.take (0 + 1)) := by
          rw [← take_getD 0 h, List.take_zero, List.nil_append]
          show (⟨([] : List UInt8).toArray⟩ : ByteArray) ++ ⟨(Lib.itoa (l.getD 0 0)).toArray⟩ = ⟨(itoasL [l.getD 0 0]).toArray⟩
          rw [ba_app, itoas_one, List.nil_append]
        rw [e]
        exact ih 1 h (by omega)
      · have hne : l.take j ≠ [] := fun e => by
          have := congrArg List.length e
          rw [List.length_take, List.length_nil] at this
          omega
        have hs2 : (itoasB (l.take j) ++ (⟨#[32]⟩ : ByteArray)).size ≤ 22 * j + 1 := by
          rw [ByteArray.size_append, e1]
          omega
        rw [ct (dt (by omega)), ct' (show Nat.blt ((itoasB (l.take j)).size + (⟨#[32]⟩ : ByteArray).size) 4611686018427387904 = true from Nat.ble_eq_true_of_le (by omega)), ct (inB_nat h), ct h1, h2,
          ct' (show Nat.blt ((itoasB (l.take j) ++ (⟨#[32]⟩ : ByteArray)).size + (itoaB (l.getD j 0)).size) 4611686018427387904 = true from Nat.ble_eq_true_of_le (by omega))]
        have e : itoasB (l.take j) ++ (⟨#[32]⟩ : ByteArray) ++ itoaB (l.getD j 0) = itoasB (l.take (j + 1)) := by
          rw [e3, ← take_getD 0 h]
          show _ ++ (⟨(Lib.itoa (l.getD j 0)).toArray⟩ : ByteArray) = ⟨(itoasL (l.take j ++ [l.getD j 0])).toArray⟩
          rw [ba_app, itoas_snoc hne]
        rw [e]
        exact ih (j + 1) h (by omega)
    · rw [cf (df (by omega)), List.take_of_length_le (by omega)]
theorem ok : Spec := fun l hb hp => ⟨l.length + 1, fun N hN => by
  simp only [Z1, Z3, Z6, Z9, Z8, Z7, Z5, Z10, Z4, Z2, Z0]
  exact loop (fun s3 => some ((), (s3, ()))) hp N 0 (Nat.zero_le _) (by omega)⟩
end spec_FormatInts
end
end Go.Fw
namespace Go.Fw
noncomputable section
variable {ρ : Type}
namespace strconv_Itoa
noncomputable def g (n : Int) : ByteArray := itoaB n
def P (n : Int) : Bool := i64P n
end strconv_Itoa
namespace strconv_Itoa
theorem ok : True := trivial
end strconv_Itoa
end
end Go.Fw
namespace Go.Fw
noncomputable section
variable {ρ : Type}
namespace impl_FormatInt
noncomputable def g (n : Int) : ByteArray := itoaB n
def P (n : Int) : Bool := i64P n
end impl_FormatInt
namespace impl_FormatInt
def Z0 {ρ : Type} (N : Nat) (v0 : Int) (kr : ByteArray → Option ρ) : Option ρ :=
 cond (lk N (strconv_Itoa.P v0)) (
  kr (strconv_Itoa.g v0)) none
def Spec : Prop := ∀  (v0 : Int), P v0 = true → ∃ N0, ∀ N, N0 ≤ N → Z0 N v0 (fun v2 => some ((), (v2, ()))) = some ((), ((g v0), ()))
theorem ok : Spec := fun n hp => ⟨0, fun N hN => by
  simp only [Z0]
  rw [ct (show strconv_Itoa.P n = true from hp)]
  rfl⟩
end impl_FormatInt
end
end Go.Fw
namespace Go.Fw
noncomputable section
variable {ρ : Type}
namespace strings_Join
noncomputable def g (xs : List ByteArray) (sep : ByteArray) : ByteArray := ⟨(Lib.join (xs.map (·.data.toList)) sep.data.toList).toArray⟩
noncomputable def P (xs : List ByteArray) (sep : ByteArray) : Bool := Nat.ble xs.length 140737488355328 && Nat.ble (Lib.join (xs.map (·.data.toList)) sep.data.toList).length 140737488355328
end strings_Join
namespace strings_Join
theorem ok : True := trivial
end strings_Join
end
end Go.Fw
namespace Go.Fw
noncomputable section
variable {ρ : Type}
namespace impl_FormatInts
noncomputable def g (l : List Int) : ByteArray := itoasB l
def P (l : List Int) : Bool := rowP l
end impl_FormatInts
namespace impl_FormatInts
def Z1 {ρ : Type} (N : Nat) (v0 : LI) (kn : LI → Option ρ) : Option ρ :=
 kn v0
def Z3 {ρ : Type} (N : Nat) (v0 : LI) (kn : LI → Option ρ) : Option ρ :=
 kn v0
def Z6 {ρ : Type} (N : Nat) (v0 : LI) (kn : LI → I2 (Option ρ)) : Option ρ :=
 kn v0 (v0.length : Int) 0
def Z9 {ρ : Type} (N : Nat) (v3 : List ByteArray) (v6 : LI) (v7 v8 : Int) (kn : List ByteArray → LI → I2 (Option ρ)) (k0 : List ByteArray → Option ρ) : Option ρ :=
 cond (lk N (decide (v8 < v7)))
 (
  cond (lk N (inB v8 v6.length)) (
   cond (lk N (impl_FormatInt.P (v6.getD v8.toNat 0))) (
    cond (lk N (Nat.blt (v3.length + ([(impl_FormatInt.g (v6.getD v8.toNat 0))] : List ByteArray).length) 1099511627776)) (
     kn (v3 ++ ([(impl_FormatInt.g (v6.getD v8.toNat 0))] : List ByteArray)) v6 v7 (w64 (v8 + 1))) none) none) none)
 (
  k0 v3)
def Z8L {ρ : Type} (N : Nat) (k0 : List ByteArray → Option ρ) : Nat → List ByteArray → LI → Int → Int → Option ρ
  | 0, _, _, _, _ => none
  | M + 1, v3, v6, v7, v8 => Z9 N v3 v6 v7 v8 (fun v3 v6 v7 v8 => Z8L N k0 M v3 v6 v7 v8) k0
def Z8 N v6 v7 v8 k0 := (Z8L N k0 N ([] : List ByteArray) v6 v7 v8 : Option ρ)
def Z7 N v6 v7 v8 kn := (Z8 N v6 v7 v8 kn : Option ρ)
def Z5 N v0 kn := (Z6 N v0 (fun v6 v7 v8 => Z7 N v6 v7 v8 kn) : Option ρ)
def Z10 {ρ : Type} (N : Nat) (v3 : List ByteArray) (kr : ByteArray → Option ρ) : Option ρ :=
 cond (lk N (strings_Join.P v3 (⟨#[32]⟩ : ByteArray))) (
  kr (strings_Join.g v3 (⟨#[32]⟩ : ByteArray))) none
def Z4 N v0 kr := (Z5 N v0 (fun v3 => Z10 N v3 kr) : Option ρ)
def Z2 N v0 kr := (Z3 N v0 (fun v0 => Z4 N v0 kr) : Option ρ)
def Z0 N v0 kr := (Z1 N v0 (fun v0 => Z2 N v0 kr) : Option ρ)
def Spec : Prop := ∀  (v0 : LI), Ty.bd (.sl 0 (.int .i64)) v0 → P v0 = true → ∃ N0, ∀ N, N0 ≤ N → Z0 N v0 (fun v2 => some ((), (v2, ()))) = some ((), ((g v0), ()))
theorem loop {ρ : Type} {N : Nat} (k0 : List ByteArray → Option ρ) {l : List Int} (hp : rowP l = true) : ∀ (M j : Nat), j ≤ l.length → l.length - j < M → Z8L N k0 M ((l.take j).map itoaB) l (l.length : Int) (j : Int) = k0 (l.map itoaB) := by
  simp only [rowP, Bool.and_eq_true, decide_eq_true_eq] at hp
  intro M
  induction M with
  | zero => intro j _ h; omega
  | succ M ih =>
    intro j hj hM
    simp only [Z8L, Z9]
    by_cases h : j < l.length
    · have h1 : impl_FormatInt.P (l.getD j 0) = true := List.all_eq_true.1 hp.2 _ (getD_mem 0 h)
      have h2 : impl_FormatInt.g (l.getD j 0) = itoaB (l.getD j 0) := rfl
      have h3 : ∀ x : ByteArray, Nat.blt (((l.take j).map itoaB).length + ([x] : List ByteArray).length) 1099511627776 = true := fun x => Nat.ble_eq_true_of_le (by simp; omega)
      rw [ct (dt (by omega)), ct (inB_nat h), Int.toNat_natCast, ct h1, h2, ct (h3 _), w64_succ (by rw [maxLen_val]; omega)]
      have e : (l.take j).map itoaB ++ [itoaB (l.getD j 0)] = (l.take (j + 1)).map itoaB := by rw [← take_getD 0 h, List.map_append]; rfl
      rw [e]
      exact ih (j + 1) h (by omega)
    · rw [cf (df (by omega)), List.take_of_length_le (by omega)]
theorem ok : Spec := fun l hb hp => ⟨l.length + 1, fun N hN => by
  have hp' := hp
  simp only [P, rowP, Bool.and_eq_true, decide_eq_true_eq] at hp'
  simp only [Z1, Z3, Z6, Z9, Z8, Z7, Z5, Z10, Z4, Z2, Z0]
  refine (loop _ hp N 0 (Nat.zero_le _) (by omega)).trans ?_
  have e : ((l.map itoaB).map (·.data.toList)) = l.map Lib.itoa := by
    rw [List.map_map]
    exact List.map_congr_left fun n _ => itoaB_data n
  have hlen := itoas_len hp'.2
  have e2 : (⟨#[32]⟩ : ByteArray).data.toList = [32] := rfl
  have hP : strings_Join.P (l.map itoaB) ⟨#[32]⟩ = true := by
    simp only [strings_Join.P, e, e2, Bool.and_eq_true, List.length_map]
    exact ⟨Nat.ble_eq_true_of_le (by omega), Nat.ble_eq_true_of_le (show (itoasL l).length ≤ _ by omega)⟩
  have hg : strings_Join.g (l.map itoaB) ⟨#[32]⟩ = itoasB l := by
    simp only [strings_Join.g, e, e2]
    rfl
  rw [ct hP, hg]
  rfl⟩
end impl_FormatInts
end
end Go.Fw
namespace Go.Fw
noncomputable section
variable {ρ : Type}
namespace laws_eqIntS
def g (a b : List Int) : Bool := decide (a = b)
end laws_eqIntS
namespace laws_eqIntS
def Z1 {ρ : Type} (N : Nat) (v0 v1 : LI) (kn : LI → LI → Option ρ) : Option ρ :=
 kn v0 v1
def Z3 {ρ : Type} (N : Nat) (v0 v1 : LI) (kn : LI → LI → Option ρ) (kr : Bool → Option ρ) : Option ρ :=
 cond (lk N (!(decide ((v0.length : Int) = (v1.length : Int)))))
 (
  kr false)
 (
  kn v0 v1)
def Z6 {ρ : Type} (N : Nat) (v0 v1 : LI) (kn : LI → LI → Int → Option ρ) : Option ρ :=
 kn v0 v1 0
def Z9 {ρ : Type} (N : Nat) (v0 v1 : LI) (v5 : Int) (kn : LI → LI → Int → Option ρ) (k0 : Option ρ) (kr : Bool → Option ρ) : Option ρ :=
 cond (lk N (decide (v5 < (v0.length : Int))))
 (
  cond (lk N (inB v5 v0.length)) (
   cond (lk N (inB v5 v1.length)) (
    cond (lk N (!(decide ((v0.getD v5.toNat 0) = (v1.getD v5.toNat 0)))))
    (
     kr false)
    (
     kn v0 v1 (w64 (v5 + 1)))) none) none)
 (
  k0)
def Z8L {ρ : Type} (N : Nat) (k0 : Option ρ) (kr : Bool → Option ρ) : Nat → LI → LI → Int → Option ρ
  | 0, _, _, _ => none
  | M + 1, v0, v1, v5 => Z9 N v0 v1 v5 (fun v0 v1 v5 => Z8L N k0 kr M v0 v1 v5) k0 kr
def Z8 N v0 v1 v5 k0 kr := (Z8L N k0 kr N v0 v1 v5 : Option ρ)
def Z7 N v0 v1 v5 kn kr := (Z8 N v0 v1 v5 kn kr : Option ρ)
def Z5 N v0 v1 kn kr := (Z6 N v0 v1 (fun v0 v1 v5 => Z7 N v0 v1 v5 kn kr) : Option ρ)
def Z10 {ρ : Type} (N : Nat)  (kr : Bool → Option ρ) : Option ρ :=
 kr true
def Z4 N v0 v1 kr := (Z5 N v0 v1 (Z10 N kr) kr : Option ρ)
def Z2 N v0 v1 kr := (Z3 N v0 v1 (fun v0 v1 => Z4 N v0 v1 kr) kr : Option ρ)
def Z0 N v0 v1 kr := (Z1 N v0 v1 (fun v0 v1 => Z2 N v0 v1 kr) : Option ρ)
def Spec : Prop := ∀  (v0 v1 : LI), Ty.bd (.sl 0 (.int .i64)) v0 → Ty.bd (.sl 0 (.int .i64)) v1 → ∃ N0, ∀ N, N0 ≤ N → Z0 N v0 v1 (fun v4 => some ((), (v4, ()))) = some ((), ((g v0 v1), ()))
theorem loop {ρ : Type} (N : Nat) (k0 : Option ρ) (kr : Bool → Option ρ) (a b : List Int) (hl : a.length = b.length) (ha : a.length ≤ maxLen) : ∀ (M j : Nat), j ≤ a.length → a.length - j < M →
    Z8L N k0 kr M a b (j : Int) = if a.drop j = b.drop j then k0 else kr false := by
  intro M
  induction M with
  | zero => intro j _ h; omega
  | succ M ih =>
    intro j hj hM
    simp only [Z8L, Z9]
    by_cases h : j < a.length
    · rw [ct (dt (by omega)), ct (inB_nat h), ct (inB_nat (by omega)), Int.toNat_natCast, w64_succ (by omega), ih (j + 1) h (by omega), drop_getD 0 h, drop_getD (l := b) (j := j) 0 (by omega)]
      by_cases e : a.getD j 0 = b.getD j 0
      · rw [cf (nf e), e]
        simp only [List.cons.injEq, true_and]
      · rw [ct (nt e), if_neg (by simp only [List.cons.injEq]; exact fun h => e h.1)]
    · rw [cf (df (by omega)), if_pos (by rw [List.drop_of_length_le (by omega), List.drop_of_length_le (by omega)])]
theorem ok : Spec := fun a b ha hb => ⟨a.length + 1, fun N hN => by
  simp only [Z1, Z3, Z6, Z9, Z8, Z7, Z5, Z10, Z4, Z2, Z0]
  by_cases hl : a.length = b.length
  · rw [cf (nf (by omega))]
    rw [show (0 : Int) = ((0 : Nat) : Int) from rfl, loop _ _ _ a b hl ha.1 N 0 (by omega) (by omega)]
    by_cases e : a = b <;> simp [e, g]
  · rw [ct (nt (by omega))]
    have : a ≠ b := fun e => hl (by rw [e])
    simp [g, this]⟩
end laws_eqIntS
end
end Go.Fw
namespace Go.Fw
noncomputable section
variable {ρ : Type}
namespace laws_FnExactFormatInts
def g (_ : List Int) : Bool := true
def P (l : List Int) : Bool := l.all i64P
end laws_FnExactFormatInts
namespace laws_FnExactFormatInts
def Z0 {ρ : Type} (N : Nat) (v0 : LI) (kr : Bool → Option ρ) : Option ρ :=
 cond (lk N (decide (1048576 < (v0.length : Int))))
 (
  kr true)
 (
  cond (lk N (laws_toIntS.P v0)) (
   cond (lk N (spec_FormatInts.P (laws_toIntS.g v0))) (
    cond (lk N (laws_toIntS.P v0)) (
     cond (lk N (impl_FormatInts.P (laws_toIntS.g v0))) (
      cond (lk N (!(strEq (impl_FormatInts.g (laws_toIntS.g v0)) (spec_FormatInts.g (laws_toIntS.g v0)))))
      (
       kr false)
      (
       cond (lk N (laws_toIntS.P v0)) (
        cond (!(lk N ((laws_eqIntS.g (laws_toIntS.g v0) (laws_toIntS.g v0)))))
        (
         kr false)
        (
         kr true)) none)) none) none) none) none)
def Spec : Prop := ∀  (v0 : LI), Ty.bd (.sl 0 (.int .i64)) v0 → P v0 = true → ∃ N0, ∀ N, N0 ≤ N → Z0 N v0 (fun v2 => some ((), (v2, ()))) = some ((), ((g v0), ()))
theorem ok : Spec := fun l hb hp => ⟨0, fun N hN => by
  by_cases h0 : (1048576 : Int) < l.length
  · simp only [Z0]
    rw [ct (dt h0)]
    rfl
  have hQ := toInt_P l (by omega)
  have hR : rowP l = true := by
    simp only [rowP, Bool.and_eq_true, decide_eq_true_eq]
    exact ⟨by omega, hp⟩
  have h1 : spec_FormatInts.P l = true := hR
  have h2 : impl_FormatInts.P l = true := hR
  have h3 : strEq (impl_FormatInts.g l) (spec_FormatInts.g l) = true := by
    show strEq (itoasB l) (itoasB l) = true
    simp [strEq]
  simp only [Z0, lk_eq, laws_toIntS.g, laws_eqIntS.g, df h0, hQ, h1, h2, h3, g, dt (rfl : l = _)]
  rfl⟩
theorem preok (l : List Int) (h : (l.all fun n => (Lit.int .i64 n).wf) = true) : P l = true := by
  simp only [P, List.all_eq_true] at h ⊢
  intro n hn
  have : -9223372036854775808 ≤ n ∧ n ≤ 9223372036854775807 := by simpa [Lit.wf, IntKind.min, IntKind.max, IntKind.signed, IntKind.bits] using h n hn
  simp only [i64P, Bool.and_eq_true, decide_eq_true_eq]
  exact this
end laws_FnExactFormatInts
end
end Go.Fw
