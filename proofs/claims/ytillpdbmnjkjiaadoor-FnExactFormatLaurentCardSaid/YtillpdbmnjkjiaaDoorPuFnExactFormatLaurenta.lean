/- The plain part: what the functions compute, in lists and numbers. Nothing is assumed. -/
import Derived.Test.YtillpdbmnjkjiaaDoorFwc
import Derived.Lib.ItoaLen
import Derived.Lib.Join
set_option linter.unusedVariables false
namespace Go.Fw
def lexLt : List Int → List Int → Bool
  | [], [] => false
  | [], _ :: _ => true
  | _ :: _, [] => false
  | x :: xs, y :: ys => if x = y then lexLt xs ys else decide (x < y)
def lexCmp : List Int → List Int → Int
  | [], [] => 0
  | [], _ :: _ => -1
  | _ :: _, [] => 1
  | x :: xs, y :: ys => if x = y then lexCmp xs ys else if x < y then -1 else 1
theorem lexCmp_le : ∀ a b : List Int, decide (lexCmp a b ≤ 0) = !(lexLt b a)
  | [], [] => rfl
  | [], _ :: _ => rfl
  | _ :: _, [] => rfl
  | x :: xs, y :: ys => by
    rw [lexCmp, lexLt]
    by_cases h : x = y
    · rw [if_pos h, if_pos h.symm, lexCmp_le xs ys]
    · rw [if_neg h, if_neg (show ¬ y = x from fun e => h e.symm)]
      by_cases h2 : x < y
      · rw [if_pos h2, df (show ¬ y < x by omega)]; rfl
      · rw [if_neg h2, dt (show y < x by omega)]; rfl
theorem lexCmp_lt : ∀ a b : List Int, decide (lexCmp a b < 0) = lexLt a b
  | [], [] => rfl
  | [], _ :: _ => rfl
  | _ :: _, [] => rfl
  | x :: xs, y :: ys => by
    rw [lexCmp, lexLt]
    by_cases h : x = y
    · rw [if_pos h, if_pos h, lexCmp_lt xs ys]
    · rw [if_neg h, if_neg h]
      by_cases h2 : x < y
      · rw [if_pos h2, dt h2]; rfl
      · rw [if_neg h2, df h2]; rfl
def inK (n lo hi : Int) : Bool := decide (lo ≤ n) && decide (n ≤ hi)
def expK (vars : Int) (e : List Int) : Bool := decide ((e.length : Int) = vars) && e.all fun x => inK x (-20) 20
def coefK (c : Int) : Bool := !(decide (c = 0)) && inK c (-1000000) 1000000
def prevE (l : List (List Int × Int)) : Nat → Option (List Int)
  | 0 => none
  | j + 1 => some (l.getD j ([], 0)).1
def belowK : Option (List Int) → List Int → Bool
  | none, _ => true
  | some p, e => lexLt e p
def termsK (vars : Int) : List (List Int × Int) → Option (List Int) → Bool
  | [], _ => true
  | t :: ts, p => expK vars t.1 && (coefK t.2 && (belowK p t.1 && termsK vars ts (some t.1)))
def lokK (f : Int × List (List Int × Int)) : Bool := inK f.1 1 8 && (decide (f.2.length ≤ 600) && termsK f.1 f.2 none)
end Go.Fw
namespace Go.Fw
def upto {α : Type} (n j : Nat) (F G : Nat → α) : List α := (List.range n).map fun i => if i < j then F i else G i
section
variable {α : Type} {n j : Nat} {F G : Nat → α}
theorem upto_len : (upto n j F G).length = n := by simp [upto]
theorem map_getD {i : Nat} (h : i < n) (d : α) : ((List.range n).map F).getD i d = F i := by
  rw [List.getD_eq_getElem?_getD, List.getElem?_map, List.getElem?_range h]
  rfl
theorem upto_get {i : Nat} (h : i < n) (d : α) : (upto n j F G).getD i d = if i < j then F i else G i := map_getD h d
theorem upto_set (h : j < n) : (upto n j F G).set j (F j) = upto n (j + 1) F G := by
  apply List.ext_getElem?
  intro i
  by_cases hi : i < n
  · by_cases e : j = i
    · subst e
      rw [List.getElem?_set_self (by rw [upto_len]; exact h)]
      simp [upto, List.getElem?_map, List.getElem?_range h]
    · rw [List.getElem?_set_ne e]
      simp only [upto, List.getElem?_map, List.getElem?_range hi, Option.map_some]
      by_cases h1 : i < j
      · rw [if_pos h1, if_pos (by omega)]
      · rw [if_neg h1, if_neg (by omega)]
  · rw [List.getElem?_eq_none (by rw [List.length_set, upto_len]; omega), List.getElem?_eq_none (by rw [upto_len]; omega)]
theorem upto_zero : upto n 0 F G = (List.range n).map G := by simp [upto]
theorem upto_full : upto n n F G = (List.range n).map F := by
  unfold upto
  apply List.map_congr_left
  intro i hi
  rw [if_pos (List.mem_range.1 hi)]
theorem list_map {l : List α} (d : α) (h : l.length = n) : (List.range n).map (fun i => l.getD i d) = l := by
  apply List.ext_getElem?
  intro i
  by_cases hi : i < n
  · rw [List.getElem?_map, List.getElem?_range hi, Option.map_some, List.getD_eq_getElem?_getD, List.getElem?_eq_getElem (by omega), Option.getD_some]
  · rw [List.getElem?_eq_none (by simp; omega), List.getElem?_eq_none (by omega)]
end
end Go.Fw
namespace Go.Fw
noncomputable def itoaB (n : Int) : ByteArray := ⟨(Lib.itoa n).toArray⟩
noncomputable def lsd (u : Nat) : List Int := (Lib.decDigits u).reverse.map fun b => (b.toNat : Int)
theorem u8_dig {t : Nat} (h : t < 10) : ((UInt8.ofNat (48 + t)).toNat : Int) = 48 + (t : Int) := by
  rw [UInt8.toNat_ofNat']
  omega
theorem lsd_small {u : Nat} (h : u < 10) : lsd u = [48 + (u : Int)] := by
  rw [lsd, Lib.decDigits, dif_pos h]
  simp only [List.reverse_cons, List.reverse_nil, List.nil_append, List.map_cons, List.map_nil]
  rw [u8_dig h]
theorem lsd_big {u : Nat} (h : ¬ u < 10) : lsd u = (48 + ((u % 10 : Nat) : Int)) :: lsd (u / 10) := by
  rw [lsd, Lib.decDigits, dif_neg h, List.reverse_append]
  simp only [List.reverse_cons, List.reverse_nil, List.nil_append, List.singleton_append, List.map_cons]
  rw [u8_dig (Nat.mod_lt _ (by omega))]
  rfl
theorem nums_of_bytes (l : List UInt8) : strOfNums (l.map fun b => (b.toNat : Int)) = ⟨l.toArray⟩ := by
  unfold strOfNums
  rw [List.map_map]
  congr 2
  conv => rhs; rw [← List.map_id l]
  apply List.map_congr_left
  intro b _
  simp
theorem nums_lsd (u : Nat) : strOfNums (lsd u).reverse = ⟨(Lib.decDigits u).toArray⟩ := by
  rw [lsd, ← List.map_reverse, List.reverse_reverse, nums_of_bytes]
theorem nums_neg (u : Nat) : strOfNums (45 :: (lsd u).reverse) = ⟨(45 :: Lib.decDigits u).toArray⟩ := by
  rw [lsd, ← List.map_reverse, List.reverse_reverse]
  exact nums_of_bytes (45 :: Lib.decDigits u)
theorem tmod_nat (k : Int) : Int.tmod k 10 = if k < 0 then -((k.natAbs % 10 : Nat) : Int) else ((k.natAbs % 10 : Nat) : Int) := by
  split
  · rename_i h
    obtain ⟨u, rfl⟩ : ∃ u : Nat, k = -(u : Int) := ⟨k.natAbs, by omega⟩
    rw [Int.neg_tmod, Int.natAbs_neg, Int.natAbs_natCast]
    rfl
  · rename_i h
    obtain ⟨u, rfl⟩ : ∃ u : Nat, k = (u : Int) := ⟨k.toNat, by omega⟩
    rw [Int.natAbs_natCast]
    rfl
theorem tdiv_nat (k : Int) : Int.tdiv k 10 = if k < 0 then -((k.natAbs / 10 : Nat) : Int) else ((k.natAbs / 10 : Nat) : Int) := by
  split
  · rename_i h
    obtain ⟨u, rfl⟩ : ∃ u : Nat, k = -(u : Int) := ⟨k.natAbs, by omega⟩
    rw [Int.neg_tdiv, Int.natAbs_neg, Int.natAbs_natCast]
    rfl
  · rename_i h
    obtain ⟨u, rfl⟩ : ∃ u : Nat, k = (u : Int) := ⟨k.toNat, by omega⟩
    rw [Int.natAbs_natCast]
    rfl
theorem w8_id {n : Int} (h0 : 0 ≤ n) (h1 : n < 256) : w8 n = n := by
  unfold w8
  rw [IntKind.wrap_u8]
  omega
theorem dig_pos {k : Int} (h : ¬ Int.tmod k 10 < 0) : w8 (w64 (48 + Int.tmod k 10)) = 48 + ((k.natAbs % 10 : Nat) : Int) := by
  have hm : k.natAbs % 10 < 10 := Nat.mod_lt _ (by omega)
  have e : Int.tmod k 10 = ((k.natAbs % 10 : Nat) : Int) := by
    rw [tmod_nat] at h ⊢
    split
    · rename_i hk
      rw [if_pos hk] at h
      omega
    · rfl
  rw [e, w64_id (by omega) (by omega), w8_id (by omega) (by omega)]
theorem dig_neg {k : Int} (h : Int.tmod k 10 < 0) : w8 (w64 (48 + w64 (0 - Int.tmod k 10))) = 48 + ((k.natAbs % 10 : Nat) : Int) := by
  have hm : k.natAbs % 10 < 10 := Nat.mod_lt _ (by omega)
  have e : Int.tmod k 10 = -((k.natAbs % 10 : Nat) : Int) := by
    rw [tmod_nat] at h ⊢
    split
    · rfl
    · rename_i hk
      rw [if_neg hk] at h
      omega
  have e1 : w64 (0 - -((k.natAbs % 10 : Nat) : Int)) = ((k.natAbs % 10 : Nat) : Int) := by rw [w64_id (by omega) (by omega)]; omega
  rw [e, e1, w64_id (by omega) (by omega), w8_id (by omega) (by omega)]
theorem natAbs_tdiv (k : Int) : (Int.tdiv k 10).natAbs = k.natAbs / 10 := by
  rw [tdiv_nat]
  split <;> omega
end Go.Fw
namespace Go.Fw
theorem ba_app (a b : List UInt8) : (⟨a.toArray⟩ : ByteArray) ++ ⟨b.toArray⟩ = ⟨(a ++ b).toArray⟩ := by
  apply ByteArray.ext
  simp
theorem itoaB_data (n : Int) : (itoaB n).data.toList = Lib.itoa n := by simp [itoaB]
theorem itoaB_size {n : Int} (h : i64P n = true) : (itoaB n).size ≤ 21 := by
  simp only [i64P, Bool.and_eq_true, decide_eq_true_eq] at h
  have := Lib.itoa_length_le n h.1 h.2
  show (Lib.itoa n).toArray.size ≤ 21
  simpa using this
noncomputable def itoasL (l : List Int) : List UInt8 := Lib.join (l.map Lib.itoa) [32]
noncomputable def itoasB (l : List Int) : ByteArray := ⟨(itoasL l).toArray⟩
theorem itoas_snoc {l : List Int} (h : l ≠ []) (n : Int) : itoasL (l ++ [n]) = itoasL l ++ [32] ++ Lib.itoa n := by
  unfold itoasL Lib.join
  cases l with
  | nil => exact absurd rfl h
  | cons x xs =>
    rw [List.map_append, List.map_cons, List.map_cons, List.map_nil]
    induction xs generalizing x with
    | nil => simp [List.intercalate, List.intersperse]
    | cons y ys ih =>
      have := ih y (by simp)
      simp only [List.map_cons, List.cons_append, List.intercalate, List.intersperse, List.flatten_cons, List.append_assoc] at this ⊢
      rw [this]
theorem itoas_one (n : Int) : itoasL [n] = Lib.itoa n := by simp [itoasL, Lib.join, List.intercalate]
theorem itoas_nil : itoasL [] = [] := rfl
theorem itoas_len {l : List Int} (h : l.all i64P = true) : (itoasL l).length ≤ 22 * l.length := by
  have key : ∀ j, j ≤ l.length → (itoasL (l.take j)).length ≤ 22 * j := by
    intro j
    induction j with
    | zero => intro _; simp [itoas_nil]
    | succ j ih =>
      intro hj
      have h2 : i64P (l.getD j 0) = true := List.all_eq_true.1 h _ (getD_mem 0 hj)
      have hn : (Lib.itoa (l.getD j 0)).length ≤ 21 := by
        simp only [i64P, Bool.and_eq_true, decide_eq_true_eq] at h2
        exact Lib.itoa_length_le _ h2.1 h2.2
      have := ih (by omega)
      rw [← take_getD 0 hj]
      by_cases he : l.take j = []
      · rw [he, List.nil_append, itoas_one]
        omega
      · rw [itoas_snoc he]
        simp only [List.length_append, List.length_cons, List.length_nil]
        omega
  have := key l.length (Nat.le_refl _)
  rwa [List.take_length] at this
def rowP (l : List Int) : Bool := decide (l.length ≤ 1048576) && l.all i64P
end Go.Fw
namespace Go.Fw
theorem join_snoc {xs : List (List UInt8)} (h : xs ≠ []) (x sep : List UInt8) : Lib.join (xs ++ [x]) sep = Lib.join xs sep ++ sep ++ x := by
  cases xs with
  | nil => exact absurd rfl h
  | cons y ys =>
    rw [List.cons_append, Lib.join_cons, Lib.join_cons]
    simp [Lib.joinTail, List.append_assoc]
theorem join_len {B : Nat} {sep : List UInt8} : ∀ {xs : List (List UInt8)}, (∀ x ∈ xs, x.length ≤ B) → (Lib.join xs sep).length ≤ (B + sep.length) * xs.length
  | [], _ => by simp [Lib.join_nil]
  | y :: ys, h => by
    have hy := h y (List.mem_cons_self ..)
    have ht : ∀ (zs : List (List UInt8)), (∀ z ∈ zs, z.length ≤ B) → (Lib.joinTail sep zs).length ≤ (B + sep.length) * zs.length := by
      intro zs
      induction zs with
      | nil => intro _; simp [Lib.joinTail]
      | cons z zs ih =>
        intro hz
        have h1 := hz z (List.mem_cons_self ..)
        have h2 := ih fun x hx => hz x (List.mem_cons_of_mem _ hx)
        have e : (Lib.joinTail sep (z :: zs)).length = sep.length + z.length + (Lib.joinTail sep zs).length := by simp [Lib.joinTail, List.length_append]; omega
        rw [e, List.length_cons, Nat.mul_succ]
        omega
    have := ht ys fun x hx => h x (List.mem_cons_of_mem _ hx)
    rw [Lib.join_cons, List.length_append, List.length_cons, Nat.mul_succ]
    omega
noncomputable def txt (l : List UInt8) : ByteArray := ⟨l.toArray⟩
theorem txt_size (l : List UInt8) : (txt l).size = l.length := by simp [txt, ByteArray.size]
theorem txt_data (l : List UInt8) : (txt l).data.toList = l := by simp [txt]
theorem txt_app (a b : List UInt8) : txt a ++ txt b = txt (a ++ b) := ba_app a b
theorem itoasB_txt (l : List Int) : itoasB l = txt (itoasL l) := rfl
theorem itoaB_txt (n : Int) : itoaB n = txt (Lib.itoa n) := rfl
theorem map_txt (xs : List (List UInt8)) : (xs.map txt).map (·.data.toList) = xs := by
  rw [List.map_map]
  conv => rhs; rw [← List.map_id xs]
  exact List.map_congr_left fun x _ => txt_data x
end Go.Fw
namespace Go.Fw
noncomputable def termT (t : List Int × Int) : List UInt8 := Lib.itoa t.2 ++ [58] ++ itoasL t.1
noncomputable def termsT (f : Int × List (List Int × Int)) : List (List UInt8) := f.2.map termT
noncomputable def headT (f : Int × List (List Int × Int)) : List UInt8 := Lib.itoa f.1 ++ [124]
noncomputable def fmtL (f : Int × List (List Int × Int)) : ByteArray := txt (headT f ++ (if f.2.length = 0 then [48] else Lib.join (termsT f) [44, 32]))
theorem terms_all (v : Int) : ∀ (l : List (List Int × Int)) (p : Option (List Int)), termsK v l p = true → ∀ t ∈ l, expK v t.1 = true ∧ coefK t.2 = true
  | [], _, _, t, ht => by cases ht
  | x :: xs, p, h, t, ht => by
    simp only [termsK, Bool.and_eq_true] at h
    rcases List.mem_cons.1 ht with rfl | ht
    · exact ⟨h.1, h.2.1⟩
    · exact terms_all v xs _ h.2.2.2 t ht
theorem inK_iff' {n lo hi : Int} : inK n lo hi = true ↔ lo ≤ n ∧ n ≤ hi := by simp [inK]
structure LFacts (f : Int × List (List Int × Int)) : Prop where
  v : 1 ≤ f.1 ∧ f.1 ≤ 8
  n : f.2.length ≤ 600
  c : ∀ t ∈ f.2, i64P t.2 = true
  e : ∀ t ∈ f.2, rowP t.1 = true
  l : ∀ t ∈ f.2, (termT t).length ≤ 250
theorem i64_of {n : Int} (h1 : -2000000000 ≤ n) (h2 : n ≤ 2000000000) : i64P n = true := by
  simp only [i64P, Bool.and_eq_true, decide_eq_true_eq]
  omega
theorem itoa_short {n : Int} (h : i64P n = true) : (Lib.itoa n).length ≤ 21 := by
  simp only [i64P, Bool.and_eq_true, decide_eq_true_eq] at h
  exact Lib.itoa_length_le n h.1 h.2
theorem lfacts {f : Int × List (List Int × Int)} (h : lokK f = true) : LFacts f := by
  simp only [lokK, Bool.and_eq_true, decide_eq_true_eq, inK_iff'] at h
  obtain ⟨h1, h2, h3⟩ := h
  have ht := terms_all _ _ _ h3
  have hc : ∀ t ∈ f.2, i64P t.2 = true := fun t m => by
    have := (ht t m).2
    simp only [coefK, Bool.and_eq_true, inK_iff'] at this
    exact i64_of (by omega) (by omega)
  have hr : ∀ t ∈ f.2, rowP t.1 = true ∧ t.1.length ≤ 8 := fun t m => by
    have := (ht t m).1
    simp only [expK, Bool.and_eq_true, decide_eq_true_eq] at this
    refine ⟨?_, by omega⟩
    simp only [rowP, Bool.and_eq_true, decide_eq_true_eq]
    refine ⟨by omega, List.all_eq_true.2 fun x hx => ?_⟩
    have := inK_iff'.1 (List.all_eq_true.1 this.2 x hx)
    exact i64_of (by omega) (by omega)
  refine ⟨h1, h2, hc, fun t m => (hr t m).1, fun t m => ?_⟩
  have a := itoa_short (hc t m)
  have b := (hr t m).1
  simp only [rowP, Bool.and_eq_true] at b
  have b := itoas_len b.2
  have c := (hr t m).2
  unfold termT
  simp only [List.length_append, List.length_cons, List.length_nil]
  omega
theorem termsT_len (f : Int × List (List Int × Int)) : (termsT f).length = f.2.length := by simp [termsT]
theorem termsT_get {f : Int × List (List Int × Int)} {j : Nat} (h : j < f.2.length) : (termsT f).getD j [] = termT (f.2.getD j ([], 0)) := by
  unfold termsT
  rw [List.getD_eq_getElem?_getD, List.getElem?_map, List.getElem?_eq_getElem h, List.getD_eq_getElem?_getD, List.getElem?_eq_getElem h]
  rfl
theorem partL_len {f : Int × List (List Int × Int)} (h : LFacts f) (j : Nat) : (Lib.join ((termsT f).take j) [44, 32]).length ≤ 252 * 600 := by
  have := join_len (B := 250) (sep := [44, 32]) (xs := (termsT f).take j) fun x hx => by
    obtain ⟨t, ht, rfl⟩ := List.mem_map.1 (List.mem_of_mem_take hx)
    exact h.l t ht
  have h2 : (250 + ([44, 32] : List UInt8).length) * ((termsT f).take j).length ≤ 252 * 600 := Nat.mul_le_mul (by simp) (by rw [List.length_take, termsT_len]; have := h.n; omega)
  omega
theorem headT_len {f : Int × List (List Int × Int)} (h : LFacts f) : (headT f).length ≤ 22 := by
  have := itoa_short (i64_of (n := f.1) (by have := h.v; omega) (by have := h.v; omega))
  unfold headT
  simp only [List.length_append, List.length_cons, List.length_nil]
  omega
end Go.Fw
set_option linter.unusedSimpArgs false
set_option maxRecDepth 100000
namespace Go.Fw
noncomputable section
variable {ρ : Type}
namespace laws_toIntS
def P (a : List Int) : Bool := decide (a.length < 1099511627776)
abbrev g (a : List Int) : List Int := a
end laws_toIntS
namespace laws_toIntS
def Z1 {ρ : Type} (N : Nat) (v0 : LI) (kn : LI → Option ρ) : Option ρ :=
 kn v0
def Z3 {ρ : Type} (N : Nat) (v0 : LI) (kn : LI → LI → Option ρ) : Option ρ :=
 cond (lk N (leB 0 (v0.length : Int) && decide ((v0.length : Int) < 1099511627776))) (
  kn (List.replicate (v0.length : Int).toNat (0 : Int)) v0) none
def Z6 {ρ : Type} (N : Nat) (v3 v0 : LI) (kn : LI → LI → Int → Option ρ) : Option ρ :=
 kn v3 v0 0
def Z9 {ρ : Type} (N : Nat) (v3 v0 : LI) (v4 : Int) (kn : LI → LI → Int → Option ρ) (k0 : LI → Option ρ) : Option ρ :=
 cond (lk N (decide (v4 < (v0.length : Int))))
 (
  cond (lk N (inB v4 v0.length)) (
   cond (lk N (inB v4 v3.length)) (
    kn (v3.set v4.toNat (v0.getD v4.toNat 0)) v0 (w64 (v4 + 1))) none) none)
 (
  k0 v3)
def Z8L {ρ : Type} (N : Nat) (k0 : LI → Option ρ) : Nat → LI → LI → Int → Option ρ
  | 0, _, _, _ => none
  | M + 1, v3, v0, v4 => Z9 N v3 v0 v4 (fun v3 v0 v4 => Z8L N k0 M v3 v0 v4) k0
def Z8 N v3 v0 v4 k0 := (Z8L N k0 N v3 v0 v4 : Option ρ)
def Z7 N v3 v0 v4 kn := (Z8 N v3 v0 v4 kn : Option ρ)
def Z5 N v3 v0 kn := (Z6 N v3 v0 (fun v3 v0 v4 => Z7 N v3 v0 v4 kn) : Option ρ)
def Z10 {ρ : Type} (N : Nat) (v3 : LI) (kr : LI → Option ρ) : Option ρ :=
 kr v3
def Z4 N v3 v0 kr := (Z5 N v3 v0 (fun v3 => Z10 N v3 kr) : Option ρ)
def Z2 N v0 kr := (Z3 N v0 (fun v3 v0 => Z4 N v3 v0 kr) : Option ρ)
def Z0 N v0 kr := (Z1 N v0 (fun v0 => Z2 N v0 kr) : Option ρ)
def Spec : Prop := ∀  (v0 : LI), Ty.bd (.sl 0 (.int .i64)) v0 → P v0 = true → ∃ N0, ∀ N, N0 ≤ N → Z0 N v0 (fun v2 => some ((), (v2, ()))) = some ((), ((g v0), ()))
theorem loop {ρ : Type} (N : Nat) (k0 : List Int → Option ρ) (a : List Int) (ha : a.length ≤ maxLen) : ∀ (M j : Nat) (out : List Int), out.length = a.length → out.take j = a.take j → j ≤ a.length → a.length - j < M →
    Z8L N k0 M out a (j : Int) = k0 a := by
  intro M
  induction M with
  | zero => intro j out _ _ _ h; omega
  | succ M ih =>
    intro j out ho ht hj hM
    simp only [Z8L, Z9]
    by_cases h : j < a.length
    · rw [ct (dt (by omega)), ct (inB_nat h), ct (inB_nat (by omega)), Int.toNat_natCast, w64_succ (by omega)]
      refine ih (j + 1) _ (by simpa using ho) ?_ h (by omega)
      rw [take_set_s (by omega), ht, take_getD 0 h]
    · rw [cf (df (by omega))]
      have : j = a.length := by omega
      subst this
      rw [List.take_of_length_le (by omega), List.take_length] at ht
      rw [ht]
theorem ok : Spec := fun a hb hp => ⟨a.length + 1, fun N hN => by
  have hl : a.length < 1099511627776 := by simpa [P] using hp
  simp only [Z1, Z3, Z6, Z9, Z8, Z7, Z5, Z10, Z4, Z2, Z0]
  rw [ct (by simp [leB]; omega)]
  exact loop _ _ a hb.1 _ 0 _ (by simp) (by simp) (by omega) (by omega)⟩
end laws_toIntS
end
end Go.Fw
namespace Go.Fw
theorem toInt_P (a : List Int) (h : (a.length : Int) ≤ 1048576) : laws_toIntS.P a = true := by
  unfold laws_toIntS.P
  exact dt (by omega)
end Go.Fw
namespace Go.Fw
noncomputable section
variable {ρ : Type}
namespace laws_szIntS
def g (a : List Int) (left : Int) : Int := if w64 (left - a.length) < 0 then -1 else w64 (left - a.length)
end laws_szIntS
namespace laws_szIntS
def Z0 {ρ : Type} (N : Nat) (v0 : LI) (v1 : Int) (kr : Int → Option ρ) : Option ρ :=
 cond (lk N (decide ((w64 (v1 - (v0.length : Int))) < 0)))
 (
  kr (-1))
 (
  kr (w64 (v1 - (v0.length : Int))))
def Spec : Prop := ∀  (v0 : LI) (v1 : Int), Ty.bd (.sl 0 (.int .i64)) v0 → ∃ N0, ∀ N, N0 ≤ N → Z0 N v0 v1 (fun v4 => some ((), (v4, ()))) = some ((), ((g v0 v1), ()))
theorem ok : Spec := fun a left ha => ⟨0, fun N hN => by
  simp only [Z0, g]
  by_cases h : w64 (left - a.length) < 0
  · rw [ct (dt h), if_pos h]
  · rw [cf (df h), if_neg h]⟩
end laws_szIntS
end
end Go.Fw
namespace Go.Fw
theorem szInt_le (a : List Int) (left : Int) (hb : a.length ≤ maxLen) (h0 : 0 ≤ left) (h1 : left ≤ 1048576) (h : ¬ laws_szIntS.g a left < 0) : (a.length : Int) ≤ left ∧ laws_szIntS.g a left = left - a.length := by
  have hw : w64 (left - a.length) = left - a.length := w64_id (by rw [maxLen_val] at hb; omega) (by omega)
  unfold laws_szIntS.g at h ⊢
  rw [hw] at h ⊢
  by_cases hl : left - (a.length : Int) < 0
  · rw [if_pos hl] at h; omega
  · rw [if_neg hl]; omega
end Go.Fw
namespace Go.Fw
noncomputable section
variable {ρ : Type}
namespace laws_szTerm
def g (a : List Int × Int) (left : Int) : Int := if laws_szIntS.g a.1 left < 0 then -1 else laws_szIntS.g a.1 left
end laws_szTerm
namespace laws_szTerm
def Z0 {ρ : Type} (N : Nat) (v0 : LI × Int) (v1 : Int) (kr : Int → Option ρ) : Option ρ :=
 cond (lk N (decide ((laws_szIntS.g v0.1 v1) < 0)))
 (
  kr (-1))
 (
  kr (laws_szIntS.g v0.1 v1))
def Spec : Prop := ∀  (v0 : LI × Int) (v1 : Int), Ty.bd (.pair (.sl 0 (.int .i64)) (.int .i64)) v0 → ∃ N0, ∀ N, N0 ≤ N → Z0 N v0 v1 (fun v4 => some ((), (v4, ()))) = some ((), ((g v0 v1), ()))
theorem ok : Spec := fun a left ha => ⟨0, fun N hN => by
  simp only [Z0, g]
  by_cases h : laws_szIntS.g a.1 left < 0
  · rw [ct (dt h), if_pos h]
  · rw [cf (df h), if_neg h]⟩
end laws_szTerm
end
end Go.Fw
namespace Go.Fw
noncomputable section
variable {ρ : Type}
namespace laws_szTermS
def sz : List (List Int × Int) → Int → Int
  | [], left => left
  | t :: ts, left => if laws_szTerm.g t left < 0 then -1 else sz ts (laws_szTerm.g t left)
def g (a : List (List Int × Int)) (left : Int) : Int := if w64 (left - a.length) < 0 then -1 else sz a (w64 (left - a.length))
end laws_szTermS
namespace laws_szTermS
def Z1 {ρ : Type} (N : Nat) (v0 : List (LI × Int)) (v1 : Int) (kn : (List (LI × Int)) → Int → Option ρ) : Option ρ :=
 kn v0 v1
def Z3 {ρ : Type} (N : Nat) (v0 : List (LI × Int)) (v1 : Int) (kn : (List (LI × Int)) → Int → Option ρ) : Option ρ :=
 kn v0 (w64 (v1 - (v0.length : Int)))
def Z5 {ρ : Type} (N : Nat) (v0 : List (LI × Int)) (v1 : Int) (kn : (List (LI × Int)) → Int → Option ρ) (kr : Int → Option ρ) : Option ρ :=
 cond (lk N (decide (v1 < 0)))
 (
  kr (-1))
 (
  kn v0 v1)
def Z8 {ρ : Type} (N : Nat) (v0 : List (LI × Int)) (v1 : Int) (kn : (List (LI × Int)) → I2 (Option ρ)) : Option ρ :=
 kn v0 v1 0
def Z11 {ρ : Type} (N : Nat) (v0 : List (LI × Int)) (v1 v5 : Int) (kn : (List (LI × Int)) → I2 (Option ρ)) (k0 kr : Int → Option ρ) : Option ρ :=
 cond (lk N (decide (v5 < (v0.length : Int))))
 (
  cond (lk N (inB v5 v0.length)) (
   cond (lk N (decide ((laws_szTerm.g (v0.getD v5.toNat ([], 0)) v1) < 0)))
   (
    kr (-1))
   (
    kn v0 (laws_szTerm.g (v0.getD v5.toNat ([], 0)) v1) (w64 (v5 + 1)))) none)
 (
  k0 v1)
def Z10L {ρ : Type} (N : Nat) (k0 kr : Int → Option ρ) : Nat → (List (LI × Int)) → Int → Int → Option ρ
  | 0, _, _, _ => none
  | M + 1, v0, v1, v5 => Z11 N v0 v1 v5 (fun v0 v1 v5 => Z10L N k0 kr M v0 v1 v5) k0 kr
def Z10 N v0 v1 v5 k0 kr := (Z10L N k0 kr N v0 v1 v5 : Option ρ)
def Z9 N v0 v1 v5 kn kr := (Z10 N v0 v1 v5 kn kr : Option ρ)
def Z7 N v0 v1 kn kr := (Z8 N v0 v1 (fun v0 v1 v5 => Z9 N v0 v1 v5 kn kr) : Option ρ)
def Z12 {ρ : Type} (N : Nat) (v1 : Int) (kr : Int → Option ρ) : Option ρ :=
 kr v1
def Z6 N v0 v1 kr := (Z7 N v0 v1 (fun v1 => Z12 N v1 kr) kr : Option ρ)
def Z4 N v0 v1 kr := (Z5 N v0 v1 (fun v0 v1 => Z6 N v0 v1 kr) kr : Option ρ)
def Z2 N v0 v1 kr := (Z3 N v0 v1 (fun v0 v1 => Z4 N v0 v1 kr) : Option ρ)
def Z0 N v0 v1 kr := (Z1 N v0 v1 (fun v0 v1 => Z2 N v0 v1 kr) : Option ρ)
def Spec : Prop := ∀  (v0 : List (LI × Int)) (v1 : Int), Ty.bd (.sl 0 (.pair (.sl 0 (.int .i64)) (.int .i64))) v0 → ∃ N0, ∀ N, N0 ≤ N → Z0 N v0 v1 (fun v4 => some ((), (v4, ()))) = some ((), ((g v0 v1), ()))
theorem loop {ρ : Type} (N : Nat) (kr : Int → Option ρ) (a : List (List Int × Int)) (ha : a.length ≤ maxLen) : ∀ (M j : Nat) (k : Int), j ≤ a.length → a.length - j < M →
    Z10L N kr kr M a k (j : Int) = kr (sz (a.drop j) k) := by
  intro M
  induction M with
  | zero => intro j k _ h; omega
  | succ M ih =>
    intro j k hj hM
    simp only [Z10L, Z11]
    by_cases h : j < a.length
    · rw [ct (dt (by omega)), ct (inB_nat h), Int.toNat_natCast, w64_succ (by omega), ih (j + 1) _ h (by omega), drop_getD ([], 0) h]
      by_cases e : laws_szTerm.g (a.getD j ([], 0)) k < 0
      · rw [ct (dt e), sz, if_pos e]
      · rw [cf (df e), sz, if_neg e]
    · rw [cf (df (by omega)), List.drop_of_length_le (by omega), sz]
theorem ok : Spec := fun a left ha => ⟨a.length + 1, fun N hN => by
  simp only [Z1, Z3, Z5, Z8, Z11, Z10, Z9, Z7, Z12, Z6, Z4, Z2, Z0, g]
  by_cases h : w64 (left - a.length) < 0
  · rw [ct (dt h), if_pos h]
  · rw [cf (df h), if_neg h]
    rw [show (0 : Int) = ((0 : Nat) : Int) from rfl, loop _ _ a ha.1 N 0 _ (by omega) (by omega)]
    simp⟩
end laws_szTermS
end
end Go.Fw
namespace Go.Fw
noncomputable section
variable {ρ : Type}
namespace laws_szLaurent
def g (a : Int × List (List Int × Int)) (left : Int) : Int := if laws_szTermS.g a.2 left < 0 then -1 else laws_szTermS.g a.2 left
end laws_szLaurent
namespace laws_szLaurent
def Z0 {ρ : Type} (N : Nat) (v0 : Int × List (LI × Int)) (v1 : Int) (kr : Int → Option ρ) : Option ρ :=
 cond (lk N (decide ((laws_szTermS.g v0.2 v1) < 0)))
 (
  kr (-1))
 (
  kr (laws_szTermS.g v0.2 v1))
def Spec : Prop := ∀  (v0 : Int × List (LI × Int)) (v1 : Int), Ty.bd (.pair (.int .i64) (.sl 0 (.pair (.sl 0 (.int .i64)) (.int .i64)))) v0 → ∃ N0, ∀ N, N0 ≤ N → Z0 N v0 v1 (fun v4 => some ((), (v4, ()))) = some ((), ((g v0 v1), ()))
theorem ok : Spec := fun a left ha => ⟨0, fun N hN => by
  simp only [Z0, g]
  by_cases h : laws_szTermS.g a.2 left < 0
  · rw [ct (dt h), if_pos h]
  · rw [cf (df h), if_neg h]⟩
end laws_szLaurent
end
end Go.Fw
namespace Go.Fw
noncomputable section
variable {ρ : Type}
namespace laws_toTerm
def P (a : List Int × Int) : Bool := laws_toIntS.P a.1
abbrev g (a : List Int × Int) : List Int × Int := a
end laws_toTerm
namespace laws_toTerm
def Z0 {ρ : Type} (N : Nat) (v0 : LI × Int) (kr : LI → Int → Option ρ) : Option ρ :=
 cond (lk N (laws_toIntS.P v0.1)) (
  kr (laws_toIntS.g v0.1) v0.2) none
def Spec : Prop := ∀  (v0 : LI × Int), Ty.bd (.pair (.sl 0 (.int .i64)) (.int .i64)) v0 → P v0 = true → ∃ N0, ∀ N, N0 ≤ N → Z0 N v0 (fun v2_0 v2_1 => some ((), ((v2_0, v2_1), ()))) = some ((), ((g v0), ()))
theorem ok : Spec := fun a hb hp => ⟨0, fun N hN => by
  simp only [Z0]
  exact ct (show laws_toIntS.P a.1 = true from hp)⟩
end laws_toTerm
end
end Go.Fw
namespace Go.Fw
noncomputable section
variable {ρ : Type}
namespace laws_toTermS
def P (a : List (List Int × Int)) : Bool := decide (a.length < 1099511627776) && a.all laws_toTerm.P
abbrev g (a : List (List Int × Int)) : List (List Int × Int) := a
end laws_toTermS
namespace laws_toTermS
def Z1 {ρ : Type} (N : Nat) (v0 : List (LI × Int)) (kn : (List (LI × Int)) → Option ρ) : Option ρ :=
 kn v0
def Z3 {ρ : Type} (N : Nat) (v0 : List (LI × Int)) (kn : (List (LI × Int)) → (List (LI × Int)) → Option ρ) : Option ρ :=
 cond (lk N (leB 0 (v0.length : Int) && decide ((v0.length : Int) < 1099511627776))) (
  kn (List.replicate (v0.length : Int).toNat ((([] : List Int), 0) : LI × Int)) v0) none
def Z6 {ρ : Type} (N : Nat) (v3 v0 : List (LI × Int)) (kn : (List (LI × Int)) → (List (LI × Int)) → Int → Option ρ) : Option ρ :=
 kn v3 v0 0
def Z9 {ρ : Type} (N : Nat) (v3 v0 : List (LI × Int)) (v4 : Int) (kn : (List (LI × Int)) → (List (LI × Int)) → Int → Option ρ) (k0 : (List (LI × Int)) → Option ρ) : Option ρ :=
 cond (lk N (decide (v4 < (v0.length : Int))))
 (
  cond (lk N (inB v4 v0.length)) (
   cond (lk N (laws_toTerm.P (v0.getD v4.toNat ([], 0)))) (
    cond (lk N (inB v4 v3.length)) (
     kn (v3.set v4.toNat (laws_toTerm.g (v0.getD v4.toNat ([], 0)))) v0 (w64 (v4 + 1))) none) none) none)
 (
  k0 v3)
def Z8L {ρ : Type} (N : Nat) (k0 : (List (LI × Int)) → Option ρ) : Nat → (List (LI × Int)) → (List (LI × Int)) → Int → Option ρ
  | 0, _, _, _ => none
  | M + 1, v3, v0, v4 => Z9 N v3 v0 v4 (fun v3 v0 v4 => Z8L N k0 M v3 v0 v4) k0
def Z8 N v3 v0 v4 k0 := (Z8L N k0 N v3 v0 v4 : Option ρ)
def Z7 N v3 v0 v4 kn := (Z8 N v3 v0 v4 kn : Option ρ)
def Z5 N v3 v0 kn := (Z6 N v3 v0 (fun v3 v0 v4 => Z7 N v3 v0 v4 kn) : Option ρ)
def Z10 {ρ : Type} (N : Nat) (v3 : List (LI × Int)) (kr : (List (LI × Int)) → Option ρ) : Option ρ :=
 kr v3
def Z4 N v3 v0 kr := (Z5 N v3 v0 (fun v3 => Z10 N v3 kr) : Option ρ)
def Z2 N v0 kr := (Z3 N v0 (fun v3 v0 => Z4 N v3 v0 kr) : Option ρ)
def Z0 N v0 kr := (Z1 N v0 (fun v0 => Z2 N v0 kr) : Option ρ)
def Spec : Prop := ∀  (v0 : List (LI × Int)), Ty.bd (.sl 0 (.pair (.sl 0 (.int .i64)) (.int .i64))) v0 → P v0 = true → ∃ N0, ∀ N, N0 ≤ N → Z0 N v0 (fun v2 => some ((), (v2, ()))) = some ((), ((g v0), ()))
theorem loop {ρ : Type} (N : Nat) (k0 : List (List Int × Int) → Option ρ) (a : List (List Int × Int)) (ha : a.length ≤ maxLen) (hp : ∀ t ∈ a, laws_toTerm.P t = true) : ∀ (M j : Nat) (out : List (List Int × Int)), out.length = a.length → out.take j = a.take j → j ≤ a.length → a.length - j < M →
    Z8L N k0 M out a (j : Int) = k0 a := by
  intro M
  induction M with
  | zero => intro j out _ _ _ h; omega
  | succ M ih =>
    intro j out ho ht hj hM
    simp only [Z8L, Z9]
    by_cases h : j < a.length
    · rw [ct (dt (by omega)), ct (inB_nat h), Int.toNat_natCast, ct (hp _ (getD_mem _ h)), ct (inB_nat (by omega)), w64_succ (by omega)]
      refine ih (j + 1) _ (by simpa using ho) ?_ h (by omega)
      rw [take_set_s (by omega), ht]
      exact take_getD ([], 0) h
    · rw [cf (df (by omega))]
      have : j = a.length := by omega
      subst this
      rw [List.take_of_length_le (by omega), List.take_length] at ht
      rw [ht]
theorem ok : Spec := fun a hb hp => ⟨a.length + 1, fun N hN => by
  simp only [P, Bool.and_eq_true, decide_eq_true_eq, List.all_eq_true] at hp
  have hl := hp.1
  simp only [Z1, Z3, Z6, Z9, Z8, Z7, Z5, Z10, Z4, Z2, Z0]
  rw [ct (by simp [leB]; omega)]
  exact loop _ _ a hb.1 hp.2 _ 0 _ (by simp) (by simp) (by omega) (by omega)⟩
end laws_toTermS
end
end Go.Fw
namespace Go.Fw
noncomputable section
variable {ρ : Type}
namespace laws_toLaurent
def P (a : Int × List (List Int × Int)) : Bool := laws_toTermS.P a.2
abbrev g (a : Int × List (List Int × Int)) : Int × List (List Int × Int) := a
end laws_toLaurent
namespace laws_toLaurent
def Z0 {ρ : Type} (N : Nat) (v0 : Int × List (LI × Int)) (kr : (List (LI × Int)) → Int → Option ρ) : Option ρ :=
 cond (lk N (laws_toTermS.P v0.2)) (
  kr (laws_toTermS.g v0.2) v0.1) none
def Spec : Prop := ∀  (v0 : Int × List (LI × Int)), Ty.bd (.pair (.int .i64) (.sl 0 (.pair (.sl 0 (.int .i64)) (.int .i64)))) v0 → P v0 = true → ∃ N0, ∀ N, N0 ≤ N → Z0 N v0 (fun v2_1 v2_0 => some ((), ((v2_0, v2_1), ()))) = some ((), ((g v0), ()))
theorem ok : Spec := fun a hb hp => ⟨0, fun N hN => by
  simp only [Z0]
  exact ct (show laws_toTermS.P a.2 = true from hp)⟩
end laws_toLaurent
end
end Go.Fw
namespace Go.Fw
theorem szTerms_P : ∀ (l : List (List Int × Int)) (left : Int), (∀ t ∈ l, t.1.length ≤ maxLen) → 0 ≤ left → left ≤ 1048576 → ¬ laws_szTermS.sz l left < 0 → ∀ t ∈ l, laws_toTerm.P t = true
  | [], _, _, _, _, _, t, ht => by cases ht
  | x :: xs, left, hb, h0, h1, h, t, ht => by
    rw [laws_szTermS.sz] at h
    by_cases e : laws_szTerm.g x left < 0
    · rw [if_pos e] at h; omega
    rw [if_neg e] at h
    have e' : ¬ laws_szIntS.g x.1 left < 0 := by
      intro hlt
      apply e
      unfold laws_szTerm.g
      rw [if_pos hlt]
      omega
    obtain ⟨a1, a2⟩ := szInt_le x.1 left (hb x List.mem_cons_self) h0 h1 e'
    have e2 : laws_szTerm.g x left = left - x.1.length := by
      unfold laws_szTerm.g
      rw [if_neg e', a2]
    rcases List.mem_cons.1 ht with rfl | ht
    · exact toInt_P _ (by omega)
    · rw [e2] at h
      exact szTerms_P xs _ (fun t h => hb t (List.mem_cons_of_mem _ h)) (by omega) (by omega) h t ht
theorem szLau_P (f : Int × List (List Int × Int)) (hb : Ty.bd (.pair (.int .i64) (.sl 0 (.pair (.sl 0 (.int .i64)) (.int .i64)))) f) (h : ¬ laws_szLaurent.g f 1048576 < 0) : laws_toLaurent.P f = true := by
  obtain ⟨_, hb1, hb2⟩ := hb
  have h' : ¬ laws_szTermS.g f.2 1048576 < 0 := by
    unfold laws_szLaurent.g at h
    by_cases e : laws_szTermS.g f.2 1048576 < 0
    · rw [if_pos e] at h; omega
    · exact e
  have hw : w64 (1048576 - (f.2.length : Int)) = 1048576 - f.2.length := w64_id (by rw [maxLen_val] at hb1; omega) (by omega)
  unfold laws_szTermS.g at h'
  rw [hw] at h'
  by_cases hl : (1048576 : Int) - f.2.length < 0
  · rw [if_pos hl] at h'; omega
  rw [if_neg hl] at h'
  have := szTerms_P f.2 _ (fun t ht => (hb2 t ht).1.1) (by omega) (by omega) h'
  show laws_toTermS.P f.2 = true
  unfold laws_toTermS.P
  rw [Bool.and_eq_true]
  exact ⟨dt (by omega), List.all_eq_true.2 this⟩
end Go.Fw
namespace Go.Fw
noncomputable section
variable {ρ : Type}
namespace spec_l1In
def g (n low high : Int) : Bool := inK n low high
end spec_l1In
namespace spec_l1In
def Z0 {ρ : Type} (N : Nat) (v0 v1 v2 : Int) (kr : Bool → Option ρ) : Option ρ :=
 cond (lk N (decide (v1 ≤ v0)))
 (
  kr (lk N (decide (v0 ≤ v2))))
 (
  kr false)
def Spec : Prop := ∀  (v0 v1 v2 : Int), ∃ N0, ∀ N, N0 ≤ N → Z0 N v0 v1 v2 (fun v6 => some ((), (v6, ()))) = some ((), ((g v0 v1 v2), ()))
theorem ok : Spec := fun n low high => ⟨0, fun N hN => by
  simp only [Z0, lk_eq, g, inK]
  cases decide (low ≤ n) <;> rfl⟩
end spec_l1In
end
end Go.Fw
namespace Go.Fw
noncomputable section
variable {ρ : Type}
namespace spec_l1Less
def g (a b : List Int) : Bool := lexLt a b
end spec_l1Less
namespace spec_l1Less
def Z1 {ρ : Type} (N : Nat) (v0 v1 : LI) (kn : LI → LI → Option ρ) : Option ρ :=
 kn v0 v1
def Z4 {ρ : Type} (N : Nat) (v0 v1 : LI) (kn : LI → LI → Int → Option ρ) : Option ρ :=
 kn v0 v1 0
def Z7 {ρ : Type} (N : Nat) (v0 v1 : LI) (v5 : Int) (kn : LI → LI → Int → Option ρ) (k0 : LI → LI → Option ρ) (kr : Bool → Option ρ) : Option ρ :=
 cond (lk N (decide (v5 < (v0.length : Int))))
 (
  cond (lk N (decide (v5 < (v1.length : Int))))
  (
   cond (lk N (inB v5 v0.length)) (
    cond (lk N (inB v5 v1.length)) (
     cond (lk N (!(decide ((v0.getD v5.toNat 0) = (v1.getD v5.toNat 0)))))
     (
      cond (lk N (inB v5 v0.length)) (
       cond (lk N (inB v5 v1.length)) (
        kr (lk N (decide ((v0.getD v5.toNat 0) < (v1.getD v5.toNat 0))))) none) none)
     (
      kn v0 v1 (w64 (v5 + 1)))) none) none)
  (
   k0 v0 v1))
 (
  k0 v0 v1)
def Z6L {ρ : Type} (N : Nat) (k0 : LI → LI → Option ρ) (kr : Bool → Option ρ) : Nat → LI → LI → Int → Option ρ
  | 0, _, _, _ => none
  | M + 1, v0, v1, v5 => Z7 N v0 v1 v5 (fun v0 v1 v5 => Z6L N k0 kr M v0 v1 v5) k0 kr
def Z6 N v0 v1 v5 k0 kr := (Z6L N k0 kr N v0 v1 v5 : Option ρ)
def Z5 N v0 v1 v5 kn kr := (Z6 N v0 v1 v5 kn kr : Option ρ)
def Z3 N v0 v1 kn kr := (Z4 N v0 v1 (fun v0 v1 v5 => Z5 N v0 v1 v5 kn kr) : Option ρ)
def Z8 {ρ : Type} (N : Nat) (v0 v1 : LI) (kr : Bool → Option ρ) : Option ρ :=
 kr (lk N (decide ((v0.length : Int) < (v1.length : Int))))
def Z2 N v0 v1 kr := (Z3 N v0 v1 (fun v0 v1 => Z8 N v0 v1 kr) kr : Option ρ)
def Z0 N v0 v1 kr := (Z1 N v0 v1 (fun v0 v1 => Z2 N v0 v1 kr) : Option ρ)
def Spec : Prop := ∀  (v0 v1 : LI), Ty.bd (.sl 0 (.int .i64)) v0 → Ty.bd (.sl 0 (.int .i64)) v1 → ∃ N0, ∀ N, N0 ≤ N → Z0 N v0 v1 (fun v4 => some ((), (v4, ()))) = some ((), ((g v0 v1), ()))
theorem loop {ρ : Type} (N : Nat) (k0 : List Int → List Int → Option ρ) (kr : Bool → Option ρ) (a b : List Int) (ha : a.length ≤ maxLen) (h0 : k0 a b = kr (decide (a.length < b.length))) : ∀ (M j : Nat), j ≤ a.length → j ≤ b.length → a.length - j < M →
    Z6L N k0 kr M a b (j : Int) = kr (lexLt (a.drop j) (b.drop j)) := by
  intro M
  induction M with
  | zero => intro j _ _ h; omega
  | succ M ih =>
    intro j hj hb hM
    simp only [Z6L, Z7]
    by_cases h : j < a.length
    · rw [ct (dt (by omega)), drop_getD 0 h]
      by_cases h2 : j < b.length
      · rw [ct (dt (by omega)), ct (inB_nat h), ct (inB_nat h2), Int.toNat_natCast, w64_succ (by omega), drop_getD (l := b) 0 h2, lexLt, ih (j + 1) h h2 (by omega)]
        by_cases e : a.getD j 0 = b.getD j 0
        · rw [cf (nf e), if_pos e]
        · rw [ct (nt e), if_neg e, ct (inB_nat h), ct (inB_nat h2), lk_eq]
      · rw [cf (df (by omega)), List.drop_of_length_le (l := b) (by omega), h0, df (by omega)]
        rfl
    · rw [cf (df (by omega)), List.drop_of_length_le (by omega), h0]
      by_cases h2 : j < b.length
      · rw [dt (by omega), drop_getD (l := b) 0 h2]; rfl
      · rw [df (by omega), List.drop_of_length_le (l := b) (by omega)]; rfl
theorem ok : Spec := fun a b ha hb => ⟨a.length + 1, fun N hN => by
  simp only [Z1, Z4, Z7, Z6, Z5, Z3, Z8, Z2, Z0]
  refine (loop N _ (fun t => some ((), (t, ()))) a b ha.1 ?_ N 0 (by omega) (by omega) (by omega)).trans rfl
  rw [lk_eq, show decide ((a.length : Int) < (b.length : Int)) = decide (a.length < b.length) from decide_eq_decide.2 (by omega)]⟩
end spec_l1Less
end
end Go.Fw
namespace Go.Fw
noncomputable section
variable {ρ : Type}
namespace spec_l2Right
def g (f : Int × List (List Int × Int)) : Bool := lokK f
end spec_l2Right
namespace spec_l2Right
def Z1 {ρ : Type} (N : Nat) (v0 : Int × List (LI × Int)) (kn : Int → (List (LI × Int)) → Option ρ) : Option ρ :=
 kn v0.1 v0.2
def Z3 {ρ : Type} (N : Nat) (v1_0 : Int) (v1_1 : List (LI × Int)) (kn : Int → (List (LI × Int)) → Option ρ) (kr : Bool → Option ρ) : Option ρ :=
 cond (!(lk N ((spec_l1In.g v1_0 1 8))))
 (
  kr false)
 (
  cond (lk N (decide (600 < (v1_1.length : Int))))
  (
   kr false)
  (
   kn v1_0 v1_1))
def Z6 {ρ : Type} (N : Nat) (v1_0 : Int) (v1_1 : List (LI × Int)) (kn : I2 ((List (LI × Int)) → Option ρ)) : Option ρ :=
 kn 0 v1_0 v1_1
def Z10 {ρ : Type} (N : Nat) (v3 v1_0 : Int) (v1_1 : List (LI × Int)) (kn : I2 ((List (LI × Int)) → Option ρ)) (k0 : Option ρ) : Option ρ :=
 cond (lk N (decide (v3 < (v1_1.length : Int))))
 (
  kn v3 v1_0 v1_1)
 (
  k0)
def Z14 {ρ : Type} (N : Nat) (v3 v1_0 : Int) (v1_1 : List (LI × Int)) (kn : I2 ((List (LI × Int)) → LI → Int → Option ρ)) : Option ρ :=
 cond (lk N (inB v3 v1_1.length)) (
  kn v3 v1_0 v1_1 (v1_1.getD v3.toNat ([], 0)).1 (v1_1.getD v3.toNat ([], 0)).2) none
def Z16 {ρ : Type} (N : Nat) (v3 v1_0 : Int) (v1_1 : List (LI × Int)) (v4_0 : LI) (v4_1 : Int) (kn : I2 ((List (LI × Int)) → LI → Int → Option ρ)) (kr : Bool → Option ρ) : Option ρ :=
 cond (lk N (!(decide ((v4_0.length : Int) = v1_0))))
 (
  kr false)
 (
  cond (lk N (decide (v4_1 = 0)))
  (
   kr false)
  (
   cond (!(lk N ((spec_l1In.g v4_1 (-1000000) 1000000))))
   (
    kr false)
   (
    cond (lk N (decide (0 < v3)))
    (
     cond (lk N (inB (w64 (v3 - 1)) v1_1.length)) (
      cond (!(lk N ((spec_l1Less.g v4_0 (v1_1.getD (w64 (v3 - 1)).toNat ([], 0)).1))))
      (
       kr false)
      (
       kn v3 v1_0 v1_1 v4_0 v4_1)) none)
    (
     kn v3 v1_0 v1_1 v4_0 v4_1))))
def Z18 {ρ : Type} (N : Nat) (v3 v1_0 : Int) (v1_1 : List (LI × Int)) (v4_0 : LI) (v4_1 : Int) (kn : I3 ((List (LI × Int)) → LI → Int → Option ρ)) : Option ρ :=
 kn v3 0 v1_0 v1_1 v4_0 v4_1
def Z21 {ρ : Type} (N : Nat) (v3 v5 v1_0 : Int) (v1_1 : List (LI × Int)) (v4_0 : LI) (v4_1 : Int) (kn : I3 ((List (LI × Int)) → LI → Int → Option ρ)) (k2 : I2 ((List (LI × Int)) → Option ρ)) (kr : Bool → Option ρ) : Option ρ :=
 cond (lk N (decide (v5 < v1_0)))
 (
  cond (lk N (inB v5 v4_0.length)) (
   cond (!(lk N ((spec_l1In.g (v4_0.getD v5.toNat 0) (-20) 20))))
   (
    kr false)
   (
    kn v3 (w64 (v5 + 1)) v1_0 v1_1 v4_0 v4_1)) none)
 (
  k2 v3 v1_0 v1_1)
def Z20L {ρ : Type} (N : Nat) (k2 : I2 ((List (LI × Int)) → Option ρ)) (kr : Bool → Option ρ) : Nat → Int → Int → Int → (List (LI × Int)) → LI → Int → Option ρ
  | 0, _, _, _, _, _, _ => none
  | M + 1, v3, v5, v1_0, v1_1, v4_0, v4_1 => Z21 N v3 v5 v1_0 v1_1 v4_0 v4_1 (fun v3 v5 v1_0 v1_1 v4_0 v4_1 => Z20L N k2 kr M v3 v5 v1_0 v1_1 v4_0 v4_1) k2 kr
def Z20 N v3 v5 v1_0 v1_1 v4_0 v4_1 k2 kr := (Z20L N k2 kr N v3 v5 v1_0 v1_1 v4_0 v4_1 : Option ρ)
def Z19 N v3 v5 v1_0 v1_1 v4_0 v4_1 kn kr := (Z20 N v3 v5 v1_0 v1_1 v4_0 v4_1 kn kr : Option ρ)
def Z17 N v3 v1_0 v1_1 v4_0 v4_1 kn kr := (Z18 N v3 v1_0 v1_1 v4_0 v4_1 (fun v3 v5 v1_0 v1_1 v4_0 v4_1 => Z19 N v3 v5 v1_0 v1_1 v4_0 v4_1 kn kr) : Option ρ)
def Z15 N v3 v1_0 v1_1 v4_0 v4_1 kn kr := (Z16 N v3 v1_0 v1_1 v4_0 v4_1 (fun v3 v1_0 v1_1 v4_0 v4_1 => Z17 N v3 v1_0 v1_1 v4_0 v4_1 kn kr) kr : Option ρ)
def Z13 N v3 v1_0 v1_1 kn kr := (Z14 N v3 v1_0 v1_1 (fun v3 v1_0 v1_1 v4_0 v4_1 => Z15 N v3 v1_0 v1_1 v4_0 v4_1 kn kr) : Option ρ)
def Z12 N v3 v1_0 v1_1 kn kr := (Z13 N v3 v1_0 v1_1 kn kr : Option ρ)
def Z22 {ρ : Type} (N : Nat) (v3 v1_0 : Int) (v1_1 : List (LI × Int)) (kn : I2 ((List (LI × Int)) → Option ρ)) : Option ρ :=
 kn (w64 (v3 + 1)) v1_0 v1_1
def Z11 N v3 v1_0 v1_1 kn kr := (Z12 N v3 v1_0 v1_1 (fun v3 v1_0 v1_1 => Z22 N v3 v1_0 v1_1 kn) kr : Option ρ)
def Z9 N v3 v1_0 v1_1 kn k0 kr := (Z10 N v3 v1_0 v1_1 (fun v3 v1_0 v1_1 => Z11 N v3 v1_0 v1_1 kn kr) k0 : Option ρ)
def Z8L {ρ : Type} (N : Nat) (k0 : Option ρ) (kr : Bool → Option ρ) : Nat → Int → Int → (List (LI × Int)) → Option ρ
  | 0, _, _, _ => none
  | M + 1, v3, v1_0, v1_1 => Z9 N v3 v1_0 v1_1 (fun v3 v1_0 v1_1 => Z8L N k0 kr M v3 v1_0 v1_1) k0 kr
def Z8 N v3 v1_0 v1_1 k0 kr := (Z8L N k0 kr N v3 v1_0 v1_1 : Option ρ)
def Z7 N v3 v1_0 v1_1 kn kr := (Z8 N v3 v1_0 v1_1 kn kr : Option ρ)
def Z5 N v1_0 v1_1 kn kr := (Z6 N v1_0 v1_1 (fun v3 v1_0 v1_1 => Z7 N v3 v1_0 v1_1 kn kr) : Option ρ)
def Z23 {ρ : Type} (N : Nat)  (kr : Bool → Option ρ) : Option ρ :=
 kr true
def Z4 N v1_0 v1_1 kr := (Z5 N v1_0 v1_1 (Z23 N kr) kr : Option ρ)
def Z2 N v1_0 v1_1 kr := (Z3 N v1_0 v1_1 (fun v1_0 v1_1 => Z4 N v1_0 v1_1 kr) kr : Option ρ)
def Z0 N v0 kr := (Z1 N v0 (fun v1_0 v1_1 => Z2 N v1_0 v1_1 kr) : Option ρ)
def Spec : Prop := ∀  (v0 : Int × List (LI × Int)), Ty.bd (.pair (.int .i64) (.sl 0 (.pair (.sl 0 (.int .i64)) (.int .i64)))) v0 → ∃ N0, ∀ N, N0 ≤ N → Z0 N v0 (fun v2 => some ((), (v2, ()))) = some ((), ((g v0), ()))
theorem inner {ρ : Type} (N : Nat) (k2 : Int → Int → List (List Int × Int) → Option ρ) (kr : Bool → Option ρ) (k v : Int) (l : List (List Int × Int)) (e : List Int) (c : Int) (he : e.length ≤ maxLen) (hv : (e.length : Int) = v) : ∀ (M j : Nat), j ≤ e.length → e.length - j < M →
    Z20L N k2 kr M k (j : Int) v l e c = cond ((e.drop j).all fun x => inK x (-20) 20) (k2 k v l) (kr false) := by
  intro M
  induction M with
  | zero => intro j _ h; omega
  | succ M ih =>
    intro j hj hM
    simp only [Z20L, Z21]
    by_cases h : j < e.length
    · rw [ct (dt (by omega)), ct (inB_nat h), Int.toNat_natCast, w64_succ (by omega), drop_getD 0 h, List.all_cons, ih (j + 1) h (by omega)]
      simp only [lk_eq, spec_l1In.g]
      cases inK (e.getD j 0) (-20) 20 <;> rfl
    · rw [cf (df (by omega)), List.drop_of_length_le (by omega)]; rfl
theorem loop {ρ : Type} (N : Nat) (kr : Bool → Option ρ) (v : Int) (l : List (List Int × Int)) (hl : l.length ≤ maxLen) (hv : inK v 1 8 = true) (hN : 10 ≤ N) : ∀ (M j : Nat), j ≤ l.length → l.length - j < M →
    Z8L N (kr true) kr M (j : Int) v l = kr (termsK v (l.drop j) (prevE l j)) := by
  simp only [inK, Bool.and_eq_true, decide_eq_true_eq] at hv
  intro M
  induction M with
  | zero => intro j _ h; omega
  | succ M ih =>
    intro j hj hM
    simp only [Z8L, Z1, Z3, Z6, Z10, Z14, Z16, Z18, Z21, Z20, Z19, Z17, Z15, Z13, Z12, Z22, Z11, Z9, Z8, Z7, Z5, Z23, Z4, Z2, Z0]
    by_cases h : j < l.length
    · rw [ct (dt (by omega)), ct (inB_nat h), Int.toNat_natCast, drop_getD ([], 0) h, termsK]
      by_cases hlen : ((l.getD j ([], 0)).1.length : Int) = v
      · rw [cf (nf hlen)]
        have hin := inner (ρ := ρ) N (fun k3 f1_0 f1_1 => Z8L N (kr true) kr M (w64 (k3 + 1)) f1_0 f1_1) kr j v l (l.getD j ([], 0)).1 (l.getD j ([], 0)).2 (by rw [maxLen_val]; omega) hlen N 0 (by omega) (by omega)
        rw [List.drop_zero, w64_succ (by omega), ih (j + 1) h (by omega)] at hin
        rw [show (((0 : Nat) : Int)) = 0 from rfl] at hin
        simp only [lk_eq, spec_l1In.g, expK, dt hlen, Bool.true_and, coefK]
        rw [hin]
        generalize ((l.getD j ([], 0)).1.all fun x => inK x (-20) 20) = b1
        cases hz : decide ((l.getD j ([], 0)).2 = 0) with
        | true => cases b1 <;> rfl
        | false =>
          cases inK (l.getD j ([], 0)).2 (-1000000) 1000000 with
          | false => cases b1 <;> rfl
          | true =>
            cases j with
            | zero => cases b1 <;> rfl
            | succ j =>
              rw [dt (show (0 : Int) < ((j + 1 : Nat) : Int) by omega), show w64 (((j + 1 : Nat) : Int) - 1) = (j : Int) by rw [w64_id (by omega) (by rw [maxLen_val] at hl; omega)]; omega, inB_nat (by omega)]
              simp only [cond_true, Int.toNat_natCast, spec_l1Less.g, prevE, belowK, Bool.not_true, cond_false, Bool.not_false, Bool.true_and]
              cases lexLt (l.getD (j + 1) ([], 0)).1 (l.getD j ([], 0)).1 <;> cases b1 <;> rfl
      · rw [ct (nt hlen), expK, df hlen]; rfl
    · rw [cf (df (by omega)), List.drop_of_length_le (by omega), termsK]
theorem ok : Spec := fun f hb => ⟨f.2.length + 10, fun N hN => by
  simp only [Z1, Z3, Z6, Z10, Z14, Z16, Z18, Z21, Z20, Z19, Z17, Z15, Z13, Z12, Z22, Z11, Z9, Z8, Z7, Z5, Z23, Z4, Z2, Z0, g, lokK, spec_l1In.g]
  cases h1 : inK f.1 1 8
  · simp [lk_eq]
  by_cases h2 : (600 : Int) < f.2.length
  · rw [cf' (by simp [lk_eq]), ct (dt h2), df (by omega)]
    simp
  · rw [cf' (by simp [lk_eq]), cf (df h2), dt (show f.2.length ≤ 600 by omega)]
    exact (loop N (fun t => some ((), (t, ()))) _ f.2 hb.2.1 h1 (by omega) N 0 (by omega) (by omega)).trans rfl⟩
end spec_l2Right
end
end Go.Fw
namespace Go.Fw
noncomputable section
variable {ρ : Type}
namespace spec_FormatInt
noncomputable def g (n : Int) : ByteArray := itoaB n
def P (n : Int) : Bool := i64P n
end spec_FormatInt
namespace spec_FormatInt
def Z1 {ρ : Type} (N : Nat) (v0 : Int) (kn : Int → Option ρ) : Option ρ :=
 kn v0
def Z3 {ρ : Type} (N : Nat) (v0 : Int) (kn : List Int → Int → Option ρ) : Option ρ :=
 kn ([] : List Int) v0
def Z5 {ρ : Type} (N : Nat) (v3 : List Int) (v0 : Int) (kn : List Int → I2 (Option ρ)) : Option ρ :=
 kn v3 v0 v0
def Z9 {ρ : Type} (N : Nat) (v3 : List Int) (v0 v4 : Int) (kn : List Int → I2 (Option ρ)) (k0 : List Int → Int → Option ρ) : Option ρ :=
 cond (lk N (!(decide (v4 = 0))))
 (
  cond (lk N (true)) (
   cond (lk N (decide ((Int.tmod v4 10) < 0)))
   (
    cond (lk N (Nat.blt (v3.length + ([(w8 ((w64 (48 + (w64 (0 - (Int.tmod v4 10)))))))] : List Int).length) 1099511627776)) (
     cond (lk N (true)) (
      kn (v3 ++ ([(w8 ((w64 (48 + (w64 (0 - (Int.tmod v4 10)))))))] : List Int)) v0 (w64 (Int.tdiv v4 10))) none) none)
   (
    cond (lk N (Nat.blt (v3.length + ([(w8 ((w64 (48 + (Int.tmod v4 10)))))] : List Int).length) 1099511627776)) (
     cond (lk N (true)) (
      kn (v3 ++ ([(w8 ((w64 (48 + (Int.tmod v4 10)))))] : List Int)) v0 (w64 (Int.tdiv v4 10))) none) none)) none)
 (
  cond (lk N (decide ((v3.length : Int) = 0)))
  (
   cond (lk N (true)) (
    cond (lk N (decide ((Int.tmod v4 10) < 0)))
    (
     cond (lk N (Nat.blt (v3.length + ([(w8 ((w64 (48 + (w64 (0 - (Int.tmod v4 10)))))))] : List Int).length) 1099511627776)) (
      cond (lk N (true)) (
       kn (v3 ++ ([(w8 ((w64 (48 + (w64 (0 - (Int.tmod v4 10)))))))] : List Int)) v0 (w64 (Int.tdiv v4 10))) none) none)
    (
     cond (lk N (Nat.blt (v3.length + ([(w8 ((w64 (48 + (Int.tmod v4 10)))))] : List Int).length) 1099511627776)) (
      cond (lk N (true)) (
       kn (v3 ++ ([(w8 ((w64 (48 + (Int.tmod v4 10)))))] : List Int)) v0 (w64 (Int.tdiv v4 10))) none) none)) none)
  (
   k0 v3 v0))
def Z8L {ρ : Type} (N : Nat) (k0 : List Int → Int → Option ρ) : Nat → List Int → Int → Int → Option ρ
  | 0, _, _, _ => none
  | M + 1, v3, v0, v4 => Z9 N v3 v0 v4 (fun v3 v0 v4 => Z8L N k0 M v3 v0 v4) k0
def Z8 N v3 v0 v4 k0 := (Z8L N k0 N v3 v0 v4 : Option ρ)
def Z7 N v3 v0 v4 kn := (Z8 N v3 v0 v4 kn : Option ρ)
def Z11 {ρ : Type} (N : Nat) (v3 : List Int) (v0 : Int) (kn : List Int → List Int → Int → Option ρ) : Option ρ :=
 kn v3 ([] : List Int) v0
def Z13 {ρ : Type} (N : Nat) (v3 v6 : List Int) (v0 : Int) (kn : List Int → List Int → Option ρ) : Option ρ :=
 cond (lk N (decide (v0 < 0)))
 (
  cond (lk N (Nat.blt (v6.length + ([45] : List Int).length) 1099511627776)) (
   kn v3 (v6 ++ ([45] : List Int))) none)
 (
  kn v3 v6)
def Z16 {ρ : Type} (N : Nat) (v3 v6 : List Int) (kn : List Int → List Int → Int → Option ρ) : Option ρ :=
 kn v3 v6 (w64 ((v3.length : Int) - 1))
def Z19 {ρ : Type} (N : Nat) (v3 v6 : List Int) (v7 : Int) (kn : List Int → List Int → Int → Option ρ) (k2 : List Int → Option ρ) : Option ρ :=
 cond (lk N (decide (0 ≤ v7)))
 (
  cond (lk N (inB v7 v3.length)) (
   cond (lk N (Nat.blt (v6.length + ([(v3.getD v7.toNat 0)] : List Int).length) 1099511627776)) (
    kn v3 (v6 ++ ([(v3.getD v7.toNat 0)] : List Int)) (w64 (v7 - 1))) none) none)
 (
  k2 v6)
def Z18L {ρ : Type} (N : Nat) (k2 : List Int → Option ρ) : Nat → List Int → List Int → Int → Option ρ
  | 0, _, _, _ => none
  | M + 1, v3, v6, v7 => Z19 N v3 v6 v7 (fun v3 v6 v7 => Z18L N k2 M v3 v6 v7) k2
def Z18 N v3 v6 v7 k2 := (Z18L N k2 N v3 v6 v7 : Option ρ)
def Z17 N v3 v6 v7 kn := (Z18 N v3 v6 v7 kn : Option ρ)
def Z15 N v3 v6 kn := (Z16 N v3 v6 (fun v3 v6 v7 => Z17 N v3 v6 v7 kn) : Option ρ)
def Z20 {ρ : Type} (N : Nat) (v6 : List Int) (kr : ByteArray → Option ρ) : Option ρ :=
 kr (strOfNums v6)
def Z14 N v3 v6 kr := (Z15 N v3 v6 (fun v6 => Z20 N v6 kr) : Option ρ)
def Z12 N v3 v6 v0 kr := (Z13 N v3 v6 v0 (fun v3 v6 => Z14 N v3 v6 kr) : Option ρ)
def Z10 N v3 v0 kr := (Z11 N v3 v0 (fun v3 v6 v0 => Z12 N v3 v6 v0 kr) : Option ρ)
def Z6 N v3 v0 v4 kr := (Z7 N v3 v0 v4 (fun v3 v0 => Z10 N v3 v0 kr) : Option ρ)
def Z4 N v3 v0 kr := (Z5 N v3 v0 (fun v3 v0 v4 => Z6 N v3 v0 v4 kr) : Option ρ)
def Z2 N v0 kr := (Z3 N v0 (fun v3 v0 => Z4 N v3 v0 kr) : Option ρ)
def Z0 N v0 kr := (Z1 N v0 (fun v0 => Z2 N v0 kr) : Option ρ)
def Spec : Prop := ∀  (v0 : Int), P v0 = true → ∃ N0, ∀ N, N0 ≤ N → Z0 N v0 (fun v2 => some ((), (v2, ()))) = some ((), ((g v0), ()))
theorem done {ρ : Type} {N M : Nat} (k0 : List Int → Int → Option ρ) {ds : List Int} (hd : ds ≠ []) (n : Int) : Z8L N k0 (M + 1) ds n 0 = k0 ds n := by
  have hl : ds.length ≠ 0 := fun h => hd (List.length_eq_zero_iff.1 h)
  simp only [Z8L, Z9]
  rw [cf (show (!decide True) = false from rfl), cf (df (by omega))]
theorem loop {ρ : Type} {N : Nat} (k0 : List Int → Int → Option ρ) (n : Int) : ∀ (c M : Nat) (ds : List Int) (k : Int), k.natAbs < 10 ^ c → k.natAbs < 9223372036854775809 → 1 ≤ c → c < M → ds.length + c ≤ 100 → (k ≠ 0 ∨ ds = []) →
    Z8L N k0 M ds n k = k0 (ds ++ lsd k.natAbs) n := by
  intro c
  induction c with
  | zero => intro M ds k _ _ h; omega
  | succ c ih =>
    intro M ds k hk hk2 _ hM hd hor
    obtain ⟨M, rfl⟩ : ∃ m, M = m + 1 := ⟨M - 1, by omega⟩
    have hq : w64 (Int.tdiv k 10) = Int.tdiv k 10 := by
      have := natAbs_tdiv k
      exact w64_id (by omega) (by omega)
    have hstep : Z8L N k0 (M + 1) ds n k = Z8L N k0 M (ds ++ [48 + ((k.natAbs % 10 : Nat) : Int)]) n (Int.tdiv k 10) := by
      have hb : ∀ x : Int, Nat.blt (ds.length + ([x] : List Int).length) 1099511627776 = true := fun x => Nat.ble_eq_true_of_le (by simp; omega)
      simp only [Z8L, Z9, hq, hb, lk_eq, cond_true]
      by_cases hk0 : k = 0
      · subst hk0
        have hds : ds = [] := hor.resolve_left (by simp)
        subst hds
        rfl
      · rw [nt hk0, cond_true]
        by_cases hneg : Int.tmod k 10 < 0
        · rw [dt hneg, cond_true, dig_neg hneg]
        · rw [df hneg, cond_false, dig_pos hneg]
    rw [hstep]
    by_cases hsm : k.natAbs < 10
    · have e0 : Int.tdiv k 10 = 0 := by
        have := natAbs_tdiv k
        omega
      obtain ⟨M, rfl⟩ : ∃ m, M = m + 1 := ⟨M - 1, by omega⟩
      rw [e0, done k0 (by simp) n, lsd_small hsm, Nat.mod_eq_of_lt hsm]
    · have hc : 1 ≤ c := by
        rcases Nat.eq_zero_or_pos c with h | h
        · subst h
          omega
        · exact h
      have hd2 := natAbs_tdiv k
      rw [ih M _ (Int.tdiv k 10) (by rw [hd2, Nat.div_lt_iff_lt_mul (by omega), ← Nat.pow_succ]; exact hk) (by omega) hc (by omega) (by simp; omega) (.inl (by omega)), hd2, lsd_big hsm, List.append_assoc]
      rfl
theorem back {ρ : Type} {N : Nat} (k2 : List Int → Option ρ) {ds : List Int} (hd : ds.length ≤ 100) : ∀ (j M : Nat) (out : List Int), j ≤ ds.length → j < M → out.length + j ≤ 1000 → Z18L N k2 M ds out ((j : Int) - 1) = k2 (out ++ (ds.take j).reverse) := by
  intro j
  induction j with
  | zero =>
    intro M out _ hM _
    obtain ⟨M, rfl⟩ : ∃ m, M = m + 1 := ⟨M - 1, by omega⟩
    simp only [Z18L, Z19]
    rw [cf (df (by omega)), List.take_zero, List.reverse_nil, List.append_nil]
  | succ j ih =>
    intro M out hj hM ho
    obtain ⟨M, rfl⟩ : ∃ m, M = m + 1 := ⟨M - 1, by omega⟩
    have e : ((j + 1 : Nat) : Int) - 1 = (j : Int) := by omega
    have hb : ∀ x : Int, Nat.blt (out.length + ([x] : List Int).length) 1099511627776 = true := fun x => Nat.ble_eq_true_of_le (by simp; omega)
    simp only [Z18L, Z19, e]
    rw [ct (dt (by omega)), ct (inB_nat hj), ct (hb _), Int.toNat_natCast, w64_id (by omega) (by omega), ih M _ (by omega) (by omega) (by simp; omega), ← take_getD 0 hj, List.reverse_append, List.append_assoc]
    rfl
theorem lsd_len {u : Nat} : ∀ (c : Nat), u < 10 ^ c → 1 ≤ c → (lsd u).length ≤ c := by
  intro c
  induction c generalizing u with
  | zero => intro _ h; omega
  | succ c ih =>
    intro h _
    by_cases hs : u < 10
    · rw [lsd_small hs]
      simp
    · rw [lsd_big hs, List.length_cons]
      have hc : 1 ≤ c := by
        rcases Nat.eq_zero_or_pos c with h' | h'
        · subst h'
          omega
        · exact h'
      have := ih (u := u / 10) (by rw [Nat.div_lt_iff_lt_mul (by omega), ← Nat.pow_succ]; exact h) hc
      omega
theorem ok : Spec := fun n hp => ⟨200, fun N hN => by
  simp only [P, i64P, Bool.and_eq_true, decide_eq_true_eq] at hp
  have h19 : n.natAbs < 10 ^ 19 := by
    have : (10 : Nat) ^ 19 = 10000000000000000000 := by decide
    omega
  have hlen := lsd_len 19 h19 (by omega)
  simp only [Z0, Z1, Z2, Z3, Z4, Z5, Z6, Z7, Z8]
  refine (loop _ n 19 N [] n h19 (by omega) (by omega) (by omega) (by simp) (.inr rfl)).trans ?_
  rw [List.nil_append]
  have hl0 : lsd n.natAbs = (lsd n.natAbs).take (lsd n.natAbs).length := by rw [List.take_length]
  have fin : ∀ out : List Int, out.length ≤ 10 → Z18L N (fun out6 => some ((), (strOfNums out6, ()))) N (lsd n.natAbs) out (((lsd n.natAbs).length : Int) - 1) = some ((), (strOfNums (out ++ (lsd n.natAbs).reverse), ())) := fun out ho => by
    rw [back _ (by omega) _ N out (Nat.le_refl _) (by omega) (by omega), List.take_length]
  simp only [Z10, Z11, Z12, Z13]
  by_cases hneg : n < 0
  · rw [ct (dt hneg), ct (show Nat.blt (([] : List Int).length + ([45] : List Int).length) 1099511627776 = true from rfl)]
    simp only [Z14, Z15, Z16, Z17, Z18, Z20]
    rw [w64_id (by omega) (by omega), fin _ (by simp), g, itoaB, Lib.itoa, if_pos hneg]
    have := nums_neg n.natAbs
    simp only [List.nil_append, List.singleton_append]
    rw [this]
  · rw [cf (df hneg)]
    simp only [Z14, Z15, Z16, Z17, Z18, Z20]
    rw [w64_id (by omega) (by omega), fin _ (by simp), g, itoaB, Lib.itoa, if_neg hneg, List.nil_append, nums_lsd, show n.natAbs = n.toNat by omega]⟩
end spec_FormatInt
end
end Go.Fw
namespace Go.Fw
noncomputable section
variable {ρ : Type}
namespace spec_FormatInts
noncomputable def g (l : List Int) : ByteArray := itoasB l
def P (l : List Int) : Bool := rowP l
end spec_FormatInts
namespace spec_FormatInts
def Z1 {ρ : Type} (N : Nat) (v0 : LI) (kn : LI → Option ρ) : Option ρ :=
 kn v0
def Z3 {ρ : Type} (N : Nat) (v0 : LI) (kn : LI → ByteArray → Option ρ) : Option ρ :=
 kn v0 ByteArray.empty
def Z6 {ρ : Type} (N : Nat) (v0 : LI) (v3 : ByteArray) (kn : LI → ByteArray → Int → Option ρ) : Option ρ :=
 kn v0 v3 0
def Z9 {ρ : Type} (N : Nat) (v0 : LI) (v3 : ByteArray) (v4 : Int) (kn : LI → ByteArray → Int → Option ρ) (k0 : ByteArray → Option ρ) : Option ρ :=
 cond (lk N (decide (v4 < (v0.length : Int))))
 (
  cond (lk N (decide (0 < v4)))
  (
   cond (Nat.blt (v3.size + (⟨#[32]⟩ : ByteArray).size) 4611686018427387904) (
    cond (lk N (inB v4 v0.length)) (
     cond (lk N (spec_FormatInt.P (v0.getD v4.toNat 0))) (
      cond (Nat.blt ((v3 ++ (⟨#[32]⟩ : ByteArray)).size + (spec_FormatInt.g (v0.getD v4.toNat 0)).size) 4611686018427387904) (
       kn v0 ((v3 ++ (⟨#[32]⟩ : ByteArray)) ++ (spec_FormatInt.g (v0.getD v4.toNat 0))) (w64 (v4 + 1))) none) none) none) none)
  (
   cond (lk N (inB v4 v0.length)) (
    cond (lk N (spec_FormatInt.P (v0.getD v4.toNat 0))) (
     cond (Nat.blt (v3.size + (spec_FormatInt.g (v0.getD v4.toNat 0)).size) 4611686018427387904) (
      kn v0 (v3 ++ (spec_FormatInt.g (v0.getD v4.toNat 0))) (w64 (v4 + 1))) none) none) none))
 (
  k0 v3)
def Z8L {ρ : Type} (N : Nat) (k0 : ByteArray → Option ρ) : Nat → LI → ByteArray → Int → Option ρ
  | 0, _, _, _ => none
  | M + 1, v0, v3, v4 => Z9 N v0 v3 v4 (fun v0 v3 v4 => Z8L N k0 M v0 v3 v4) k0
def Z8 N v0 v3 v4 k0 := (Z8L N k0 N v0 v3 v4 : Option ρ)
def Z7 N v0 v3 v4 kn := (Z8 N v0 v3 v4 kn : Option ρ)
def Z5 N v0 v3 kn := (Z6 N v0 v3 (fun v0 v3 v4 => Z7 N v0 v3 v4 kn) : Option ρ)
def Z10 {ρ : Type} (N : Nat) (v3 : ByteArray) (kr : ByteArray → Option ρ) : Option ρ :=
 kr v3
def Z4 N v0 v3 kr := (Z5 N v0 v3 (fun v3 => Z10 N v3 kr) : Option ρ)
def Z2 N v0 kr := (Z3 N v0 (fun v0 v3 => Z4 N v0 v3 kr) : Option ρ)
def Z0 N v0 kr := (Z1 N v0 (fun v0 => Z2 N v0 kr) : Option ρ)
def Spec : Prop := ∀  (v0 : LI), Ty.bd (.sl 0 (.int .i64)) v0 → P v0 = true → ∃ N0, ∀ N, N0 ≤ N → Z0 N v0 (fun v2 => some ((), (v2, ()))) = some ((), ((g v0), ()))
theorem loop {ρ : Type} {N : Nat} (k0 : ByteArray → Option ρ) {l : List Int} (hp : rowP l = true) : ∀ (M j : Nat), j ≤ l.length → l.length - j < M → Z8L N k0 M l (itoasB (l.take j)) (j : Int) = k0 (itoasB l) := by
  simp only [rowP, Bool.and_eq_true, decide_eq_true_eq] at hp
  intro M
  induction M with
  | zero => intro j _ h; omega
  | succ M ih =>
    intro j hj hM
    simp only [Z8L, Z9]
    by_cases h : j < l.length
    · have hi : i64P (l.getD j 0) = true := List.all_eq_true.1 hp.2 _ (getD_mem 0 h)
      have h1 : spec_FormatInt.P (l.getD j 0) = true := hi
      have h2 : spec_FormatInt.g (l.getD j 0) = itoaB (l.getD j 0) := rfl
      have hsz := itoaB_size hi
      have hall : (l.take j).all i64P = true := List.all_eq_true.2 fun x hx => List.all_eq_true.1 hp.2 x (List.mem_of_mem_take hx)
      have hlen := itoas_len hall
      have hs : (itoasB (l.take j)).size ≤ 22 * j := by
        have e : (itoasB (l.take j)).size = (itoasL (l.take j)).length := by simp [itoasB, ByteArray.size]
        rw [List.length_take] at hlen
        omega
      have e1 : (⟨#[32]⟩ : ByteArray).size = 1 := rfl
      have e3 : itoasB (l.take j) ++ (⟨#[32]⟩ : ByteArray) = ⟨(itoasL (l.take j) ++ [32]).toArray⟩ := ba_app _ [32]
      rw [ct (dt (by omega)), w64_succ (by rw [maxLen_val]; omega), Int.toNat_natCast]
      by_cases h0 : j = 0
      · subst h0
        rw [cf (df (by omega)), ct (inB_nat h), ct h1, h2, ct' (show Nat.blt ((itoasB (l.take 0)).size + (itoaB (l.getD 0 0)).size) 4611686018427387904 = true from Nat.ble_eq_true_of_le (by omega))]
        have e : itoasB (l.take 0) ++ itoaB (l.getD 0 0) = itoasB (l.take (0 + 1)) := by
          rw [← take_getD 0 h, List.take_zero, List.nil_append]
          show (⟨([] : List UInt8).toArray⟩ : ByteArray) ++ ⟨(Lib.itoa (l.getD 0 0)).toArray⟩ = ⟨(itoasL [l.getD 0 0]).toArray⟩
          rw [ba_app, itoas_one, List.nil_append]
        rw [e]
        exact ih 1 h (by omega)
      · have hne : l.take j ≠ [] := fun e => by
          have := congrArg List.length e
          rw [List.length_take, List.length_nil] at this
          omega
        have hs2 : (itoasB (l.take j) ++ (⟨#[32]⟩ : ByteArray)).size ≤ 22 * j + 1 := by
          rw [ByteArray.size_append, e1]
          omega
        rw [ct (dt (by omega)), ct' (show Nat.blt ((itoasB (l.take j)).size + (⟨#[32]⟩ : ByteArray).size) 4611686018427387904 = true from Nat.ble_eq_true_of_le (by omega)), ct (inB_nat h), ct h1, h2,
          ct' (show Nat.blt ((itoasB (l.take j) ++ (⟨#[32]⟩ : ByteArray)).size + (itoaB (l.getD j 0)).size) 4611686018427387904 = true from Nat.ble_eq_true_of_le (by omega))]
        have e : itoasB (l.take j) ++ (⟨#[32]⟩ : ByteArray) ++ itoaB (l.getD j 0) = itoasB (l.take (j + 1)) := by
          rw [e3, ← take_getD 0 h]
          show _ ++ (⟨(Lib.itoa (l.getD j 0)).toArray⟩ : ByteArray) = ⟨(itoasL (l.take j ++ [l.getD j 0])).toArray⟩
          rw [ba_app, itoas_snoc hne]
        rw [e]
        exact ih (j + 1) h (by omega)
    · rw [cf (df (by omega)), List.take_of_length_le (by omega)]
theorem ok : Spec := fun l hb hp => ⟨l.length + 1, fun N hN => by
  simp only [Z1, Z3, Z6, Z9, Z8, Z7, Z5, Z10, Z4, Z2, Z0]
  exact loop (fun s3 => some ((), (s3, ()))) hp N 0 (Nat.zero_le _) (by omega)⟩
end spec_FormatInts
end
end Go.Fw
namespace Go.Fw
noncomputable section
variable {ρ : Type}
namespace spec_FormatLaurent
noncomputable def g (f : Int × List (List Int × Int)) : ByteArray := if lokK f = true then fmtL f else ByteArray.empty
end spec_FormatLaurent
namespace spec_FormatLaurent
def Z1 {ρ : Type} (N : Nat) (v0 : Int × List (LI × Int)) (kn : Int → (List (LI × Int)) → Option ρ) : Option ρ :=
 kn v0.1 v0.2
def Z3 {ρ : Type} (N : Nat) (v1_0 : Int) (v1_1 : List (LI × Int)) (kn : Int → (List (LI × Int)) → Option ρ) (kr : ByteArray → Option ρ) : Option ρ :=
 cond (!(lk N ((spec_l2Right.g (v1_0, v1_1)))))
 (
  kr ByteArray.empty)
 (
  kn v1_0 v1_1)
def Z5 {ρ : Type} (N : Nat) (v1_0 : Int) (v1_1 : List (LI × Int)) (kn : ByteArray → Int → (List (LI × Int)) → Option ρ) : Option ρ :=
 cond (lk N (spec_FormatInt.P v1_0)) (
  cond (Nat.blt ((spec_FormatInt.g v1_0).size + (⟨#[124]⟩ : ByteArray).size) 4611686018427387904) (
   kn ((spec_FormatInt.g v1_0) ++ (⟨#[124]⟩ : ByteArray)) v1_0 v1_1) none) none
def Z7 {ρ : Type} (N : Nat) (v3 : ByteArray) (v1_0 : Int) (v1_1 : List (LI × Int)) (kn : ByteArray → Int → (List (LI × Int)) → Option ρ) (kr : ByteArray → Option ρ) : Option ρ :=
 cond (lk N (decide ((v1_1.length : Int) = 0)))
 (
  cond (Nat.blt (v3.size + (⟨#[48]⟩ : ByteArray).size) 4611686018427387904) (
   kr (v3 ++ (⟨#[48]⟩ : ByteArray))) none)
 (
  kn v3 v1_0 v1_1)
def Z10 {ρ : Type} (N : Nat) (v3 : ByteArray) (v1_0 : Int) (v1_1 : List (LI × Int)) (kn : ByteArray → I2 ((List (LI × Int)) → Option ρ)) : Option ρ :=
 kn v3 0 v1_0 v1_1
def Z13 {ρ : Type} (N : Nat) (v3 : ByteArray) (v4 v1_0 : Int) (v1_1 : List (LI × Int)) (kn : ByteArray → I2 ((List (LI × Int)) → Option ρ)) (k0 : ByteArray → Option ρ) : Option ρ :=
 cond (lk N (decide (v4 < (v1_1.length : Int))))
 (
  cond (lk N (decide (0 < v4)))
  (
   cond (Nat.blt (v3.size + (⟨#[44, 32]⟩ : ByteArray).size) 4611686018427387904) (
    cond (lk N (inB v4 v1_1.length)) (
     cond (lk N (inB v4 v1_1.length)) (
      cond (lk N (spec_FormatInt.P (v1_1.getD v4.toNat ([], 0)).2)) (
       cond (Nat.blt ((v3 ++ (⟨#[44, 32]⟩ : ByteArray)).size + (spec_FormatInt.g (v1_1.getD v4.toNat ([], 0)).2).size) 4611686018427387904) (
        cond (Nat.blt (((v3 ++ (⟨#[44, 32]⟩ : ByteArray)) ++ (spec_FormatInt.g (v1_1.getD v4.toNat ([], 0)).2)).size + (⟨#[58]⟩ : ByteArray).size) 4611686018427387904) (
         cond (lk N (spec_FormatInts.P (v1_1.getD v4.toNat ([], 0)).1)) (
          cond (Nat.blt ((((v3 ++ (⟨#[44, 32]⟩ : ByteArray)) ++ (spec_FormatInt.g (v1_1.getD v4.toNat ([], 0)).2)) ++ (⟨#[58]⟩ : ByteArray)).size + (spec_FormatInts.g (v1_1.getD v4.toNat ([], 0)).1).size) 4611686018427387904) (
           kn ((((v3 ++ (⟨#[44, 32]⟩ : ByteArray)) ++ (spec_FormatInt.g (v1_1.getD v4.toNat ([], 0)).2)) ++ (⟨#[58]⟩ : ByteArray)) ++ (spec_FormatInts.g (v1_1.getD v4.toNat ([], 0)).1)) (w64 (v4 + 1)) v1_0 v1_1) none) none) none) none) none) none) none) none)
  (
   cond (lk N (inB v4 v1_1.length)) (
    cond (lk N (inB v4 v1_1.length)) (
     cond (lk N (spec_FormatInt.P (v1_1.getD v4.toNat ([], 0)).2)) (
      cond (Nat.blt (v3.size + (spec_FormatInt.g (v1_1.getD v4.toNat ([], 0)).2).size) 4611686018427387904) (
       cond (Nat.blt ((v3 ++ (spec_FormatInt.g (v1_1.getD v4.toNat ([], 0)).2)).size + (⟨#[58]⟩ : ByteArray).size) 4611686018427387904) (
        cond (lk N (spec_FormatInts.P (v1_1.getD v4.toNat ([], 0)).1)) (
         cond (Nat.blt (((v3 ++ (spec_FormatInt.g (v1_1.getD v4.toNat ([], 0)).2)) ++ (⟨#[58]⟩ : ByteArray)).size + (spec_FormatInts.g (v1_1.getD v4.toNat ([], 0)).1).size) 4611686018427387904) (
          kn (((v3 ++ (spec_FormatInt.g (v1_1.getD v4.toNat ([], 0)).2)) ++ (⟨#[58]⟩ : ByteArray)) ++ (spec_FormatInts.g (v1_1.getD v4.toNat ([], 0)).1)) (w64 (v4 + 1)) v1_0 v1_1) none) none) none) none) none) none) none))
 (
  k0 v3)
def Z12L {ρ : Type} (N : Nat) (k0 : ByteArray → Option ρ) : Nat → ByteArray → Int → Int → (List (LI × Int)) → Option ρ
  | 0, _, _, _, _ => none
  | M + 1, v3, v4, v1_0, v1_1 => Z13 N v3 v4 v1_0 v1_1 (fun v3 v4 v1_0 v1_1 => Z12L N k0 M v3 v4 v1_0 v1_1) k0
def Z12 N v3 v4 v1_0 v1_1 k0 := (Z12L N k0 N v3 v4 v1_0 v1_1 : Option ρ)
def Z11 N v3 v4 v1_0 v1_1 kn := (Z12 N v3 v4 v1_0 v1_1 kn : Option ρ)
def Z9 N v3 v1_0 v1_1 kn := (Z10 N v3 v1_0 v1_1 (fun v3 v4 v1_0 v1_1 => Z11 N v3 v4 v1_0 v1_1 kn) : Option ρ)
def Z14 {ρ : Type} (N : Nat) (v3 : ByteArray) (kr : ByteArray → Option ρ) : Option ρ :=
 kr v3
def Z8 N v3 v1_0 v1_1 kr := (Z9 N v3 v1_0 v1_1 (fun v3 => Z14 N v3 kr) : Option ρ)
def Z6 N v3 v1_0 v1_1 kr := (Z7 N v3 v1_0 v1_1 (fun v3 v1_0 v1_1 => Z8 N v3 v1_0 v1_1 kr) kr : Option ρ)
def Z4 N v1_0 v1_1 kr := (Z5 N v1_0 v1_1 (fun v3 v1_0 v1_1 => Z6 N v3 v1_0 v1_1 kr) : Option ρ)
def Z2 N v1_0 v1_1 kr := (Z3 N v1_0 v1_1 (fun v1_0 v1_1 => Z4 N v1_0 v1_1 kr) kr : Option ρ)
def Z0 N v0 kr := (Z1 N v0 (fun v1_0 v1_1 => Z2 N v1_0 v1_1 kr) : Option ρ)
def Spec : Prop := ∀  (v0 : Int × List (LI × Int)), Ty.bd (.pair (.int .i64) (.sl 0 (.pair (.sl 0 (.int .i64)) (.int .i64)))) v0 → ∃ N0, ∀ N, N0 ≤ N → Z0 N v0 (fun v2 => some ((), (v2, ()))) = some ((), ((g v0), ()))
theorem blt_txt {a b : ByteArray} (h : a.size + b.size < 4611686018427387904) : Nat.blt (a.size + b.size) 4611686018427387904 = true := Nat.ble_eq_true_of_le h
theorem loop {ρ : Type} {N : Nat} {f : Int × List (List Int × Int)} (hf : LFacts f) (k0 : ByteArray → Option ρ) : ∀ (M j : Nat), j ≤ f.2.length → f.2.length - j < M →
    Z12L N k0 M (txt (headT f ++ Lib.join ((termsT f).take j) [44, 32])) (j : Int) f.1 f.2 = k0 (txt (headT f ++ Lib.join (termsT f) [44, 32])) := by
  have hn := hf.n
  have hh := headT_len hf
  intro M
  induction M with
  | zero => intro j _ h; omega
  | succ M ih =>
    intro j hj hM
    simp only [Z12L, Z13]
    by_cases h : j < f.2.length
    · have hm := getD_mem (l := f.2) (j := j) ([], 0) h
      have h1 : spec_FormatInt.P (f.2.getD j ([], 0)).2 = true := hf.c _ hm
      have h1g : spec_FormatInt.g (f.2.getD j ([], 0)).2 = txt (Lib.itoa (f.2.getD j ([], 0)).2) := rfl
      have h2 : spec_FormatInts.P (f.2.getD j ([], 0)).1 = true := hf.e _ hm
      have h2g : spec_FormatInts.g (f.2.getD j ([], 0)).1 = txt (itoasL (f.2.getD j ([], 0)).1) := rfl
      have hl := hf.l _ hm
      have hp := partL_len hf j
      have ht : termT (f.2.getD j ([], 0)) = Lib.itoa (f.2.getD j ([], 0)).2 ++ [58] ++ itoasL (f.2.getD j ([], 0)).1 := rfl
      have hl' := hl
      rw [ht] at hl'
      simp only [List.length_append, List.length_cons, List.length_nil] at hl'
      have e1 : (⟨#[44, 32]⟩ : ByteArray) = txt [44, 32] := rfl
      have e2 : (⟨#[58]⟩ : ByteArray) = txt [58] := rfl
      rw [ct (dt (by omega)), Int.toNat_natCast, h1g, h2g, e1, e2]
      simp only [txt_app]
      by_cases h0 : j = 0
      · subst h0
        rw [cf (df (by omega)), ct (inB_nat h), ct (inB_nat h), ct h1,
          ct' (blt_txt (by rw [txt_size, txt_size]; simp only [List.length_append]; omega)), ct' (blt_txt (by rw [txt_size, txt_size]; simp only [List.length_append, List.length_cons, List.length_nil]; omega)), ct h2,
          ct' (blt_txt (by rw [txt_size, txt_size]; simp only [List.length_append, List.length_cons, List.length_nil]; omega)), w64_succ (by rw [maxLen_val]; omega)]
        have e4 : headT f ++ Lib.join ((termsT f).take 0) [44, 32] ++ Lib.itoa (f.2.getD 0 ([], 0)).2 ++ [58] ++ itoasL (f.2.getD 0 ([], 0)).1 = headT f ++ Lib.join ((termsT f).take (0 + 1)) [44, 32] := by
          rw [← take_getD [] (by rw [termsT_len]; exact h), termsT_get h, List.take_zero, List.nil_append, Lib.join_one, Lib.join_nil, List.append_nil, ht]
          simp only [List.append_assoc]
        rw [e4]
        exact ih 1 h (by omega)
      · have hne : (termsT f).take j ≠ [] := fun e => by
          have := congrArg List.length e
          rw [List.length_take, termsT_len, List.length_nil] at this
          omega
        rw [ct (dt (by omega)), ct' (blt_txt (by rw [txt_size, txt_size]; simp only [List.length_append, List.length_cons, List.length_nil]; omega)), ct (inB_nat h), ct (inB_nat h), ct h1,
          ct' (blt_txt (by rw [txt_size, txt_size]; simp only [List.length_append, List.length_cons, List.length_nil]; omega)), ct' (blt_txt (by rw [txt_size, txt_size]; simp only [List.length_append, List.length_cons, List.length_nil]; omega)), ct h2,
          ct' (blt_txt (by rw [txt_size, txt_size]; simp only [List.length_append, List.length_cons, List.length_nil]; omega)), w64_succ (by rw [maxLen_val]; omega)]
        have e4 : headT f ++ Lib.join ((termsT f).take j) [44, 32] ++ [44, 32] ++ Lib.itoa (f.2.getD j ([], 0)).2 ++ [58] ++ itoasL (f.2.getD j ([], 0)).1 = headT f ++ Lib.join ((termsT f).take (j + 1)) [44, 32] := by
          rw [← take_getD [] (by rw [termsT_len]; exact h), termsT_get h, join_snoc hne, ht]
          simp only [List.append_assoc]
        rw [e4]
        exact ih (j + 1) h (by omega)
    · rw [cf (df (by omega)), List.take_of_length_le (by rw [termsT_len]; omega)]
theorem ok : Spec := fun f hb => ⟨f.2.length + 100, fun N hN => by
  have e0 : spec_l2Right.g (f.1, f.2) = lokK f := rfl
  simp only [Z0, Z1, Z2, Z3, e0, lk_eq, g]
  cases h1 : lokK f
  · rfl
  have hf := lfacts h1
  have hh := headT_len hf
  have hP : spec_FormatInt.P f.1 = true := i64_of (by have := hf.v; omega) (by have := hf.v; omega)
  have hg : spec_FormatInt.g f.1 = txt (Lib.itoa f.1) := rfl
  have e1 : (⟨#[124]⟩ : ByteArray) = txt [124] := rfl
  have e2 : (⟨#[48]⟩ : ByteArray) = txt [48] := rfl
  have hh' := hh
  unfold headT at hh'
  simp only [List.length_append, List.length_cons, List.length_nil] at hh'
  simp only [Bool.not_true, cond_false, Z4, Z5]
  rw [ct hP, hg, e1, ct' (blt_txt (by rw [txt_size, txt_size]; simp only [List.length_append, List.length_cons, List.length_nil]; omega)), txt_app, if_pos trivial]
  simp only [Z6, Z7]
  by_cases h0 : f.2.length = 0
  · rw [ct (dt (by omega)), e2, ct' (blt_txt (by rw [txt_size, txt_size]; simp only [List.length_append, List.length_cons, List.length_nil]; omega)), txt_app, fmtL, if_pos h0]
    rfl
  · rw [cf (df (by omega))]
    simp only [Z8, Z9, Z10, Z11, Z12]
    have hlp := loop (ρ := Unit × ByteArray × Unit) (N := N) hf (fun s3 => Z14 N s3 (fun t2 => some ((), (t2, ())))) N 0 (Nat.zero_le _) (by omega)
    rw [List.take_zero, Lib.join_nil, List.append_nil] at hlp
    refine hlp.trans ?_
    rw [fmtL, if_neg h0]
    rfl⟩
end spec_FormatLaurent
end
end Go.Fw
namespace Go.Fw
noncomputable section
variable {ρ : Type}
namespace impl_within
def g (n low high : Int) : Bool := inK n low high
end impl_within
namespace impl_within
def Z0 {ρ : Type} (N : Nat) (v0 v1 v2 : Int) (kr : Bool → Option ρ) : Option ρ :=
 cond (lk N (decide (v1 ≤ v0)))
 (
  kr (lk N (decide (v0 ≤ v2))))
 (
  kr false)
def Spec : Prop := ∀  (v0 v1 v2 : Int), ∃ N0, ∀ N, N0 ≤ N → Z0 N v0 v1 v2 (fun v6 => some ((), (v6, ()))) = some ((), ((g v0 v1 v2), ()))
theorem ok : Spec := fun n low high => ⟨0, fun N hN => by
  simp only [Z0, lk_eq, g, inK]
  cases decide (low ≤ n) <;> rfl⟩
end impl_within
end
end Go.Fw
namespace Go.Fw
noncomputable section
variable {ρ : Type}
namespace impl_expOk_1
def g (e : Int) : Bool := !(inK e (-20) 20)
end impl_expOk_1
namespace impl_expOk_1
def Z0 {ρ : Type} (N : Nat) (v0 : Int) (kr : Bool → Option ρ) : Option ρ :=
 kr (!(lk N ((impl_within.g v0 (-20) 20))))
def Spec : Prop := ∀  (v0 : Int), ∃ N0, ∀ N, N0 ≤ N → Z0 N v0 (fun v2 => some ((), (v2, ()))) = some ((), ((g v0), ()))
theorem ok : Spec := fun e => ⟨0, fun N hN => by simp only [Z0, lk_eq, g, impl_within.g]⟩
end impl_expOk_1
end
end Go.Fw
namespace Go.Fw
noncomputable section
variable {ρ : Type}
namespace slices_IndexFunc_int_int_expOk
def go (p : Int → Bool) : List Int → Nat → Int
  | [], _ => -1
  | x :: xs, j => if p x = true then (j : Int) else go p xs (j + 1)
def g (s : List Int) (_ : Unit) : Int := go impl_expOk_1.g s 0
end slices_IndexFunc_int_int_expOk
namespace slices_IndexFunc_int_int_expOk
def Z1 {ρ : Type} (N : Nat) (v0 : LI) (v1 : Unit) (kn : LI → Option ρ) : Option ρ :=
 kn v0
def Z4 {ρ : Type} (N : Nat) (v0 : LI) (kn : LI → I2 (Option ρ)) : Option ρ :=
 kn v0 (v0.length : Int) 0
def Z7 {ρ : Type} (N : Nat) (v0 : LI) (v7 v8 : Int) (kn : LI → I2 (Option ρ)) (k0 : Option ρ) (kr : Int → Option ρ) : Option ρ :=
 cond (lk N (decide (v8 < v7)))
 (
  cond (lk N (inB v8 v0.length)) (
   cond (lk N ((impl_expOk_1.g (v0.getD v8.toNat 0))))
   (
    kr v8)
   (
    kn v0 v7 (w64 (v8 + 1)))) none)
 (
  k0)
def Z6L {ρ : Type} (N : Nat) (k0 : Option ρ) (kr : Int → Option ρ) : Nat → LI → Int → Int → Option ρ
  | 0, _, _, _ => none
  | M + 1, v0, v7, v8 => Z7 N v0 v7 v8 (fun v0 v7 v8 => Z6L N k0 kr M v0 v7 v8) k0 kr
def Z6 N v0 v7 v8 k0 kr := (Z6L N k0 kr N v0 v7 v8 : Option ρ)
def Z5 N v0 v7 v8 kn kr := (Z6 N v0 v7 v8 kn kr : Option ρ)
def Z3 N v0 kn kr := (Z4 N v0 (fun v0 v7 v8 => Z5 N v0 v7 v8 kn kr) : Option ρ)
def Z8 {ρ : Type} (N : Nat)  (kr : Int → Option ρ) : Option ρ :=
 kr (-1)
def Z2 N v0 kr := (Z3 N v0 (Z8 N kr) kr : Option ρ)
def Z0 N v0 v1 kr := (Z1 N v0 v1 (fun v0 => Z2 N v0 kr) : Option ρ)
def Spec : Prop := ∀  (v0 : LI) (v1 : Unit), Ty.bd (.sl 0 (.int .i64)) v0 → ∃ N0, ∀ N, N0 ≤ N → Z0 N v0 v1 (fun v4 => some ((), (v4, ()))) = some ((), ((g v0 v1), ()))
theorem loop {ρ : Type} (N : Nat) (kr : Int → Option ρ) (a : List Int) (ha : a.length ≤ maxLen) : ∀ (M j : Nat), j ≤ a.length → a.length - j < M →
    Z6L N (kr (-1)) kr M a (a.length : Int) (j : Int) = kr (go impl_expOk_1.g (a.drop j) j) := by
  intro M
  induction M with
  | zero => intro j _ h; omega
  | succ M ih =>
    intro j hj hM
    simp only [Z6L, Z7]
    by_cases h : j < a.length
    · rw [ct (dt (by omega)), ct (inB_nat h), Int.toNat_natCast, w64_succ (by omega), ih (j + 1) h (by omega), drop_getD 0 h, go]
      cases e : impl_expOk_1.g (a.getD j 0)
      · rw [cf rfl, if_neg (by simp)]
      · rw [ct rfl, if_pos rfl]
    · rw [cf (df (by omega)), List.drop_of_length_le (by omega), go]
theorem ok : Spec := fun a _ ha => ⟨a.length + 1, fun N hN => by
  simp only [Z1, Z4, Z7, Z6, Z5, Z3, Z8, Z2, Z0]
  exact (loop N (fun t => some ((), (t, ()))) a ha.1 N 0 (by omega) (by omega)).trans rfl⟩
theorem go_pos (p : Int → Bool) : ∀ (l : List Int) (j : Nat), 0 ≤ go p l j ↔ ∃ x ∈ l, p x = true
  | [], j => by simp [go]
  | x :: xs, j => by
    rw [go]
    by_cases h : p x = true
    · rw [if_pos h]; simp [h]
    · rw [if_neg h, go_pos p xs]; simp [h]
end slices_IndexFunc_int_int_expOk
end
end Go.Fw
namespace Go.Fw
noncomputable section
variable {ρ : Type}
namespace slices_ContainsFunc_int_int_expOk
def g (s : List Int) (_ : Unit) : Bool := s.any impl_expOk_1.g
end slices_ContainsFunc_int_int_expOk
namespace slices_ContainsFunc_int_int_expOk
def Z0 {ρ : Type} (N : Nat) (v0 : LI) (v1 : Unit) (kr : Bool → Option ρ) : Option ρ :=
 kr (lk N (decide (0 ≤ (slices_IndexFunc_int_int_expOk.g v0 ()))))
def Spec : Prop := ∀  (v0 : LI) (v1 : Unit), Ty.bd (.sl 0 (.int .i64)) v0 → ∃ N0, ∀ N, N0 ≤ N → Z0 N v0 v1 (fun v4 => some ((), (v4, ()))) = some ((), ((g v0 v1), ()))
theorem ok : Spec := fun a _ ha => ⟨0, fun N hN => by
  simp only [Z0, lk_eq, g]
  have := (show 0 ≤ slices_IndexFunc_int_int_expOk.g a () ↔ ∃ x ∈ a, impl_expOk_1.g x = true from slices_IndexFunc_int_int_expOk.go_pos impl_expOk_1.g a 0)
  cases e : a.any impl_expOk_1.g
  · rw [df (fun h => by have := this.1 h; rw [← List.any_eq_true, e] at this; cases this)]
  · rw [dt (this.2 (List.any_eq_true.1 e))]⟩
end slices_ContainsFunc_int_int_expOk
end
end Go.Fw
namespace Go.Fw
noncomputable section
variable {ρ : Type}
namespace impl_expOk
def g (exp : List Int) (vars : Int) : Bool := expK vars exp
end impl_expOk
namespace impl_expOk
def Z0 {ρ : Type} (N : Nat) (v0 : LI) (v1 : Int) (kr : Bool → Option ρ) : Option ρ :=
 cond (lk N (decide ((v0.length : Int) = v1)))
 (
  kr (!(lk N ((slices_ContainsFunc_int_int_expOk.g v0 ())))))
 (
  kr false)
def Spec : Prop := ∀  (v0 : LI) (v1 : Int), Ty.bd (.sl 0 (.int .i64)) v0 → ∃ N0, ∀ N, N0 ≤ N → Z0 N v0 v1 (fun v4 => some ((), (v4, ()))) = some ((), ((g v0 v1), ()))
theorem ok : Spec := fun exp vars hb => ⟨0, fun N hN => by
  simp only [Z0, lk_eq, g, slices_ContainsFunc_int_int_expOk.g, expK]
  by_cases h : (exp.length : Int) = vars
  · simp only [dt h, cond_true, Bool.true_and, List.not_any_eq_all_not]
    simp [impl_expOk_1.g]
  · simp only [df h, cond_false, Bool.false_and]⟩
end impl_expOk
end
end Go.Fw
namespace Go.Fw
noncomputable section
variable {ρ : Type}
namespace impl_coefOk
def g (c : Int) : Bool := coefK c
end impl_coefOk
namespace impl_coefOk
def Z0 {ρ : Type} (N : Nat) (v0 : Int) (kr : Bool → Option ρ) : Option ρ :=
 cond (lk N (!(decide (v0 = 0))))
 (
  kr (lk N ((impl_within.g v0 (-1000000) 1000000))))
 (
  kr false)
def Spec : Prop := ∀  (v0 : Int), ∃ N0, ∀ N, N0 ≤ N → Z0 N v0 (fun v2 => some ((), (v2, ()))) = some ((), ((g v0), ()))
theorem ok : Spec := fun c => ⟨0, fun N hN => by
  simp only [Z0, lk_eq, g, impl_within.g, coefK]
  cases decide (c = 0) <;> rfl⟩
end impl_coefOk
end
end Go.Fw
namespace Go.Fw
noncomputable section
variable {ρ : Type}
namespace cmp_isNaN_int
def g (_ : Int) : Bool := false
end cmp_isNaN_int
namespace cmp_isNaN_int
def Z0 {ρ : Type} (N : Nat) (v0 : Int) (kr : Bool → Option ρ) : Option ρ :=
 kr (lk N (!(decide (v0 = v0))))
def Spec : Prop := ∀  (v0 : Int), ∃ N0, ∀ N, N0 ≤ N → Z0 N v0 (fun v2 => some ((), (v2, ()))) = some ((), ((g v0), ()))
theorem ok : Spec := fun x => ⟨0, fun N hN => by simp [Z0, lk_eq, g]⟩
end cmp_isNaN_int
end
end Go.Fw
namespace Go.Fw
noncomputable section
variable {ρ : Type}
namespace cmp_Compare_int
def g (x y : Int) : Int := if x = y then 0 else if x < y then -1 else 1
end cmp_Compare_int
namespace cmp_Compare_int
def Z0 {ρ : Type} (N : Nat) (v0 v1 : Int) (kr : Int → Option ρ) : Option ρ :=
 cond (lk N ((cmp_isNaN_int.g v0)))
 (
  cond (lk N ((cmp_isNaN_int.g v1)))
  (
   kr 0)
  (
   kr (-1)))
 (
  cond (lk N ((cmp_isNaN_int.g v1)))
  (
   kr 1)
  (
   cond (lk N (decide (v0 < v1)))
   (
    kr (-1))
   (
    cond (lk N (decide (v1 < v0)))
    (
     kr 1)
    (
     kr 0))))
def Spec : Prop := ∀  (v0 v1 : Int), ∃ N0, ∀ N, N0 ≤ N → Z0 N v0 v1 (fun v4 => some ((), (v4, ()))) = some ((), ((g v0 v1), ()))
theorem ok : Spec := fun x y => ⟨0, fun N hN => by
  simp only [Z0, lk_eq, g, cmp_isNaN_int.g, cond_false]
  by_cases h : x < y
  · rw [dt h, if_neg (by omega), if_pos h]; rfl
  · rw [df h]
    by_cases h2 : y < x
    · rw [dt h2, if_neg (by omega), if_neg h]; rfl
    · rw [df h2, if_pos (by omega)]; rfl⟩
end cmp_Compare_int
end
end Go.Fw
namespace Go.Fw
noncomputable section
variable {ρ : Type}
namespace slices_Compare_int_int
abbrev g (a b : List Int) : Int := lexCmp a b
end slices_Compare_int_int
namespace slices_Compare_int_int
def Z1 {ρ : Type} (N : Nat) (v0 v1 : LI) (kn : LI → LI → Option ρ) : Option ρ :=
 kn v0 v1
def Z4 {ρ : Type} (N : Nat) (v0 v1 : LI) (kn : LI → LI → LI → I2 (Option ρ)) : Option ρ :=
 kn v0 v1 v0 (v0.length : Int) 0
def Z7 {ρ : Type} (N : Nat) (v0 v1 v9 : LI) (v10 v11 : Int) (kn : LI → LI → LI → I2 (Option ρ)) (k0 : LI → LI → Option ρ) (kr : Int → Option ρ) : Option ρ :=
 cond (lk N (decide (v11 < v10)))
 (
  cond (lk N (inB v11 v9.length)) (
   cond (lk N (decide ((v1.length : Int) ≤ v11)))
   (
    kr 1)
   (
    cond (lk N (inB v11 v1.length)) (
     cond (lk N (!(decide ((cmp_Compare_int.g (v9.getD v11.toNat 0) (v1.getD v11.toNat 0)) = 0))))
     (
      kr (cmp_Compare_int.g (v9.getD v11.toNat 0) (v1.getD v11.toNat 0)))
     (
      kn v0 v1 v9 v10 (w64 (v11 + 1)))) none)) none)
 (
  k0 v0 v1)
def Z6L {ρ : Type} (N : Nat) (k0 : LI → LI → Option ρ) (kr : Int → Option ρ) : Nat → LI → LI → LI → Int → Int → Option ρ
  | 0, _, _, _, _, _ => none
  | M + 1, v0, v1, v9, v10, v11 => Z7 N v0 v1 v9 v10 v11 (fun v0 v1 v9 v10 v11 => Z6L N k0 kr M v0 v1 v9 v10 v11) k0 kr
def Z6 N v0 v1 v9 v10 v11 k0 kr := (Z6L N k0 kr N v0 v1 v9 v10 v11 : Option ρ)
def Z5 N v0 v1 v9 v10 v11 kn kr := (Z6 N v0 v1 v9 v10 v11 kn kr : Option ρ)
def Z3 N v0 v1 kn kr := (Z4 N v0 v1 (fun v0 v1 v9 v10 v11 => Z5 N v0 v1 v9 v10 v11 kn kr) : Option ρ)
def Z8 {ρ : Type} (N : Nat) (v0 v1 : LI) (kr : Int → Option ρ) : Option ρ :=
 cond (lk N (decide ((v0.length : Int) < (v1.length : Int))))
 (
  kr (-1))
 (
  kr 0)
def Z2 N v0 v1 kr := (Z3 N v0 v1 (fun v0 v1 => Z8 N v0 v1 kr) kr : Option ρ)
def Z0 N v0 v1 kr := (Z1 N v0 v1 (fun v0 v1 => Z2 N v0 v1 kr) : Option ρ)
def Spec : Prop := ∀  (v0 v1 : LI), Ty.bd (.sl 0 (.int .i64)) v0 → Ty.bd (.sl 0 (.int .i64)) v1 → ∃ N0, ∀ N, N0 ≤ N → Z0 N v0 v1 (fun v4 => some ((), (v4, ()))) = some ((), ((g v0 v1), ()))
theorem loop {ρ : Type} (N : Nat) (k0 : List Int → List Int → Option ρ) (kr : Int → Option ρ) (a b : List Int) (ha : a.length ≤ maxLen) (h0 : k0 a b = if a.length < b.length then kr (-1) else kr 0) : ∀ (M j : Nat), j ≤ a.length → j ≤ b.length → a.length - j < M →
    Z6L N k0 kr M a b a (a.length : Int) (j : Int) = kr (lexCmp (a.drop j) (b.drop j)) := by
  intro M
  induction M with
  | zero => intro j _ _ h; omega
  | succ M ih =>
    intro j hj hb hM
    simp only [Z6L, Z7]
    by_cases h : j < a.length
    · rw [ct (dt (by omega)), ct (inB_nat h), drop_getD 0 h]
      by_cases h2 : j < b.length
      · rw [cf (df (by omega)), ct (inB_nat h2), Int.toNat_natCast, w64_succ (by omega), drop_getD (l := b) 0 h2, lexCmp, ih (j + 1) h h2 (by omega)]
        by_cases e : a.getD j 0 = b.getD j 0
        · rw [cf (nf (by rw [cmp_Compare_int.g, if_pos e])), if_pos e]
        · rw [ct (nt (by simp only [cmp_Compare_int.g, if_neg e]; split <;> omega)), if_neg e]
          simp only [cmp_Compare_int.g, if_neg e]
      · rw [ct (dt (by omega)), List.drop_of_length_le (l := b) (by omega)]
        rfl
    · rw [cf (df (by omega)), List.drop_of_length_le (by omega), h0]
      by_cases h2 : j < b.length
      · rw [if_pos (by omega), drop_getD (l := b) 0 h2]; rfl
      · rw [if_neg (by omega), List.drop_of_length_le (l := b) (by omega)]; rfl
theorem ok : Spec := fun a b ha hb => ⟨a.length + 1, fun N hN => by
  simp only [Z1, Z4, Z7, Z6, Z5, Z3, Z8, Z2, Z0]
  refine (loop N _ (fun t => some ((), (t, ()))) a b ha.1 ?_ N 0 (by omega) (by omega) (by omega)).trans rfl
  by_cases h : a.length < b.length
  · rw [ct (dt (by omega)), if_pos h]
  · rw [cf (df (by omega)), if_neg h]⟩
end slices_Compare_int_int
end
end Go.Fw
namespace Go.Fw
noncomputable section
variable {ρ : Type}
namespace impl_LaurentOk
def g (f : Int × List (List Int × Int)) : Bool := lokK f
end impl_LaurentOk
namespace impl_LaurentOk
def Z1 {ρ : Type} (N : Nat) (v0 : Int × List (LI × Int)) (kn : Int → (List (LI × Int)) → Option ρ) : Option ρ :=
 kn v0.1 v0.2
def Z3 {ρ : Type} (N : Nat) (v1_0 : Int) (v1_1 : List (LI × Int)) (kn : Int → (List (LI × Int)) → Option ρ) (kr : Bool → Option ρ) : Option ρ :=
 cond (!(lk N ((impl_within.g v1_0 1 8))))
 (
  kr false)
 (
  cond (lk N (decide (600 < (v1_1.length : Int))))
  (
   kr false)
  (
   kn v1_0 v1_1))
def Z6 {ρ : Type} (N : Nat) (v1_0 : Int) (v1_1 : List (LI × Int)) (kn : (List (LI × Int)) → I3 ((List (LI × Int)) → Option ρ)) : Option ρ :=
 kn v1_1 (v1_1.length : Int) 0 v1_0 v1_1
def Z9 {ρ : Type} (N : Nat) (v16 : List (LI × Int)) (v17 v18 v1_0 : Int) (v1_1 : List (LI × Int)) (kn : (List (LI × Int)) → I3 ((List (LI × Int)) → Option ρ)) (k0 : Option ρ) (kr : Bool → Option ρ) : Option ρ :=
 cond (lk N (decide (v18 < v17)))
 (
  cond (lk N (inB v18 v16.length)) (
   cond (!(lk N ((impl_expOk.g (v16.getD v18.toNat ([], 0)).1 v1_0))))
   (
    kr false)
   (
    cond (!(lk N ((impl_coefOk.g (v16.getD v18.toNat ([], 0)).2))))
    (
     kr false)
    (
     cond (lk N (decide (0 < v18)))
     (
      cond (lk N (inB (w64 (v18 - 1)) v1_1.length)) (
       cond (lk N (decide ((slices_Compare_int_int.g (v1_1.getD (w64 (v18 - 1)).toNat ([], 0)).1 (v16.getD v18.toNat ([], 0)).1) ≤ 0)))
       (
        kr false)
       (
        kn v16 v17 (w64 (v18 + 1)) v1_0 v1_1)) none)
     (
      kn v16 v17 (w64 (v18 + 1)) v1_0 v1_1)))) none)
 (
  k0)
def Z8L {ρ : Type} (N : Nat) (k0 : Option ρ) (kr : Bool → Option ρ) : Nat → (List (LI × Int)) → Int → Int → Int → (List (LI × Int)) → Option ρ
  | 0, _, _, _, _, _ => none
  | M + 1, v16, v17, v18, v1_0, v1_1 => Z9 N v16 v17 v18 v1_0 v1_1 (fun v16 v17 v18 v1_0 v1_1 => Z8L N k0 kr M v16 v17 v18 v1_0 v1_1) k0 kr
def Z8 N v16 v17 v18 v1_0 v1_1 k0 kr := (Z8L N k0 kr N v16 v17 v18 v1_0 v1_1 : Option ρ)
def Z7 N v16 v17 v18 v1_0 v1_1 kn kr := (Z8 N v16 v17 v18 v1_0 v1_1 kn kr : Option ρ)
def Z5 N v1_0 v1_1 kn kr := (Z6 N v1_0 v1_1 (fun v16 v17 v18 v1_0 v1_1 => Z7 N v16 v17 v18 v1_0 v1_1 kn kr) : Option ρ)
def Z10 {ρ : Type} (N : Nat)  (kr : Bool → Option ρ) : Option ρ :=
 kr true
def Z4 N v1_0 v1_1 kr := (Z5 N v1_0 v1_1 (Z10 N kr) kr : Option ρ)
def Z2 N v1_0 v1_1 kr := (Z3 N v1_0 v1_1 (fun v1_0 v1_1 => Z4 N v1_0 v1_1 kr) kr : Option ρ)
def Z0 N v0 kr := (Z1 N v0 (fun v1_0 v1_1 => Z2 N v1_0 v1_1 kr) : Option ρ)
def Spec : Prop := ∀  (v0 : Int × List (LI × Int)), Ty.bd (.pair (.int .i64) (.sl 0 (.pair (.sl 0 (.int .i64)) (.int .i64)))) v0 → ∃ N0, ∀ N, N0 ≤ N → Z0 N v0 (fun v2 => some ((), (v2, ()))) = some ((), ((g v0), ()))
theorem loop {ρ : Type} (N : Nat) (kr : Bool → Option ρ) (v : Int) (l : List (List Int × Int)) (hl : l.length ≤ maxLen) : ∀ (M j : Nat), j ≤ l.length → l.length - j < M →
    Z8L N (kr true) kr M l (l.length : Int) (j : Int) v l = kr (termsK v (l.drop j) (prevE l j)) := by
  intro M
  induction M with
  | zero => intro j _ h; omega
  | succ M ih =>
    intro j hj hM
    simp only [Z8L, Z9]
    by_cases h : j < l.length
    · rw [ct (dt (by omega)), ct (inB_nat h), Int.toNat_natCast, w64_succ (by omega), drop_getD ([], 0) h, termsK, ih (j + 1) h (by omega)]
      simp only [lk_eq, impl_expOk.g, impl_coefOk.g]
      cases expK v (l.getD j ([], 0)).1
      · rfl
      cases coefK (l.getD j ([], 0)).2
      · rfl
      simp only [Bool.not_true, cond_false, Bool.true_and]
      cases j with
      | zero => rfl
      | succ j =>
        rw [dt (show (0 : Int) < ((j + 1 : Nat) : Int) by omega), show w64 (((j + 1 : Nat) : Int) - 1) = (j : Int) by rw [w64_id (by omega) (by rw [maxLen_val] at hl; omega)]; omega, inB_nat (by omega)]
        simp only [cond_true, Int.toNat_natCast, slices_Compare_int_int.g, lexCmp_le, prevE, belowK]
        cases lexLt (l.getD (j + 1) ([], 0)).1 (l.getD j ([], 0)).1 <;> rfl
    · rw [cf (df (by omega)), List.drop_of_length_le (by omega), termsK]
theorem ok : Spec := fun f hb => ⟨f.2.length + 1, fun N hN => by
  simp only [Z1, Z3, Z6, Z9, Z8, Z7, Z5, Z10, Z4, Z2, Z0, g, lokK, impl_within.g]
  cases h1 : inK f.1 1 8
  · simp [lk_eq]
  by_cases h2 : (600 : Int) < f.2.length
  · rw [cf' (by simp [lk_eq]), ct (dt h2), df (by omega)]
    simp
  · rw [cf' (by simp [lk_eq]), cf (df h2), dt (show f.2.length ≤ 600 by omega)]
    exact (loop N (fun t => some ((), (t, ()))) _ f.2 hb.2.1 N 0 (by omega) (by omega)).trans rfl⟩
end impl_LaurentOk
end
end Go.Fw
namespace Go.Fw
noncomputable section
variable {ρ : Type}
namespace strconv_Itoa
noncomputable def g (n : Int) : ByteArray := itoaB n
def P (n : Int) : Bool := i64P n
end strconv_Itoa
namespace strconv_Itoa
theorem ok : True := trivial
end strconv_Itoa
end
end Go.Fw
namespace Go.Fw
noncomputable section
variable {ρ : Type}
namespace impl_FormatInt
noncomputable def g (n : Int) : ByteArray := itoaB n
def P (n : Int) : Bool := i64P n
end impl_FormatInt
namespace impl_FormatInt
def Z0 {ρ : Type} (N : Nat) (v0 : Int) (kr : ByteArray → Option ρ) : Option ρ :=
 cond (lk N (strconv_Itoa.P v0)) (
  kr (strconv_Itoa.g v0)) none
def Spec : Prop := ∀  (v0 : Int), P v0 = true → ∃ N0, ∀ N, N0 ≤ N → Z0 N v0 (fun v2 => some ((), (v2, ()))) = some ((), ((g v0), ()))
theorem ok : Spec := fun n hp => ⟨0, fun N hN => by
  simp only [Z0]
  rw [ct (show strconv_Itoa.P n = true from hp)]
  rfl⟩
end impl_FormatInt
end
end Go.Fw
namespace Go.Fw
noncomputable section
variable {ρ : Type}
namespace strings_Join
noncomputable def g (xs : List ByteArray) (sep : ByteArray) : ByteArray := ⟨(Lib.join (xs.map (·.data.toList)) sep.data.toList).toArray⟩
noncomputable def P (xs : List ByteArray) (sep : ByteArray) : Bool := Nat.ble xs.length 140737488355328 && Nat.ble (Lib.join (xs.map (·.data.toList)) sep.data.toList).length 140737488355328
end strings_Join
namespace strings_Join
theorem ok : True := trivial
end strings_Join
end
end Go.Fw
namespace Go.Fw
noncomputable section
variable {ρ : Type}
namespace impl_FormatInts
noncomputable def g (l : List Int) : ByteArray := itoasB l
def P (l : List Int) : Bool := rowP l
end impl_FormatInts
namespace impl_FormatInts
def Z1 {ρ : Type} (N : Nat) (v0 : LI) (kn : LI → Option ρ) : Option ρ :=
 kn v0
def Z3 {ρ : Type} (N : Nat) (v0 : LI) (kn : LI → Option ρ) : Option ρ :=
 kn v0
def Z6 {ρ : Type} (N : Nat) (v0 : LI) (kn : LI → I2 (Option ρ)) : Option ρ :=
 kn v0 (v0.length : Int) 0
def Z9 {ρ : Type} (N : Nat) (v3 : List ByteArray) (v6 : LI) (v7 v8 : Int) (kn : List ByteArray → LI → I2 (Option ρ)) (k0 : List ByteArray → Option ρ) : Option ρ :=
 cond (lk N (decide (v8 < v7)))
 (
  cond (lk N (inB v8 v6.length)) (
   cond (lk N (impl_FormatInt.P (v6.getD v8.toNat 0))) (
    cond (lk N (Nat.blt (v3.length + ([(impl_FormatInt.g (v6.getD v8.toNat 0))] : List ByteArray).length) 1099511627776)) (
     kn (v3 ++ ([(impl_FormatInt.g (v6.getD v8.toNat 0))] : List ByteArray)) v6 v7 (w64 (v8 + 1))) none) none) none)
 (
  k0 v3)
def Z8L {ρ : Type} (N : Nat) (k0 : List ByteArray → Option ρ) : Nat → List ByteArray → LI → Int → Int → Option ρ
  | 0, _, _, _, _ => none
  | M + 1, v3, v6, v7, v8 => Z9 N v3 v6 v7 v8 (fun v3 v6 v7 v8 => Z8L N k0 M v3 v6 v7 v8) k0
def Z8 N v6 v7 v8 k0 := (Z8L N k0 N ([] : List ByteArray) v6 v7 v8 : Option ρ)
def Z7 N v6 v7 v8 kn := (Z8 N v6 v7 v8 kn : Option ρ)
def Z5 N v0 kn := (Z6 N v0 (fun v6 v7 v8 => Z7 N v6 v7 v8 kn) : Option ρ)
def Z10 {ρ : Type} (N : Nat) (v3 : List ByteArray) (kr : ByteArray → Option ρ) : Option ρ :=
 cond (lk N (strings_Join.P v3 (⟨#[32]⟩ : ByteArray))) (
  kr (strings_Join.g v3 (⟨#[32]⟩ : ByteArray))) none
def Z4 N v0 kr := (Z5 N v0 (fun v3 => Z10 N v3 kr) : Option ρ)
def Z2 N v0 kr := (Z3 N v0 (fun v0 => Z4 N v0 kr) : Option ρ)
def Z0 N v0 kr := (Z1 N v0 (fun v0 => Z2 N v0 kr) : Option ρ)
def Spec : Prop := ∀  (v0 : LI), Ty.bd (.sl 0 (.int .i64)) v0 → P v0 = true → ∃ N0, ∀ N, N0 ≤ N → Z0 N v0 (fun v2 => some ((), (v2, ()))) = some ((), ((g v0), ()))
theorem loop {ρ : Type} {N : Nat} (k0 : List ByteArray → Option ρ) {l : List Int} (hp : rowP l = true) : ∀ (M j : Nat), j ≤ l.length → l.length - j < M → Z8L N k0 M ((l.take j).map itoaB) l (l.length : Int) (j : Int) = k0 (l.map itoaB) := by
  simp only [rowP, Bool.and_eq_true, decide_eq_true_eq] at hp
  intro M
  induction M with
  | zero => intro j _ h; omega
  | succ M ih =>
    intro j hj hM
    simp only [Z8L, Z9]
    by_cases h : j < l.length
    · have h1 : impl_FormatInt.P (l.getD j 0) = true := List.all_eq_true.1 hp.2 _ (getD_mem 0 h)
      have h2 : impl_FormatInt.g (l.getD j 0) = itoaB (l.getD j 0) := rfl
      have h3 : ∀ x : ByteArray, Nat.blt (((l.take j).map itoaB).length + ([x] : List ByteArray).length) 1099511627776 = true := fun x => Nat.ble_eq_true_of_le (by simp; omega)
      rw [ct (dt (by omega)), ct (inB_nat h), Int.toNat_natCast, ct h1, h2, ct (h3 _), w64_succ (by rw [maxLen_val]; omega)]
      have e : (l.take j).map itoaB ++ [itoaB (l.getD j 0)] = (l.take (j + 1)).map itoaB := by rw [← take_getD 0 h, List.map_append]; rfl
      rw [e]
      exact ih (j + 1) h (by omega)
    · rw [cf (df (by omega)), List.take_of_length_le (by omega)]
theorem ok : Spec := fun l hb hp => ⟨l.length + 1, fun N hN => by
  have hp' := hp
  simp only [P, rowP, Bool.and_eq_true, decide_eq_true_eq] at hp'
  simp only [Z1, Z3, Z6, Z9, Z8, Z7, Z5, Z10, Z4, Z2, Z0]
  refine (loop _ hp N 0 (Nat.zero_le _) (by omega)).trans ?_
  have e : ((l.map itoaB).map (·.data.toList)) = l.map Lib.itoa := by
    rw [List.map_map]
    exact List.map_congr_left fun n _ => itoaB_data n
  have hlen := itoas_len hp'.2
  have e2 : (⟨#[32]⟩ : ByteArray).data.toList = [32] := rfl
  have hP : strings_Join.P (l.map itoaB) ⟨#[32]⟩ = true := by
    simp only [strings_Join.P, e, e2, Bool.and_eq_true, List.length_map]
    exact ⟨Nat.ble_eq_true_of_le (by omega), Nat.ble_eq_true_of_le (show (itoasL l).length ≤ _ by omega)⟩
  have hg : strings_Join.g (l.map itoaB) ⟨#[32]⟩ = itoasB l := by
    simp only [strings_Join.g, e, e2]
    rfl
  rw [ct hP, hg]
  rfl⟩
end impl_FormatInts
end
end Go.Fw
namespace Go.Fw
noncomputable section
variable {ρ : Type}
namespace impl_FormatLaurent
noncomputable def g (f : Int × List (List Int × Int)) : ByteArray := if lokK f = true then fmtL f else ByteArray.empty
end impl_FormatLaurent
namespace impl_FormatLaurent
def Z1 {ρ : Type} (N : Nat) (v0 : Int × List (LI × Int)) (kn : Int → (List (LI × Int)) → Option ρ) : Option ρ :=
 kn v0.1 v0.2
def Z3 {ρ : Type} (N : Nat) (v1_0 : Int) (v1_1 : List (LI × Int)) (kn : Int → (List (LI × Int)) → Option ρ) (kr : ByteArray → Option ρ) : Option ρ :=
 cond (!(lk N ((impl_LaurentOk.g (v1_0, v1_1)))))
 (
  kr ByteArray.empty)
 (
  kn v1_0 v1_1)
def Z5 {ρ : Type} (N : Nat) (v1_0 : Int) (v1_1 : List (LI × Int)) (kn : Int → (List (LI × Int)) → Option ρ) : Option ρ :=
 kn v1_0 v1_1
def Z8 {ρ : Type} (N : Nat) (v1_0 : Int) (v1_1 : List (LI × Int)) (kn : (List (LI × Int)) → I3 ((List (LI × Int)) → Option ρ)) : Option ρ :=
 kn v1_1 (v1_1.length : Int) 0 v1_0 v1_1
def Z11 {ρ : Type} (N : Nat) (v3 : List ByteArray) (v10 : List (LI × Int)) (v11 v12 v1_0 : Int) (v1_1 : List (LI × Int)) (kn : List ByteArray → (List (LI × Int)) → I3 ((List (LI × Int)) → Option ρ)) (k0 : List ByteArray → Int → (List (LI × Int)) → Option ρ) : Option ρ :=
 cond (lk N (decide (v12 < v11)))
 (
  cond (lk N (inB v12 v10.length)) (
   cond (lk N (impl_FormatInt.P (v10.getD v12.toNat ([], 0)).2)) (
    cond (Nat.blt ((impl_FormatInt.g (v10.getD v12.toNat ([], 0)).2).size + (⟨#[58]⟩ : ByteArray).size) 4611686018427387904) (
     cond (lk N (impl_FormatInts.P (v10.getD v12.toNat ([], 0)).1)) (
      cond (Nat.blt (((impl_FormatInt.g (v10.getD v12.toNat ([], 0)).2) ++ (⟨#[58]⟩ : ByteArray)).size + (impl_FormatInts.g (v10.getD v12.toNat ([], 0)).1).size) 4611686018427387904) (
       cond (lk N (Nat.blt (v3.length + ([(((impl_FormatInt.g (v10.getD v12.toNat ([], 0)).2) ++ (⟨#[58]⟩ : ByteArray)) ++ (impl_FormatInts.g (v10.getD v12.toNat ([], 0)).1))] : List ByteArray).length) 1099511627776)) (
        kn (v3 ++ ([(((impl_FormatInt.g (v10.getD v12.toNat ([], 0)).2) ++ (⟨#[58]⟩ : ByteArray)) ++ (impl_FormatInts.g (v10.getD v12.toNat ([], 0)).1))] : List ByteArray)) v10 v11 (w64 (v12 + 1)) v1_0 v1_1) none) none) none) none) none) none)
 (
  k0 v3 v1_0 v1_1)
def Z10L {ρ : Type} (N : Nat) (k0 : List ByteArray → Int → (List (LI × Int)) → Option ρ) : Nat → List ByteArray → (List (LI × Int)) → Int → Int → Int → (List (LI × Int)) → Option ρ
  | 0, _, _, _, _, _, _ => none
  | M + 1, v3, v10, v11, v12, v1_0, v1_1 => Z11 N v3 v10 v11 v12 v1_0 v1_1 (fun v3 v10 v11 v12 v1_0 v1_1 => Z10L N k0 M v3 v10 v11 v12 v1_0 v1_1) k0
def Z10 N v10 v11 v12 v1_0 v1_1 k0 := (Z10L N k0 N ([] : List ByteArray) v10 v11 v12 v1_0 v1_1 : Option ρ)
def Z9 N v10 v11 v12 v1_0 v1_1 kn := (Z10 N v10 v11 v12 v1_0 v1_1 kn : Option ρ)
def Z7 N v1_0 v1_1 kn := (Z8 N v1_0 v1_1 (fun v10 v11 v12 v1_0 v1_1 => Z9 N v10 v11 v12 v1_0 v1_1 kn) : Option ρ)
def Z12 {ρ : Type} (N : Nat) (v3 : List ByteArray) (v1_0 : Int) (v1_1 : List (LI × Int)) (kr : ByteArray → Option ρ) : Option ρ :=
 cond (lk N (decide ((v3.length : Int) = 0)))
 (
  cond (lk N (impl_FormatInt.P v1_0)) (
   cond (Nat.blt ((impl_FormatInt.g v1_0).size + (⟨#[124]⟩ : ByteArray).size) 4611686018427387904) (
    cond (lk N (strings_Join.P ([(⟨#[48]⟩ : ByteArray)] : List ByteArray) (⟨#[44, 32]⟩ : ByteArray))) (
     cond (Nat.blt (((impl_FormatInt.g v1_0) ++ (⟨#[124]⟩ : ByteArray)).size + (strings_Join.g ([(⟨#[48]⟩ : ByteArray)] : List ByteArray) (⟨#[44, 32]⟩ : ByteArray)).size) 4611686018427387904) (
      kr (((impl_FormatInt.g v1_0) ++ (⟨#[124]⟩ : ByteArray)) ++ (strings_Join.g ([(⟨#[48]⟩ : ByteArray)] : List ByteArray) (⟨#[44, 32]⟩ : ByteArray)))) none) none) none) none)
 (
  cond (lk N (impl_FormatInt.P v1_0)) (
   cond (Nat.blt ((impl_FormatInt.g v1_0).size + (⟨#[124]⟩ : ByteArray).size) 4611686018427387904) (
    cond (lk N (strings_Join.P v3 (⟨#[44, 32]⟩ : ByteArray))) (
     cond (Nat.blt (((impl_FormatInt.g v1_0) ++ (⟨#[124]⟩ : ByteArray)).size + (strings_Join.g v3 (⟨#[44, 32]⟩ : ByteArray)).size) 4611686018427387904) (
      kr (((impl_FormatInt.g v1_0) ++ (⟨#[124]⟩ : ByteArray)) ++ (strings_Join.g v3 (⟨#[44, 32]⟩ : ByteArray)))) none) none) none) none)
def Z6 N v1_0 v1_1 kr := (Z7 N v1_0 v1_1 (fun v3 v1_0 v1_1 => Z12 N v3 v1_0 v1_1 kr) : Option ρ)
def Z4 N v1_0 v1_1 kr := (Z5 N v1_0 v1_1 (fun v1_0 v1_1 => Z6 N v1_0 v1_1 kr) : Option ρ)
def Z2 N v1_0 v1_1 kr := (Z3 N v1_0 v1_1 (fun v1_0 v1_1 => Z4 N v1_0 v1_1 kr) kr : Option ρ)
def Z0 N v0 kr := (Z1 N v0 (fun v1_0 v1_1 => Z2 N v1_0 v1_1 kr) : Option ρ)
def Spec : Prop := ∀  (v0 : Int × List (LI × Int)), Ty.bd (.pair (.int .i64) (.sl 0 (.pair (.sl 0 (.int .i64)) (.int .i64)))) v0 → ∃ N0, ∀ N, N0 ≤ N → Z0 N v0 (fun v2 => some ((), (v2, ()))) = some ((), ((g v0), ()))
theorem blt_txt {a b : ByteArray} (h : a.size + b.size < 4611686018427387904) : Nat.blt (a.size + b.size) 4611686018427387904 = true := Nat.ble_eq_true_of_le h
theorem loop {ρ : Type} {N : Nat} {f : Int × List (List Int × Int)} (hf : LFacts f) (k0 : List ByteArray → Int → List (List Int × Int) → Option ρ) : ∀ (M j : Nat), j ≤ f.2.length → f.2.length - j < M →
    Z10L N k0 M ((f.2.take j).map fun t => txt (termT t)) f.2 (f.2.length : Int) (j : Int) f.1 f.2 = k0 (f.2.map fun t => txt (termT t)) f.1 f.2 := by
  have hn := hf.n
  intro M
  induction M with
  | zero => intro j _ h; omega
  | succ M ih =>
    intro j hj hM
    simp only [Z10L, Z11]
    by_cases h : j < f.2.length
    · have hm := getD_mem (l := f.2) (j := j) ([], 0) h
      have h1 : impl_FormatInt.P (f.2.getD j ([], 0)).2 = true := hf.c _ hm
      have h1g : impl_FormatInt.g (f.2.getD j ([], 0)).2 = txt (Lib.itoa (f.2.getD j ([], 0)).2) := rfl
      have h2 : impl_FormatInts.P (f.2.getD j ([], 0)).1 = true := hf.e _ hm
      have h2g : impl_FormatInts.g (f.2.getD j ([], 0)).1 = txt (itoasL (f.2.getD j ([], 0)).1) := rfl
      have hl := hf.l _ hm
      have ht : termT (f.2.getD j ([], 0)) = Lib.itoa (f.2.getD j ([], 0)).2 ++ [58] ++ itoasL (f.2.getD j ([], 0)).1 := rfl
      have hl' := hl
      rw [ht] at hl'
      simp only [List.length_append, List.length_cons, List.length_nil] at hl'
      have e2 : (⟨#[58]⟩ : ByteArray) = txt [58] := rfl
      have hb : ∀ x : ByteArray, Nat.blt (((f.2.take j).map fun t => txt (termT t)).length + ([x] : List ByteArray).length) 1099511627776 = true := fun x => Nat.ble_eq_true_of_le (by simp; omega)
      rw [ct (dt (by omega)), Int.toNat_natCast, h1g, h2g, e2]
      simp only [txt_app]
      rw [ct (inB_nat h), ct h1, ct' (blt_txt (by rw [txt_size, txt_size]; simp only [List.length_append, List.length_cons, List.length_nil]; omega)), ct h2,
        ct' (blt_txt (by rw [txt_size, txt_size]; simp only [List.length_append, List.length_cons, List.length_nil]; omega)), ct (hb _), w64_succ (by rw [maxLen_val]; omega), ← ht]
      have e4 : ((f.2.take j).map fun t => txt (termT t)) ++ [txt (termT (f.2.getD j ([], 0)))] = (f.2.take (j + 1)).map fun t => txt (termT t) := by
        rw [← take_getD ([], 0) h, List.map_append]
        rfl
      rw [e4]
      exact ih (j + 1) h (by omega)
    · rw [cf (df (by omega)), List.take_of_length_le (by omega)]
theorem ok : Spec := fun f hb => ⟨f.2.length + 100, fun N hN => by
  have e0 : impl_LaurentOk.g (f.1, f.2) = lokK f := rfl
  simp only [Z0, Z1, Z2, Z3, e0, lk_eq, g]
  cases h1 : lokK f
  · rfl
  have hf := lfacts h1
  have hh := headT_len hf
  have hP : impl_FormatInt.P f.1 = true := i64_of (by have := hf.v; omega) (by have := hf.v; omega)
  have hg : impl_FormatInt.g f.1 = txt (Lib.itoa f.1) := rfl
  have e1 : (⟨#[124]⟩ : ByteArray) = txt [124] := rfl
  have hh' := hh
  unfold headT at hh'
  simp only [List.length_append, List.length_cons, List.length_nil] at hh'
  simp only [Bool.not_true, cond_false, Z4, Z5, Z6, Z7, Z8, Z9, Z10]
  have hlp := loop (ρ := Unit × ByteArray × Unit) (N := N) hf (fun out3 f1_0 f1_1 => Z12 N out3 f1_0 f1_1 (fun t2 => some ((), (t2, ())))) N 0 (Nat.zero_le _) (by omega)
  rw [List.take_zero, List.map_nil] at hlp
  refine hlp.trans ?_
  simp only [Z12, List.length_map]
  have hmap : ((f.2.map fun t => txt (termT t)).map (·.data.toList)) = termsT f := by
    have h := map_txt (termsT f)
    have h2 : (termsT f).map txt = f.2.map fun t => txt (termT t) := by
      unfold termsT
      rw [List.map_map]
      rfl
    rw [h2] at h
    exact h
  have e2 : (⟨#[44, 32]⟩ : ByteArray).data.toList = [44, 32] := rfl
  have hbl : Nat.blt ((impl_FormatInt.g f.1).size + (⟨#[124]⟩ : ByteArray).size) 4611686018427387904 = true := blt_txt (by rw [hg, e1, txt_size, txt_size]; simp only [List.length_cons, List.length_nil]; omega)
  by_cases h0 : f.2.length = 0
  · have hJ : strings_Join.g [(⟨#[48]⟩ : ByteArray)] ⟨#[44, 32]⟩ = txt [48] := by
      simp only [strings_Join.g, List.map_cons, List.map_nil, Lib.join_one]
      rfl
    have hJP : strings_Join.P [(⟨#[48]⟩ : ByteArray)] ⟨#[44, 32]⟩ = true := by
      simp only [strings_Join.P, List.map_cons, List.map_nil, Lib.join_one]
      rfl
    rw [ct (dt (by omega)), ct hP, ct' hbl, ct hJP, hJ, hg, e1]
    simp only [txt_app]
    rw [ct' (blt_txt (by rw [txt_size, txt_size]; simp only [List.length_append, List.length_cons, List.length_nil]; omega)), if_pos trivial, fmtL, if_pos h0]
    rfl
  · have hp := partL_len hf f.2.length
    rw [List.take_of_length_le (by rw [termsT_len]; omega)] at hp
    have hJ : strings_Join.g (f.2.map fun t => txt (termT t)) ⟨#[44, 32]⟩ = txt (Lib.join (termsT f) [44, 32]) := by
      simp only [strings_Join.g, hmap, e2]
      rfl
    have hJP : strings_Join.P (f.2.map fun t => txt (termT t)) ⟨#[44, 32]⟩ = true := by
      simp only [strings_Join.P, hmap, e2, List.length_map, Bool.and_eq_true]
      have := hf.n
      exact ⟨Nat.ble_eq_true_of_le (by omega), Nat.ble_eq_true_of_le (by omega)⟩
    rw [cf (df (by omega)), ct hP, ct' hbl, ct hJP, hJ, hg, e1]
    simp only [txt_app]
    rw [ct' (blt_txt (by rw [txt_size, txt_size]; simp only [List.length_append, List.length_cons, List.length_nil]; omega)), if_pos trivial, fmtL, if_neg h0]
    rfl⟩
end impl_FormatLaurent
end
end Go.Fw
namespace Go.Fw
noncomputable section
variable {ρ : Type}
namespace laws_eqIntS
def g (a b : List Int) : Bool := decide (a = b)
end laws_eqIntS
namespace laws_eqIntS
def Z1 {ρ : Type} (N : Nat) (v0 v1 : LI) (kn : LI → LI → Option ρ) : Option ρ :=
 kn v0 v1
def Z3 {ρ : Type} (N : Nat) (v0 v1 : LI) (kn : LI → LI → Option ρ) (kr : Bool → Option ρ) : Option ρ :=
 cond (lk N (!(decide ((v0.length : Int) = (v1.length : Int)))))
 (
  kr false)
 (
  kn v0 v1)
def Z6 {ρ : Type} (N : Nat) (v0 v1 : LI) (kn : LI → LI → Int → Option ρ) : Option ρ :=
 kn v0 v1 0
def Z9 {ρ : Type} (N : Nat) (v0 v1 : LI) (v5 : Int) (kn : LI → LI → Int → Option ρ) (k0 : Option ρ) (kr : Bool → Option ρ) : Option ρ :=
 cond (lk N (decide (v5 < (v0.length : Int))))
 (
  cond (lk N (inB v5 v0.length)) (
   cond (lk N (inB v5 v1.length)) (
    cond (lk N (!(decide ((v0.getD v5.toNat 0) = (v1.getD v5.toNat 0)))))
    (
     kr false)
    (
     kn v0 v1 (w64 (v5 + 1)))) none) none)
 (
  k0)
def Z8L {ρ : Type} (N : Nat) (k0 : Option ρ) (kr : Bool → Option ρ) : Nat → LI → LI → Int → Option ρ
  | 0, _, _, _ => none
  | M + 1, v0, v1, v5 => Z9 N v0 v1 v5 (fun v0 v1 v5 => Z8L N k0 kr M v0 v1 v5) k0 kr
def Z8 N v0 v1 v5 k0 kr := (Z8L N k0 kr N v0 v1 v5 : Option ρ)
def Z7 N v0 v1 v5 kn kr := (Z8 N v0 v1 v5 kn kr : Option ρ)
def Z5 N v0 v1 kn kr := (Z6 N v0 v1 (fun v0 v1 v5 => Z7 N v0 v1 v5 kn kr) : Option ρ)
def Z10 {ρ : Type} (N : Nat)  (kr : Bool → Option ρ) : Option ρ :=
 kr true
def Z4 N v0 v1 kr := (Z5 N v0 v1 (Z10 N kr) kr : Option ρ)
def Z2 N v0 v1 kr := (Z3 N v0 v1 (fun v0 v1 => Z4 N v0 v1 kr) kr : Option ρ)
def Z0 N v0 v1 kr := (Z1 N v0 v1 (fun v0 v1 => Z2 N v0 v1 kr) : Option ρ)
def Spec : Prop := ∀  (v0 v1 : LI), Ty.bd (.sl 0 (.int .i64)) v0 → Ty.bd (.sl 0 (.int .i64)) v1 → ∃ N0, ∀ N, N0 ≤ N → Z0 N v0 v1 (fun v4 => some ((), (v4, ()))) = some ((), ((g v0 v1), ()))
theorem loop {ρ : Type} (N : Nat) (k0 : Option ρ) (kr : Bool → Option ρ) (a b : List Int) (hl : a.length = b.length) (ha : a.length ≤ maxLen) : ∀ (M j : Nat), j ≤ a.length → a.length - j < M →
    Z8L N k0 kr M a b (j : Int) = if a.drop j = b.drop j then k0 else kr false := by
  intro M
  induction M with
  | zero => intro j _ h; omega
  | succ M ih =>
    intro j hj hM
    simp only [Z8L, Z9]
    by_cases h : j < a.length
    · rw [ct (dt (by omega)), ct (inB_nat h), ct (inB_nat (by omega)), Int.toNat_natCast, w64_succ (by omega), ih (j + 1) h (by omega), drop_getD 0 h, drop_getD (l := b) (j := j) 0 (by omega)]
      by_cases e : a.getD j 0 = b.getD j 0
      · rw [cf (nf e), e]
        simp only [List.cons.injEq, true_and]
      · rw [ct (nt e), if_neg (by simp only [List.cons.injEq]; exact fun h => e h.1)]
    · rw [cf (df (by omega)), if_pos (by rw [List.drop_of_length_le (by omega), List.drop_of_length_le (by omega)])]
theorem ok : Spec := fun a b ha hb => ⟨a.length + 1, fun N hN => by
  simp only [Z1, Z3, Z6, Z9, Z8, Z7, Z5, Z10, Z4, Z2, Z0]
  by_cases hl : a.length = b.length
  · rw [cf (nf (by omega))]
    rw [show (0 : Int) = ((0 : Nat) : Int) from rfl, loop _ _ _ a b hl ha.1 N 0 (by omega) (by omega)]
    by_cases e : a = b <;> simp [e, g]
  · rw [ct (nt (by omega))]
    have : a ≠ b := fun e => hl (by rw [e])
    simp [g, this]⟩
end laws_eqIntS
end
end Go.Fw
namespace Go.Fw
noncomputable section
variable {ρ : Type}
namespace laws_eqTerm
def g (a b : List Int × Int) : Bool := decide (a = b)
end laws_eqTerm
namespace laws_eqTerm
def Z0 {ρ : Type} (N : Nat) (v0 v1 : LI × Int) (kr : Bool → Option ρ) : Option ρ :=
 cond (!(lk N ((laws_eqIntS.g v0.1 v1.1))))
 (
  kr false)
 (
  cond (lk N (!(decide (v0.2 = v1.2))))
  (
   kr false)
  (
   kr true))
def Spec : Prop := ∀  (v0 v1 : LI × Int), Ty.bd (.pair (.sl 0 (.int .i64)) (.int .i64)) v0 → Ty.bd (.pair (.sl 0 (.int .i64)) (.int .i64)) v1 → ∃ N0, ∀ N, N0 ≤ N → Z0 N v0 v1 (fun v4 => some ((), (v4, ()))) = some ((), ((g v0 v1), ()))
theorem ok : Spec := fun a b ha hb => ⟨0, fun N hN => by
  obtain ⟨a1, a2⟩ := a
  obtain ⟨b1, b2⟩ := b
  simp only [Z0, lk_eq, g, laws_eqIntS.g, Prod.mk.injEq]
  by_cases h1 : a1 = b1 <;> by_cases h2 : a2 = b2 <;> simp [h1, h2]⟩
end laws_eqTerm
end
end Go.Fw
namespace Go.Fw
noncomputable section
variable {ρ : Type}
namespace laws_eqTermS
def g (a b : List (List Int × Int)) : Bool := decide (a = b)
end laws_eqTermS
namespace laws_eqTermS
def Z1 {ρ : Type} (N : Nat) (v0 v1 : List (LI × Int)) (kn : (List (LI × Int)) → (List (LI × Int)) → Option ρ) : Option ρ :=
 kn v0 v1
def Z3 {ρ : Type} (N : Nat) (v0 v1 : List (LI × Int)) (kn : (List (LI × Int)) → (List (LI × Int)) → Option ρ) (kr : Bool → Option ρ) : Option ρ :=
 cond (lk N (!(decide ((v0.length : Int) = (v1.length : Int)))))
 (
  kr false)
 (
  kn v0 v1)
def Z6 {ρ : Type} (N : Nat) (v0 v1 : List (LI × Int)) (kn : (List (LI × Int)) → (List (LI × Int)) → Int → Option ρ) : Option ρ :=
 kn v0 v1 0
def Z9 {ρ : Type} (N : Nat) (v0 v1 : List (LI × Int)) (v5 : Int) (kn : (List (LI × Int)) → (List (LI × Int)) → Int → Option ρ) (k0 : Option ρ) (kr : Bool → Option ρ) : Option ρ :=
 cond (lk N (decide (v5 < (v0.length : Int))))
 (
  cond (lk N (inB v5 v0.length)) (
   cond (lk N (inB v5 v1.length)) (
    cond (!(lk N ((laws_eqTerm.g (v0.getD v5.toNat ([], 0)) (v1.getD v5.toNat ([], 0))))))
    (
     kr false)
    (
     kn v0 v1 (w64 (v5 + 1)))) none) none)
 (
  k0)
def Z8L {ρ : Type} (N : Nat) (k0 : Option ρ) (kr : Bool → Option ρ) : Nat → (List (LI × Int)) → (List (LI × Int)) → Int → Option ρ
  | 0, _, _, _ => none
  | M + 1, v0, v1, v5 => Z9 N v0 v1 v5 (fun v0 v1 v5 => Z8L N k0 kr M v0 v1 v5) k0 kr
def Z8 N v0 v1 v5 k0 kr := (Z8L N k0 kr N v0 v1 v5 : Option ρ)
def Z7 N v0 v1 v5 kn kr := (Z8 N v0 v1 v5 kn kr : Option ρ)
def Z5 N v0 v1 kn kr := (Z6 N v0 v1 (fun v0 v1 v5 => Z7 N v0 v1 v5 kn kr) : Option ρ)
def Z10 {ρ : Type} (N : Nat)  (kr : Bool → Option ρ) : Option ρ :=
 kr true
def Z4 N v0 v1 kr := (Z5 N v0 v1 (Z10 N kr) kr : Option ρ)
def Z2 N v0 v1 kr := (Z3 N v0 v1 (fun v0 v1 => Z4 N v0 v1 kr) kr : Option ρ)
def Z0 N v0 v1 kr := (Z1 N v0 v1 (fun v0 v1 => Z2 N v0 v1 kr) : Option ρ)
def Spec : Prop := ∀  (v0 v1 : List (LI × Int)), Ty.bd (.sl 0 (.pair (.sl 0 (.int .i64)) (.int .i64))) v0 → Ty.bd (.sl 0 (.pair (.sl 0 (.int .i64)) (.int .i64))) v1 → ∃ N0, ∀ N, N0 ≤ N → Z0 N v0 v1 (fun v4 => some ((), (v4, ()))) = some ((), ((g v0 v1), ()))
theorem loop {ρ : Type} (N : Nat) (k0 : Option ρ) (kr : Bool → Option ρ) (a b : List (List Int × Int)) (hl : a.length = b.length) (ha : a.length ≤ maxLen) : ∀ (M j : Nat), j ≤ a.length → a.length - j < M →
    Z8L N k0 kr M a b (j : Int) = if a.drop j = b.drop j then k0 else kr false := by
  intro M
  induction M with
  | zero => intro j _ h; omega
  | succ M ih =>
    intro j hj hM
    simp only [Z8L, Z9]
    by_cases h : j < a.length
    · rw [ct (dt (by omega)), ct (inB_nat h), ct (inB_nat (by omega)), Int.toNat_natCast, w64_succ (by omega), ih (j + 1) h (by omega), drop_getD ([], 0) h, drop_getD (l := b) (j := j) ([], 0) (by omega)]
      by_cases e : a.getD j ([], 0) = b.getD j ([], 0)
      · rw [cf' (by rw [lk_eq, laws_eqTerm.g, dt e]; rfl), e]
        simp only [List.cons.injEq, true_and]
      · rw [ct' (by rw [lk_eq, laws_eqTerm.g, df e]; rfl), if_neg (by simp only [List.cons.injEq]; exact fun h => e h.1)]
    · rw [cf (df (by omega)), if_pos (by rw [List.drop_of_length_le (by omega), List.drop_of_length_le (by omega)])]
theorem ok : Spec := fun a b ha hb => ⟨a.length + 1, fun N hN => by
  simp only [Z1, Z3, Z6, Z9, Z8, Z7, Z5, Z10, Z4, Z2, Z0]
  by_cases hl : a.length = b.length
  · rw [cf (nf (by omega))]
    rw [show (0 : Int) = ((0 : Nat) : Int) from rfl, loop _ _ _ a b hl ha.1 N 0 (by omega) (by omega)]
    by_cases e : a = b <;> simp [e, g]
  · rw [ct (nt (by omega))]
    have : a ≠ b := fun e => hl (by rw [e])
    simp [g, this]⟩
end laws_eqTermS
end
end Go.Fw
namespace Go.Fw
noncomputable section
variable {ρ : Type}
namespace laws_eqLaurent
def g (a b : Int × List (List Int × Int)) : Bool := decide (a = b)
end laws_eqLaurent
namespace laws_eqLaurent
def Z0 {ρ : Type} (N : Nat) (v0 v1 : Int × List (LI × Int)) (kr : Bool → Option ρ) : Option ρ :=
 cond (lk N (!(decide (v0.1 = v1.1))))
 (
  kr false)
 (
  cond (!(lk N ((laws_eqTermS.g v0.2 v1.2))))
  (
   kr false)
  (
   kr true))
def Spec : Prop := ∀  (v0 v1 : Int × List (LI × Int)), Ty.bd (.pair (.int .i64) (.sl 0 (.pair (.sl 0 (.int .i64)) (.int .i64)))) v0 → Ty.bd (.pair (.int .i64) (.sl 0 (.pair (.sl 0 (.int .i64)) (.int .i64)))) v1 → ∃ N0, ∀ N, N0 ≤ N → Z0 N v0 v1 (fun v4 => some ((), (v4, ()))) = some ((), ((g v0 v1), ()))
theorem ok : Spec := fun a b ha hb => ⟨0, fun N hN => by
  obtain ⟨a1, a2⟩ := a
  obtain ⟨b1, b2⟩ := b
  simp only [Z0, lk_eq, g, laws_eqTermS.g, Prod.mk.injEq]
  by_cases h1 : a1 = b1 <;> by_cases h2 : a2 = b2 <;> simp [h1, h2]⟩
end laws_eqLaurent
end
end Go.Fw
namespace Go.Fw
noncomputable section
variable {ρ : Type}
namespace laws_FnExactFormatLaurent
def g (_ : Int × List (List Int × Int)) : Bool := true
end laws_FnExactFormatLaurent
namespace laws_FnExactFormatLaurent
def Z0 {ρ : Type} (N : Nat) (v0 : Int × List (LI × Int)) (kr : Bool → Option ρ) : Option ρ :=
 cond (lk N (decide ((laws_szLaurent.g v0 1048576) < 0)))
 (
  kr true)
 (
  cond (lk N (laws_toLaurent.P v0)) (
   cond (lk N (laws_toLaurent.P v0)) (
    cond (lk N (!(strEq (impl_FormatLaurent.g (laws_toLaurent.g v0)) (spec_FormatLaurent.g (laws_toLaurent.g v0)))))
    (
     kr false)
    (
     cond (lk N (laws_toLaurent.P v0)) (
      cond (!(lk N ((laws_eqLaurent.g (laws_toLaurent.g v0) (laws_toLaurent.g v0)))))
      (
       kr false)
      (
       kr true)) none)) none) none)
def Spec : Prop := ∀  (v0 : Int × List (LI × Int)), Ty.bd (.pair (.int .i64) (.sl 0 (.pair (.sl 0 (.int .i64)) (.int .i64)))) v0 → ∃ N0, ∀ N, N0 ≤ N → Z0 N v0 (fun v2 => some ((), (v2, ()))) = some ((), ((g v0), ()))
theorem ok : Spec := fun f hb => ⟨0, fun N hN => by
  by_cases hl : laws_szLaurent.g f 1048576 < 0
  · simp only [Z0]
    rw [ct (dt hl)]
    rfl
  have hP := szLau_P f hb hl
  have h3 : strEq (impl_FormatLaurent.g f) (spec_FormatLaurent.g f) = true := by
    show strEq (spec_FormatLaurent.g f) (spec_FormatLaurent.g f) = true
    simp [strEq]
  simp only [Z0, lk_eq, laws_toLaurent.g, hP, h3, laws_eqLaurent.g, df hl, dt (rfl : f = _), g]
  rfl⟩
end laws_FnExactFormatLaurent
end
end Go.Fw
