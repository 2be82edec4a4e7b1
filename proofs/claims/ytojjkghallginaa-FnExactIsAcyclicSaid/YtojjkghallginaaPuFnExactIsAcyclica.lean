/- The plain part: what the functions compute, in lists and numbers. Nothing is assumed. -/
import Derived.Test.YtojjkghallginaaFwc
noncomputable section
set_option linter.unusedVariables false
namespace Go.Fw
def lexLt : List Int → List Int → Bool
 | [], [] => false
 | [], _ :: _ => true
 | _ :: _, [] => false
 | x :: xs, y :: ys => if x = y then lexLt xs ys else decide (x < y)
def lexCmp : List Int → List Int → Int
 | [], [] => 0
 | [], _ :: _ => -1
 | _ :: _, [] => 1
 | x :: xs, y :: ys => if x = y then lexCmp xs ys else if x < y then -1 else 1
theorem lexCmp_le : ∀ a b : List Int, decide (lexCmp a b ≤ 0) = !(lexLt b a)
 | [], [] => rfl
 | [], _ :: _ => rfl
 | _ :: _, [] => rfl
 | x :: xs, y :: ys => by
  rw [lexCmp, lexLt]
  by_cases h : x = y
  ·rw [if_pos h, if_pos h.symm, lexCmp_le xs ys]
  ·rw [if_neg h, if_neg (show ¬ y = x from fun e => h e.symm)]
   by_cases h2 : x < y
   ·rw [if_pos h2, df (show ¬ y < x by omega)]; rfl
   ·rw [if_neg h2, dt (show y < x by omega)]; rfl
theorem lexCmp_lt : ∀ a b : List Int, decide (lexCmp a b < 0) = lexLt a b
 | [], [] => rfl
 | [], _ :: _ => rfl
 | _ :: _, [] => rfl
 | x :: xs, y :: ys => by
  rw [lexCmp, lexLt]
  by_cases h : x = y
  ·rw [if_pos h, if_pos h, lexCmp_lt xs ys]
  ·rw [if_neg h, if_neg h]
   by_cases h2 : x < y
   ·rw [if_pos h2, dt h2]; rfl
   ·rw [if_neg h2, df h2]; rfl
def inK (n lo hi : Int) : Bool := decide (lo ≤ n) && decide (n ≤ hi)
def expK (vars : Int) (e : List Int) : Bool := decide ((e.length : Int) = vars) && e.all fun x => inK x (-20) 20
def coefK (c : Int) : Bool := !(decide (c = 0)) && inK c (-1000000) 1000000
def prevE (l : List (List Int × Int)) : Nat → Option (List Int)
 | 0 => none
 | j + 1 => some (l.getD j ([], 0)).1
def belowK : Option (List Int) → List Int → Bool
 | none, _ => true
 | some p, e => lexLt e p
def termsK (vars : Int) : List (List Int × Int) → Option (List Int) → Bool
 | [], _ => true
 | t :: ts, p => expK vars t.1 && (coefK t.2 && (belowK p t.1 && termsK vars ts (some t.1)))
def lokK (f : Int × List (List Int × Int)) : Bool := inK f.1 1 8 && (decide (f.2.length ≤ 600) && termsK f.1 f.2 none)
end Go.Fw
namespace Go.Fw
def upto {α : Type} (n j : Nat) (F G : Nat → α) : List α := (List.range n).map fun i => if i < j then F i else G i
section
variable {α : Type} {n j : Nat} {F G : Nat → α}
theorem upto_len : (upto n j F G).length = n := by simp [upto]
theorem map_getD {i : Nat} (h : i < n) (d : α) : ((List.range n).map F).getD i d = F i := by
 rw [List.getD_eq_getElem?_getD, List.getElem?_map, List.getElem?_range h]
 rfl
theorem upto_get {i : Nat} (h : i < n) (d : α) : (upto n j F G).getD i d = if i < j then F i else G i := map_getD h d
theorem upto_set (h : j < n) : (upto n j F G).set j (F j) = upto n (j + 1) F G := by
 apply List.ext_getElem?
 intro i
 by_cases hi : i < n
 ·by_cases e : j = i
  ·subst e
   rw [List.getElem?_set_self (by rw [upto_len]; exact h)]
   simp [upto, List.getElem?_map, List.getElem?_range h]
  ·rw [List.getElem?_set_ne e]
   simp only [upto, List.getElem?_map, List.getElem?_range hi, Option.map_some]
   by_cases h1 : i < j
   ·rw [if_pos h1, if_pos (by omega)]
   ·rw [if_neg h1, if_neg (by omega)]
 ·rw [List.getElem?_eq_none (by rw [List.length_set, upto_len]; omega), List.getElem?_eq_none (by rw [upto_len]; omega)]
theorem upto_zero : upto n 0 F G = (List.range n).map G := by simp [upto]
theorem upto_full : upto n n F G = (List.range n).map F := by
 unfold upto
 apply List.map_congr_left
 intro i hi
 rw [if_pos (List.mem_range.1 hi)]
theorem list_map {l : List α} (d : α) (h : l.length = n) : (List.range n).map (fun i => l.getD i d) = l := by
 apply List.ext_getElem?
 intro i
 by_cases hi : i < n
 ·rw [List.getElem?_map, List.getElem?_range hi, Option.map_some, List.getD_eq_getElem?_getD, List.getElem?_eq_getElem (by omega), Option.getD_some]
 ·rw [List.getElem?_eq_none (by simp; omega), List.getElem?_eq_none (by omega)]
end
end Go.Fw
namespace Go.Fw
def atP (m : Int × Int × List Int) (i j : Int) : Bool := decide (0 ≤ i) && (decide (0 ≤ j) && (decide (0 ≤ m.1) && decide (i * m.1 + j < (m.2.2.length : Int))))
def atK (m : Int × Int × List Int) (i j : Int) : Int := m.2.2.getD (i * m.1 + j).toNat 0
theorem at_index {m : Int × Int × List Int} {i j : Int} (hl : m.2.2.length ≤ maxLen) (h : atP m i j = true) : w64 (w64 (i * m.1) + j) = i * m.1 + j ∧ 0 ≤ i * m.1 + j ∧ i * m.1 + j < (m.2.2.length : Int) := by
 simp only [atP, Bool.and_eq_true, decide_eq_true_eq] at h
 obtain ⟨h1, h2, h3, h4⟩ := h
 have h5 : 0 ≤ i * m.1 := Int.mul_nonneg h1 h3
 rw [maxLen_val] at hl
 have e : w64 (i * m.1) = i * m.1 := w64_id (by omega) (by omega)
 rw [e, w64_id (by omega) (by omega)]
 exact ⟨rfl, by omega, h4⟩
def ent (m : Int × Int × List Int) (i j : Nat) : Int := m.2.2.getD (i * m.1.toNat + j) 0
theorem atK_nat {m : Int × Int × List Int} (h : 0 ≤ m.1) (i j : Nat) : atK m (i : Int) (j : Int) = ent m i j := by
 unfold atK ent
 congr 1
 obtain ⟨n, hn⟩ := Int.eq_ofNat_of_zero_le h
 rw [hn]
 norm_cast
def dimK (m : Int × Int × List Int) : Bool := inK m.1 1 5 && (inK m.2.1 m.1 8 && decide ((m.2.2.length : Int) = m.1 * m.2.1))
def entK (l : List Int) : Bool := l.all fun x => inK x (-99) 99
def shapedK (m : Int × Int × List Int) : Bool := dimK m && entK m.2.2
def signK (a b : Int) : Bool := (decide (0 < a) == decide (b < 0)) && (decide (a = 0) == decide (b = 0))
def sizesK (m : Int × Int × List Int) : Bool := shapedK m && (List.range m.1.toNat).all fun i => (List.range m.1.toNat).all fun j => signK (ent m i j) (ent m j i)
theorem inK_iff {n lo hi : Int} : inK n lo hi = true ↔ lo ≤ n ∧ n ≤ hi := by simp [inK]
theorem dim_nat {m : Int × Int × List Int} (h : dimK m = true) : ∃ n r : Nat, m.1 = (n : Int) ∧ m.2.1 = (r : Int) ∧ 1 ≤ n ∧ n ≤ 5 ∧ n ≤ r ∧ r ≤ 8 ∧ m.2.2.length = r * n := by
 simp only [dimK, Bool.and_eq_true, inK_iff, decide_eq_true_eq] at h
 obtain ⟨⟨h1, h2⟩, ⟨h3, h4⟩, h5⟩ := h
 obtain ⟨n, hn⟩ := Int.eq_ofNat_of_zero_le (show 0 ≤ m.1 by omega)
 obtain ⟨r, hr⟩ := Int.eq_ofNat_of_zero_le (show 0 ≤ m.2.1 by omega)
 refine ⟨n, r, hn, hr, by omega, by omega, by omega, by omega, ?_⟩
 rw [hn, hr, Int.mul_comm] at h5
 exact_mod_cast h5
theorem ent_lt {n r i j : Nat} (hi : i < r) (hj : j < n) : i * n + j < r * n := by
 have := Nat.mul_le_mul_right n (show i + 1 ≤ r from hi)
 rw [Nat.add_mul] at this
 omega
theorem at_ok {m : Int × Int × List Int} (h : dimK m = true) {i j : Nat} (hi : i < m.2.1.toNat) (hj : j < m.1.toNat) : atP m (i : Int) (j : Int) = true := by
 obtain ⟨n, r, hn, hr, _, _, _, _, hl⟩ := dim_nat h
 have := ent_lt (n := n) (r := r) (i := i) (j := j) (by omega) (by omega)
 simp only [atP, Bool.and_eq_true, decide_eq_true_eq, hn, hl]
 refine ⟨by omega, by omega, by omega, ?_⟩
 exact_mod_cast this
theorem all_bound {l : List Int} (h : entK l = true) (i : Nat) : -99 ≤ l.getD i 0 ∧ l.getD i 0 ≤ 99 := by
 by_cases hi : i < l.length
 ·have := (List.all_eq_true.1 h) _ (getD_mem 0 hi)
  exact inK_iff.1 this
 ·rw [List.getD_eq_getElem?_getD, List.getElem?_eq_none (by omega), Option.getD_none]; omega
theorem range_drop {j n : Nat} (h : j < n) : (List.range n).drop j = j :: (List.range n).drop (j + 1) := by
 rw [drop_getD 0 (by simpa using h), List.getD_eq_getElem?_getD, List.getElem?_range h, Option.getD_some]
end Go.Fw
namespace Go.Fw
def gcdL : List Int → Nat
 | [] => 0
 | x :: xs => Nat.gcd x.natAbs (gcdL xs)
theorem gcdL_append (l m : List Int) : gcdL (l ++ m) = Nat.gcd (gcdL l) (gcdL m) := by
 induction l with
 | nil => simp [gcdL]
 | cons x xs ih => rw [List.cons_append, gcdL, ih, gcdL, Nat.gcd_assoc]
theorem gcdL_mul (c : Int) (l : List Int) : gcdL (l.map fun x => c * x) = c.natAbs * gcdL l := by
 induction l with
 | nil => simp [gcdL]
 | cons x xs ih => rw [List.map_cons, gcdL, ih, gcdL, Int.natAbs_mul, Nat.gcd_mul_left]
theorem gcdL_dvd {l : List Int} {x : Int} (h : x ∈ l) : ((gcdL l : Nat) : Int) ∣ x := by
 induction l with
 | nil => cases h
 | cons y ys ih =>
  rw [gcdL]
  rcases List.mem_cons.1 h with e | e
  ·subst e; exact Int.ofNat_dvd_left.2 (Nat.gcd_dvd_left _ _)
  ·exact Int.dvd_trans (Int.natCast_dvd_natCast.2 (Nat.gcd_dvd_right _ _)) (ih e)
def Good (n : Nat) (A : Nat → Nat → Int) (d : Nat → Int) : Prop := ∀ i, i < n → 0 < d i ∧ ∀ j, j < n → d i * A i j = -(d j * A j i)
def Prim (n : Nat) (A : Nat → Nat → Int) (d : Nat → Int) : Prop := ∀ i, i < n → ∃ L : List Nat, (∀ k ∈ L, k < n) ∧ gcdL (L.map d) = 1 ∧ ∀ e, Good n A e → ∀ k ∈ L, d i * e k = d k * e i
theorem prim_dvd {n : Nat} {A : Nat → Nat → Int} {d e : Nat → Int} (hd : Good n A d) (he : Good n A e) (pd : Prim n A d) {i : Nat} (hi : i < n) : d i ∣ e i := by
 obtain ⟨L, h1, h2, h3⟩ := pd i hi
 have h4 : (L.map d).map (fun x => e i * x) = (L.map e).map (fun x => d i * x) := by
  rw [List.map_map, List.map_map]
  apply List.map_congr_left
  intro k hk
  show e i * d k = d i * e k
  rw [h3 e he k hk, Int.mul_comm]
 have h5 : (e i).natAbs * 1 = (d i).natAbs * gcdL (L.map e) := by rw [← h2, ← gcdL_mul, ← gcdL_mul, h4]
 exact Int.natAbs_dvd_natAbs.1 ⟨gcdL (L.map e), by rw [← h5, Nat.mul_one]⟩
theorem good_one {n : Nat} {A : Nat → Nat → Int} {d e : Nat → Int} (hd : Good n A d) (he : Good n A e) (pd : Prim n A d) (pe : Prim n A e) {i : Nat} (hi : i < n) : d i = e i := by
 have h1 := prim_dvd hd he pd hi
 have h2 := prim_dvd he hd pe hi
 have := (hd i hi).1
 have := (he i hi).1
 exact Int.dvd_antisymm (by omega) (by omega) h1 h2
theorem good_zero {n : Nat} {A : Nat → Nat → Int} {e : Nat → Int} (he : Good n A e) {i j : Nat} (hi : i < n) (hj : j < n) (h : A i j = 0) : A j i = 0 := by
 have h1 := (he i hi).2 j hj
 rw [h, Int.mul_zero] at h1
 have h2 : e j * A j i = 0 := by omega
 rcases Int.mul_eq_zero.1 h2 with h3 | h3
 ·have := (he j hj).1; omega
 ·exact h3
theorem prop_edge {a b e f p q : Int} (he : 0 < e) (hf : 0 < f) (h : a * f = b * e) (hg : e * p = -(f * q)) : a * p = -(b * q) := by
 have h1 : f * (a * p) = f * (-(b * q)) := by
  calc f * (a * p) = (a * f) * p := by rw [← Int.mul_assoc, Int.mul_comm f a]
   _ = b * (e * p) := by rw [h, Int.mul_assoc]
   _ = f * (-(b * q)) := by rw [hg, Int.mul_neg, Int.mul_neg, Int.mul_left_comm]
 exact Int.eq_of_mul_eq_mul_left (by omega) h1
theorem prop_edge' {a b e f p q : Int} (hp : p ≠ 0) (he : 0 < e) (h : a * p = -(b * q)) (hg : e * p = -(f * q)) (hq : q ≠ 0) : a * f = b * e := by
 have h1 : q * (a * f) = q * (b * e) := by
  calc q * (a * f) = a * (f * q) := by rw [Int.mul_left_comm, Int.mul_comm q f]
   _ = a * -(e * p) := by rw [hg, Int.neg_neg]
   _ = e * (-(a * p)) := by rw [Int.mul_neg, Int.mul_neg, Int.mul_left_comm]
   _ = q * (b * e) := by rw [h, Int.neg_neg, Int.mul_left_comm, Int.mul_comm e q, Int.mul_left_comm]
 exact Int.eq_of_mul_eq_mul_left hq h1
theorem prop_trans {a b c e f g : Int} (hf : f ≠ 0) (h1 : a * f = b * e) (h2 : b * g = c * f) : a * g = c * e := by
 have h3 : f * (a * g) = f * (c * e) := by
  calc f * (a * g) = (a * f) * g := by rw [← Int.mul_assoc, Int.mul_comm f a]
   _ = e * (b * g) := by rw [h1, Int.mul_comm b e, Int.mul_assoc]
   _ = f * (c * e) := by rw [h2, Int.mul_left_comm, Int.mul_comm e f, Int.mul_left_comm]
 exact Int.eq_of_mul_eq_mul_left hf h3
open Classical in
def facK (m : Int × Int × List Int) : List Int :=
 if h : ∃ l : List Int, l.length = m.1.toNat ∧ Good m.1.toNat (ent m) (fun i => l.getD i 0) ∧ Prim m.1.toNat (ent m) (fun i => l.getD i 0) then Classical.choose h else []
theorem fac_is {m : Int × Int × List Int} {l : List Int} (h1 : l.length = m.1.toNat) (h2 : Good m.1.toNat (ent m) (fun i => l.getD i 0)) (h3 : Prim m.1.toNat (ent m) (fun i => l.getD i 0)) : facK m = l := by
 have h : ∃ l : List Int, l.length = m.1.toNat ∧ Good m.1.toNat (ent m) (fun i => l.getD i 0) ∧ Prim m.1.toNat (ent m) (fun i => l.getD i 0) := ⟨l, h1, h2, h3⟩
 have hc := Classical.choose_spec h
 rw [facK, dif_pos h]
 generalize Classical.choose h = c at hc
 obtain ⟨c1, c2, c3⟩ := hc
 apply List.ext_getElem?
 intro i
 by_cases hi : i < m.1.toNat
 ·have := good_one c2 h2 c3 h3 hi
  simp only [List.getD_eq_getElem?_getD] at this
  rw [List.getElem?_eq_getElem (by omega), List.getElem?_eq_getElem (by omega)] at this ⊢
  simpa using this
 ·rw [List.getElem?_eq_none (by omega), List.getElem?_eq_none (by omega)]
theorem fac_none {m : Int × Int × List Int} (h : ¬ ∃ e, Good m.1.toNat (ent m) e) : facK m = [] := by
 rw [facK, dif_neg]
 rintro ⟨l, _, h2, _⟩
 exact h ⟨_, h2⟩
theorem fac_good {m : Int × Int × List Int} (h : facK m ≠ []) : (facK m).length = m.1.toNat ∧ Good m.1.toNat (ent m) (fun i => (facK m).getD i 0) ∧ Prim m.1.toNat (ent m) (fun i => (facK m).getD i 0) := by
 by_cases hx : ∃ l : List Int, l.length = m.1.toNat ∧ Good m.1.toNat (ent m) (fun i => l.getD i 0) ∧ Prim m.1.toNat (ent m) (fun i => l.getD i 0)
 ·have : facK m = Classical.choose hx := by rw [facK, dif_pos hx]
  rw [this]
  exact Classical.choose_spec hx
 ·exact absurd (by rw [facK, dif_neg hx]) h
theorem good_sign {n : Nat} {A : Nat → Nat → Int} {e : Nat → Int} (he : Good n A e) {i j : Nat} (hi : i < n) (hj : j < n) : signK (A i j) (A j i) = true := by
 have h1 := (he i hi).2 j hj
 have h2 := (he i hi).1
 have h3 := (he j hj).1
 have e1 : decide (0 < A i j) = decide (A j i < 0) := by
  rw [decide_eq_decide]
  constructor
  ·intro h
   have := Int.mul_pos h2 h
   rcases Int.lt_or_le (A j i) 0 with h4 | h4
   ·exact h4
   ·have := Int.mul_nonneg (Int.le_of_lt h3) h4; omega
  ·intro h
   have := Int.mul_neg_of_pos_of_neg h3 h
   rcases Int.lt_or_le 0 (A i j) with h4 | h4
   ·exact h4
   ·have := Int.mul_nonpos_of_nonneg_of_nonpos (Int.le_of_lt h2) h4; omega
 have e2 : decide (A i j = 0) = decide (A j i = 0) := by
  rw [decide_eq_decide]
  exact ⟨good_zero he hi hj, good_zero he hj hi⟩
 rw [signK, e1, e2]
 simp
theorem fac_sizes {m : Int × Int × List Int} (hs : shapedK m = true) (h : facK m ≠ []) : sizesK m = true := by
 obtain ⟨h1, h2, h3⟩ := fac_good h
 rw [sizesK, hs, Bool.true_and, List.all_eq_true]
 intro i hi
 rw [List.all_eq_true]
 intro j hj
 exact good_sign h2 (List.mem_range.1 hi) (List.mem_range.1 hj)
end Go.Fw
namespace Go.Fw
def ints (l : List Nat) : List Int := l.map fun (x : Nat) => (x : Int)
theorem ints_len (l : List Nat) : (ints l).length = l.length := by simp [ints]
theorem ints_getD (l : List Nat) (k : Nat) : (ints l).getD k 0 = ((l.getD k 0 : Nat) : Int) := by
 simp only [ints, List.getD_eq_getElem?_getD, List.getElem?_map]
 cases l[k]? <;> rfl
theorem ints_append (l : List Nat) (x : Nat) : ints l ++ [(x : Int)] = ints (l ++ [x]) := by simp [ints]
theorem mem_ints {l : List Nat} {x : Nat} : ((x : Int) ∈ ints l) ↔ x ∈ l := by
 simp only [ints, List.mem_map]
 constructor
 ·rintro ⟨a, h1, h2⟩
  rwa [← Int.ofNat.inj h2]
 ·exact fun h => ⟨x, h, rfl⟩
theorem nodup_len : ∀ (n : Nat) (l : List Nat), l.Nodup → (∀ x ∈ l, x < n) → l.length ≤ n
 | 0, l, _, h => by
  cases l with
  | nil => simp
  | cons x xs => exact absurd (h x (by simp)) (by omega)
 | n + 1, l, hn, h => by
  have := nodup_len n (l.erase n) (hn.erase n) (fun x hx => by
   have h1 := (hn.mem_erase_iff).1 hx
   have := h x h1.2
   omega)
  rw [List.length_erase] at this
  split at this <;> omega
def pIn (A : Nat → Nat → Int) (x : Nat) : List Nat → List Nat × List Nat → List Nat × List Nat
 | [], s => s
 | j :: js, s => pIn A x js (if A x j ≠ 0 ∧ j ∉ s.1 then (s.1 ++ [j], s.2 ++ [x]) else s)
def pGo (A : Nat → Nat → Int) (n : Nat) : Nat → Nat → List Nat × List Nat → List Nat × List Nat
 | 0, _, s => s
 | f + 1, p, s => if p < s.1.length then pGo A n f (p + 1) (pIn A (s.1.getD p 0) (List.range n) s) else s
def pieceK (m : Int × Int × List Int) (i : Nat) : List Nat × List Nat := pGo (ent m) m.1.toNat m.1.toNat 0 ([i], [i])
structure PInv (n : Nat) (A : Nat → Nat → Int) (i : Nat) (s : List Nat × List Nat) : Prop where
 nd : s.1.Nodup
 lt : ∀ x ∈ s.1, x < n
 len : s.2.length = s.1.length
 hd : s.1.getD 0 0 = i
 pos : 0 < s.1.length
 src : ∀ k, 1 ≤ k → k < s.1.length → ∃ k', k' < k ∧ s.2.getD k 0 = s.1.getD k' 0 ∧ A (s.2.getD k 0) (s.1.getD k 0) ≠ 0
theorem PInv.le {n : Nat} {A : Nat → Nat → Int} {i : Nat} {s : List Nat × List Nat} (h : PInv n A i s) : s.1.length ≤ n := nodup_len n s.1 h.nd h.lt
theorem getD_append_lt {α : Type} {l m : List α} {k : Nat} {d : α} (h : k < l.length) : (l ++ m).getD k d = l.getD k d := by
 simp only [List.getD_eq_getElem?_getD]
 rw [List.getElem?_append_left h]
theorem getD_append_eq {α : Type} {l : List α} {x d : α} {k : Nat} (h : k = l.length) : (l ++ [x]).getD k d = x := by
 subst h
 simp [List.getD_eq_getElem?_getD]
theorem PInv.step {n : Nat} {A : Nat → Nat → Int} {i p j : Nat} {s : List Nat × List Nat} (h : PInv n A i s) (hp : p < s.1.length) (hj : j < n) (ha : A (s.1.getD p 0) j ≠ 0 ∧ j ∉ s.1) : PInv n A i (s.1 ++ [j], s.2 ++ [s.1.getD p 0]) := by
 refine ⟨?_, ?_, ?_, ?_, ?_, ?_⟩
 ·exact List.nodup_append.2 ⟨h.nd, by simp, fun a ha' b hb e => by
   rw [List.mem_singleton] at hb; subst hb; subst e; exact ha.2 ha'⟩
 ·intro x hx
  rcases List.mem_append.1 hx with hx | hx
  ·exact h.lt x hx
  ·rw [List.mem_singleton] at hx; omega
 ·simp [h.len]
 ·exact (getD_append_lt h.pos).trans h.hd
 ·simp
 ·intro k h1 h2
  simp only [List.length_append, List.length_cons, List.length_nil] at h2
  by_cases hk : k < s.1.length
  ·obtain ⟨k', h3, h4, h5⟩ := h.src k h1 hk
   refine ⟨k', h3, ?_, ?_⟩
   ·show (s.2 ++ _).getD k 0 = (s.1 ++ _).getD k' 0
    rw [getD_append_lt (by rw [h.len]; exact hk), getD_append_lt (by omega), h4]
   ·show A ((s.2 ++ _).getD k 0) ((s.1 ++ _).getD k 0) ≠ 0
    rw [getD_append_lt (by rw [h.len]; exact hk), getD_append_lt hk]
    exact h5
  ·have e : k = s.1.length := by omega
   refine ⟨p, by omega, ?_, ?_⟩
   ·show (s.2 ++ _).getD k 0 = (s.1 ++ _).getD p 0
    rw [getD_append_eq (by rw [h.len]; exact e), getD_append_lt hp]
   ·show A ((s.2 ++ _).getD k 0) ((s.1 ++ _).getD k 0) ≠ 0
    rw [getD_append_eq (by rw [h.len]; exact e), getD_append_eq e]
    exact ha.1
def Grows (s t : List Nat × List Nat) : Prop := ∃ u, t.1 = s.1 ++ u
theorem Grows.getD {s t : List Nat × List Nat} (h : Grows s t) {k : Nat} (hk : k < s.1.length) : t.1.getD k 0 = s.1.getD k 0 := by
 obtain ⟨u, h⟩ := h
 rw [h, getD_append_lt hk]
theorem Grows.len {s t : List Nat × List Nat} (h : Grows s t) : s.1.length ≤ t.1.length := by
 obtain ⟨u, h⟩ := h
 rw [h]; simp
theorem Grows.mem {s t : List Nat × List Nat} (h : Grows s t) {x : Nat} (hx : x ∈ s.1) : x ∈ t.1 := by
 obtain ⟨u, h⟩ := h
 rw [h]; exact List.mem_append_left _ hx
theorem pIn_inv {n : Nat} {A : Nat → Nat → Int} {i p : Nat} : ∀ (js : List Nat) (s : List Nat × List Nat), PInv n A i s → p < s.1.length → (∀ j ∈ js, j < n) →
  PInv n A i (pIn A (s.1.getD p 0) js s) ∧ Grows s (pIn A (s.1.getD p 0) js s) ∧ ∀ j ∈ js, A (s.1.getD p 0) j ≠ 0 → j ∈ (pIn A (s.1.getD p 0) js s).1
 | [], s, h, _, _ => ⟨h, ⟨[], by simp [pIn]⟩, fun j hj => by cases hj⟩
 | j :: js, s, h, hp, hl => by
  by_cases ha : A (s.1.getD p 0) j ≠ 0 ∧ j ∉ s.1
  ·have e : (s.1 ++ [j]).getD p 0 = s.1.getD p 0 := getD_append_lt hp
   have := pIn_inv (p := p) js (s.1 ++ [j], s.2 ++ [s.1.getD p 0]) (h.step hp (hl j (by simp)) ha) (by simp; omega) (fun x hx => hl x (by simp [hx]))
   simp only [e] at this
   obtain ⟨h1, ⟨u, h2⟩, h3⟩ := this
   rw [pIn, if_pos ha]
   refine ⟨h1, ⟨[j] ++ u, by rw [h2]; simp⟩, fun x hx hax => ?_⟩
   rcases List.mem_cons.1 hx with hx | hx
   ·subst hx; rw [h2]; simp
   ·exact h3 x hx hax
  ·have := pIn_inv (p := p) js s h hp (fun x hx => hl x (by simp [hx]))
   obtain ⟨h1, h2, h3⟩ := this
   rw [pIn, if_neg ha]
   refine ⟨h1, h2, fun x hx hax => ?_⟩
   rcases List.mem_cons.1 hx with hx | hx
   ·subst hx
    exact h2.mem (Classical.byContradiction fun hc => ha ⟨hax, hc⟩)
   ·exact h3 x hx hax
theorem pGo_inv {n : Nat} {A : Nat → Nat → Int} {i : Nat} : ∀ (f p : Nat) (s : List Nat × List Nat), PInv n A i s → n ≤ f + p → p ≤ s.1.length → (∀ k, k < p → ∀ j, j < n → A (s.1.getD k 0) j ≠ 0 → j ∈ s.1) →
  PInv n A i (pGo A n f p s) ∧ ∀ x ∈ (pGo A n f p s).1, ∀ j, j < n → A x j ≠ 0 → j ∈ (pGo A n f p s).1
 | 0, p, s, h, hf, hp, hc => ⟨h, fun x hx j hj ha => by
   change x ∈ s.1 at hx
   show j ∈ s.1
   obtain ⟨k, hk, rfl⟩ := List.getElem_of_mem hx
   have := h.le
   refine hc k (by omega) j hj ?_
   rw [List.getD_eq_getElem?_getD, List.getElem?_eq_getElem hk]
   exact ha⟩
 | f + 1, p, s, h, hf, hp, hc => by
  rw [pGo]
  by_cases hlt : p < s.1.length
  ·rw [if_pos hlt]
   obtain ⟨h1, h2, h3⟩ := pIn_inv (p := p) (List.range n) s h hlt (fun x hx => List.mem_range.1 hx)
   refine pGo_inv f (p + 1) _ h1 (by omega) (by have := h2.len; omega) ?_
   intro k hk j hj ha
   by_cases e : k = p
   ·subst e
    rw [h2.getD hlt] at ha
    exact h3 j (List.mem_range.2 hj) ha
   ·rw [h2.getD (by omega)] at ha
    exact h2.mem (hc k (by omega) j hj ha)
  ·rw [if_neg hlt]
   refine ⟨h, fun x hx j hj ha => ?_⟩
   obtain ⟨k, hk, rfl⟩ := List.getElem_of_mem hx
   refine hc k (by omega) j hj ?_
   rw [List.getD_eq_getElem?_getD, List.getElem?_eq_getElem hk]
   exact ha
theorem PInv.first {n : Nat} {A : Nat → Nat → Int} {i : Nat} (h : i < n) : PInv n A i ([i], [i]) :=
 ⟨by simp, by simpa using h, rfl, rfl, by simp, fun k h1 h2 => by simp at h2; omega⟩
theorem piece_ok {m : Int × Int × List Int} {i : Nat} (h : i < m.1.toNat) : PInv m.1.toNat (ent m) i (pieceK m i) ∧ ∀ x ∈ (pieceK m i).1, ∀ j, j < m.1.toNat → ent m x j ≠ 0 → j ∈ (pieceK m i).1 :=
 pGo_inv m.1.toNat 0 _ (PInv.first h) (by omega) (by simp) (fun k hk => by omega)
end Go.Fw
namespace Go.Fw
theorem getD_put {α : Type} {l : List α} {x y : Nat} {v d : α} (h : x < l.length) : (l.set x v).getD y d = if x = y then v else l.getD y d := by
 by_cases e : x = y
 ·subst e
  rw [if_pos rfl, getD_set_self h]
 ·rw [if_neg e, List.getD_eq_getElem?_getD, List.getElem?_set_ne e, List.getD_eq_getElem?_getD]
theorem nodup_getD {l : List Nat} (h : l.Nodup) {a b : Nat} (ha : a < l.length) (hb : b < l.length) (e : l.getD a 0 = l.getD b 0) : a = b := by
 rw [List.getD_eq_getElem?_getD, List.getD_eq_getElem?_getD, List.getElem?_eq_getElem ha, List.getElem?_eq_getElem hb, Option.getD_some, Option.getD_some] at e
 rcases Nat.lt_trichotomy a b with h1 | h1 | h1
 ·exact absurd e (List.pairwise_iff_getElem.1 h a b ha hb h1)
 ·exact h1
 ·exact absurd e.symm (List.pairwise_iff_getElem.1 h b a hb ha h1)
theorem mem_getD {l : List Nat} {x : Nat} (h : x ∈ l) : ∃ k, k < l.length ∧ l.getD k 0 = x := by
 obtain ⟨k, hk, rfl⟩ := List.getElem_of_mem h
 exact ⟨k, hk, by rw [List.getD_eq_getElem?_getD, List.getElem?_eq_getElem hk, Option.getD_some]⟩
theorem range_getD {α : Type} (l : List Nat) (f : Nat → α) : (List.range l.length).map (fun t => f (l.getD t 0)) = l.map f := by
 have := list_map (n := l.length) (l := l) 0 rfl
 conv => rhs; rw [← this]
 rw [List.map_map]
 rfl
def absK (a : Int) : Int := (a.natAbs : Int)
theorem absK_pos {a : Int} (h : a ≠ 0) : 0 < absK a := by unfold absK; omega
theorem absK_le {a : Int} (h : -99 ≤ a ∧ a ≤ 99) : absK a ≤ 99 := by unfold absK; omega
theorem abs_edge {e f p q : Int} (he : 0 < e) (hf : 0 < f) (h : e * p = -(f * q)) : e * absK p = f * absK q := by
 have h1 : (e * p).natAbs = (f * q).natAbs := by rw [h, Int.natAbs_neg]
 rw [Int.natAbs_mul, Int.natAbs_mul] at h1
 have : ((e.natAbs * p.natAbs : Nat) : Int) = ((f.natAbs * q.natAbs : Nat) : Int) := by rw [h1]
 rw [Int.natCast_mul, Int.natCast_mul, Int.natAbs_of_nonneg (Int.le_of_lt he), Int.natAbs_of_nonneg (Int.le_of_lt hf)] at this
 exact this
def prodK (q : Nat → Int) : Nat → Int
 | 0 => 1
 | k + 1 => prodK q k * q k
theorem prodK_dvd (q : Nat → Int) {a b : Nat} (h : a ≤ b) : prodK q a ∣ prodK q b := by
 induction b with
 | zero => rw [show a = 0 by omega]; exact Int.dvd_refl _
 | succ b ih =>
  by_cases e : a = b + 1
  ·subst e; exact Int.dvd_refl _
  ·exact Int.dvd_trans (ih (by omega)) ⟨q b, rfl⟩
theorem prodK_bound {q : Nat → Int} {n : Nat} (h : ∀ k, k < n → 0 < q k ∧ q k ≤ 99) : ∀ k, k ≤ n → 0 < prodK q k ∧ prodK q k ≤ 99 ^ k
 | 0, _ => by simp [prodK]
 | k + 1, hk => by
  obtain ⟨h1, h2⟩ := prodK_bound h k (by omega)
  obtain ⟨h3, h4⟩ := h k (by omega)
  refine ⟨Int.mul_pos h1 h3, ?_⟩
  rw [Int.pow_succ]
  exact Int.mul_le_mul h2 h4 (by omega) (Int.pow_nonneg (by omega))
theorem pow99 {k : Nat} (h : k ≤ 8) : (99 : Int) ^ k ≤ 9227446944279201 := by
 have h1 : 99 ^ k ≤ 99 ^ 8 := Nat.pow_le_pow_right (by omega) h
 have h2 : (99 : Int) ^ k = ((99 ^ k : Nat) : Int) := by rw [Int.natCast_pow]; rfl
 rw [h2]
 omega
theorem tree_div {H D Hk q p a : Int} (hH : 0 < Hk) (hq : 0 < q) (hp : 0 < p) (ha : 0 < a) (h1 : Hk * q ∣ D) (h2 : D ∣ a * Hk) :
  (Int.tdiv (a * p) q) * q = a * p ∧ 0 < Int.tdiv (a * p) q ∧ D ∣ Int.tdiv (a * p) q * (Hk * q) := by
 obtain ⟨R, hR⟩ := h1
 obtain ⟨c, hc⟩ := h2
 have e : a = q * (R * c) := by
  have : Hk * a = Hk * (q * (R * c)) := by
   rw [Int.mul_comm Hk a, hc, hR, ← Int.mul_assoc Hk q, Int.mul_assoc]
  exact Int.eq_of_mul_eq_mul_left (by omega) this
 have e2 : Int.tdiv (a * p) q = R * c * p := by
  rw [e, Int.mul_assoc, Int.mul_tdiv_cancel_left _ (by omega)]
 rw [e2]
 refine ⟨by rw [e, Int.mul_comm (R * c * p) q, Int.mul_assoc q], ?_, ?_⟩
 ·have h3 : 0 < q * (R * c * p) := by rw [← Int.mul_assoc, ← e]; exact Int.mul_pos ha hp
  rcases Int.lt_or_le 0 (R * c * p) with h | h
  ·exact h
  ·have := Int.mul_nonpos_of_nonneg_of_nonpos (Int.le_of_lt hq) h; omega
 ·refine ⟨c * p, ?_⟩
  rw [hR, Int.mul_comm (R * c * p), Int.mul_assoc, Int.mul_assoc, Int.mul_assoc, Int.mul_assoc]
theorem gcd_snoc (g : Nat) (l : List Int) (x : Int) (hx : 0 ≤ x) (hg : g = gcdL l) : (Int.gcd (g : Int) x : Int) = ((gcdL (l ++ [x]) : Nat) : Int) := by
 subst hg
 rw [gcdL_append, gcdL, gcdL, Nat.gcd_zero_right]
 rfl
end Go.Fw
namespace Go.Fw
def qK (m : Int × Int × List Int) (s : List Nat × List Nat) (k : Nat) : Int := if k = 0 then 1 else absK (ent m (s.1.getD k 0) (s.2.getD k 0))
def pK (m : Int × Int × List Int) (s : List Nat × List Nat) (k : Nat) : Int := absK (ent m (s.2.getD k 0) (s.1.getD k 0))
theorem sizes_zero {m : Int × Int × List Int} (h : sizesK m = true) {i j : Nat} (hi : i < m.1.toNat) (hj : j < m.1.toNat) : ent m i j = 0 ↔ ent m j i = 0 := by
 rw [sizesK, Bool.and_eq_true, List.all_eq_true] at h
 have h1 := List.all_eq_true.1 (h.2 i (List.mem_range.2 hi)) j (List.mem_range.2 hj)
 rw [signK, Bool.and_eq_true] at h1
 have h2 := h1.2
 rw [beq_iff_eq, decide_eq_decide] at h2
 exact h2
theorem ent_bound {m : Int × Int × List Int} (h : shapedK m = true) (i j : Nat) : -99 ≤ ent m i j ∧ ent m i j ≤ 99 := by
 rw [shapedK, Bool.and_eq_true] at h
 exact all_bound h.2 _
theorem sizes_shaped {m : Int × Int × List Int} (h : sizesK m = true) : shapedK m = true := by
 rw [sizesK, Bool.and_eq_true] at h
 exact h.1
theorem shaped_dim {m : Int × Int × List Int} (h : shapedK m = true) : dimK m = true := by
 rw [shapedK, Bool.and_eq_true] at h
 exact h.1
theorem src_lt {n : Nat} {A : Nat → Nat → Int} {i : Nat} {s : List Nat × List Nat} (h : PInv n A i s) {k : Nat} (h1 : 1 ≤ k) (h2 : k < s.1.length) : s.2.getD k 0 < n := by
 obtain ⟨k', h3, h4, h5⟩ := h.src k h1 h2
 rw [h4]
 exact h.lt _ (getD_mem 0 (by omega))
theorem pq_range {m : Int × Int × List Int} (hs : sizesK m = true) {i : Nat} {s : List Nat × List Nat} (h : PInv m.1.toNat (ent m) i s) {k : Nat} (h1 : 1 ≤ k) (h2 : k < s.1.length) :
  (0 < qK m s k ∧ qK m s k ≤ 99) ∧ (0 < pK m s k ∧ pK m s k ≤ 99) := by
 obtain ⟨k', h3, h4, h5⟩ := h.src k h1 h2
 have h6 : ent m (s.1.getD k 0) (s.2.getD k 0) ≠ 0 := fun e => h5 ((sizes_zero hs (h.lt _ (getD_mem 0 h2)) (src_lt h h1 h2)).1 e)
 have hb := sizes_shaped hs
 rw [qK, if_neg (by omega), pK]
 exact ⟨⟨absK_pos h6, absK_le (ent_bound hb _ _)⟩, ⟨absK_pos h5, absK_le (ent_bound hb _ _)⟩⟩
theorem q_range {m : Int × Int × List Int} (hs : sizesK m = true) {i : Nat} {s : List Nat × List Nat} (h : PInv m.1.toNat (ent m) i s) (k : Nat) (h2 : k < s.1.length) : 0 < qK m s k ∧ qK m s k ≤ 99 := by
 by_cases e : k = 0
 ·subst e
  rw [qK, if_pos rfl]
  omega
 ·exact (pq_range hs h (by omega) h2).1
structure T2 (m : Int × Int × List Int) (s : List Nat × List Nat) (d0 : List Int) (k : Nat) (d : List Int) (g : Int) : Prop where
 len : d.length = m.1.toNat
 out : ∀ x, x < m.1.toNat → (∀ k', k' < k → x ≠ s.1.getD k' 0) → d.getD x 0 = d0.getD x 0
 val : ∀ k', k' < k → 0 < d.getD (s.1.getD k' 0) 0 ∧ d.getD (s.1.getD k' 0) 0 ≤ 99 ^ (4 + k') ∧ prodK (qK m s) s.1.length ∣ d.getD (s.1.getD k' 0) 0 * prodK (qK m s) k
 tree : ∀ k', 1 ≤ k' → k' < k → d.getD (s.1.getD k' 0) 0 * qK m s k' = d.getD (s.2.getD k' 0) 0 * pK m s k'
 gcd : g = ((gcdL ((List.range k).map fun t => d.getD (s.1.getD t 0) 0) : Nat) : Int)
theorem T2.step {m : Int × Int × List Int} {s : List Nat × List Nat} {d0 d : List Int} {g : Int} {i k : Nat} (hs : sizesK m = true) (h : PInv m.1.toNat (ent m) i s) (hn : m.1.toNat ≤ 5) (h1 : 1 ≤ k) (h2 : k < s.1.length) (ht : T2 m s d0 k d g) :
  (0 < d.getD (s.2.getD k 0) 0 * pK m s k ∧ d.getD (s.2.getD k 0) 0 * pK m s k ≤ 9227446944279201) ∧
  (0 < Int.tdiv (d.getD (s.2.getD k 0) 0 * pK m s k) (qK m s k) ∧ Int.tdiv (d.getD (s.2.getD k 0) 0 * pK m s k) (qK m s k) ≤ 9227446944279201) ∧
  T2 m s d0 (k + 1) (d.set (s.1.getD k 0) (Int.tdiv (d.getD (s.2.getD k 0) 0 * pK m s k) (qK m s k))) (Int.gcd g (Int.tdiv (d.getD (s.2.getD k 0) 0 * pK m s k) (qK m s k))) := by
 obtain ⟨⟨hq, hq9⟩, hp, hp9⟩ := pq_range hs h h1 h2
 obtain ⟨k', h3, h4, h5⟩ := h.src k h1 h2
 obtain ⟨a1, a2, a3⟩ := ht.val k' h3
 have hle := h.le
 rw [← h4] at a1 a2 a3
 have hH := (prodK_bound (q_range hs h) k (by omega)).1
 have hx : s.1.getD k 0 < d.length := by rw [ht.len]; exact h.lt _ (getD_mem 0 h2)
 have hdv : prodK (qK m s) k * qK m s k ∣ prodK (qK m s) s.1.length := prodK_dvd (qK m s) (show k + 1 ≤ s.1.length from h2)
 obtain ⟨b1, b2, b3⟩ := tree_div (H := 0) hH hq hp a1 hdv a3
 have hb : d.getD (s.2.getD k 0) 0 * pK m s k ≤ 99 ^ (4 + k) := by
  have : d.getD (s.2.getD k 0) 0 * pK m s k ≤ 99 ^ (4 + k') * 99 := Int.mul_le_mul a2 hp9 (by omega) (Int.pow_nonneg (by omega))
  rw [← Int.pow_succ] at this
  refine Int.le_trans this ?_
  have h6 : 99 ^ (4 + k' + 1) ≤ 99 ^ (4 + k) := Nat.pow_le_pow_right (by omega) (by omega)
  exact_mod_cast h6
 have hp8 := pow99 (k := 4 + k) (by omega)
 generalize hv : Int.tdiv (d.getD (s.2.getD k 0) 0 * pK m s k) (qK m s k) = v at b1 b2 b3
 have hvle : v ≤ d.getD (s.2.getD k 0) 0 * pK m s k := by
  rw [← b1]
  have := Int.mul_le_mul_of_nonneg_left (show (1 : Int) ≤ qK m s k by omega) (Int.le_of_lt b2)
  omega
 have hne : ∀ t, t < k → s.1.getD k 0 ≠ s.1.getD t 0 := fun t ht' e => by
  have := nodup_getD h.nd h2 (by omega) e; omega
 have hget : ∀ t, t < k → (d.set (s.1.getD k 0) v).getD (s.1.getD t 0) 0 = d.getD (s.1.getD t 0) 0 := fun t ht' => by
  rw [getD_put hx, if_neg (hne t ht')]
 have hself : (d.set (s.1.getD k 0) v).getD (s.1.getD k 0) 0 = v := by rw [getD_put hx, if_pos rfl]
 refine ⟨⟨Int.mul_pos a1 hp, by omega⟩, ⟨b2, by omega⟩, ⟨?_, ?_, ?_, ?_, ?_⟩⟩
 ·rw [List.length_set, ht.len]
 ·intro x hx' hall
  rw [getD_put hx, if_neg (fun e => hall k (by omega) e.symm)]
  exact ht.out x hx' (fun t ht' => hall t (by omega))
 ·intro t ht'
  by_cases e : t = k
  ·subst e
   rw [hself]
   exact ⟨b2, by omega, b3⟩
  ·rw [hget t (by omega)]
   obtain ⟨c1, c2, c3⟩ := ht.val t (by omega)
   refine ⟨c1, c2, ?_⟩
   rw [prodK, ← Int.mul_assoc]
   exact Int.dvd_trans c3 ⟨_, rfl⟩
 ·intro t ht1 ht2
  by_cases e : t = k
  ·subst e
   rw [hself, h4, hget k' h3, ← h4]
   exact b1
  ·obtain ⟨t', c1, c2, _⟩ := h.src t ht1 (by omega)
   rw [hget t (by omega), c2, hget t' (by omega), ← c2]
   exact ht.tree t ht1 (by omega)
 ·rw [List.range_succ, List.map_append, List.map_cons, List.map_nil, hself]
  rw [show (List.range k).map (fun t => (d.set (s.1.getD k 0) v).getD (s.1.getD t 0) 0) = (List.range k).map (fun t => d.getD (s.1.getD t 0) 0) from List.map_congr_left (fun t ht' => hget t (List.mem_range.1 ht'))]
  rw [ht.gcd]
  exact gcd_snoc _ _ v (by omega) rfl
theorem T2.g_range {m : Int × Int × List Int} {s : List Nat × List Nat} {d0 d : List Int} {g : Int} {k : Nat} (h1 : 1 ≤ k) (ht : T2 m s d0 k d g) : 0 < g ∧ g ≤ 9227446944279201 := by
 obtain ⟨a1, a2, _⟩ := ht.val 0 (by omega)
 have hd : g ∣ d.getD (s.1.getD 0 0) 0 := by
  rw [ht.gcd]
  exact gcdL_dvd (List.mem_map.2 ⟨0, List.mem_range.2 (by omega), rfl⟩)
 have := Int.le_of_dvd a1 hd
 have hp := pow99 (k := 4 + 0) (by omega)
 refine ⟨?_, by omega⟩
 rcases Int.lt_or_le 0 g with h | h
 ·exact h
 ·have h0 : 0 ≤ g := by rw [ht.gcd]; omega
  have e : g = 0 := by omega
  rw [e] at hd
  have := Int.zero_dvd.1 hd
  omega
structure T3 (m : Int × Int × List Int) (s : List Nat × List Nat) (d2 : List Int) (g : Int) (k : Nat) (d : List Int) : Prop where
 len : d.length = m.1.toNat
 out : ∀ x, x < m.1.toNat → (∀ k', k' < k → x ≠ s.1.getD k' 0) → d.getD x 0 = d2.getD x 0
 val : ∀ k', k' < k → d.getD (s.1.getD k' 0) 0 = Int.tdiv (d2.getD (s.1.getD k' 0) 0) g
theorem T3.step {m : Int × Int × List Int} {s : List Nat × List Nat} {d2 d : List Int} {g : Int} {k : Nat} (hnd : s.1.Nodup) (hlt : ∀ x ∈ s.1, x < m.1.toNat) (h2 : k < s.1.length) (ht : T3 m s d2 g k d) :
  T3 m s d2 g (k + 1) (d.set (s.1.getD k 0) (Int.tdiv (d2.getD (s.1.getD k 0) 0) g)) := by
 have hx : s.1.getD k 0 < d.length := by rw [ht.len]; exact hlt _ (getD_mem 0 h2)
 refine ⟨by rw [List.length_set, ht.len], ?_, ?_⟩
 ·intro x hx' hall
  rw [getD_put hx, if_neg (fun e => hall k (by omega) e.symm)]
  exact ht.out x hx' (fun t ht' => hall t (by omega))
 ·intro t ht'
  by_cases e : t = k
  ·subst e
   rw [getD_put hx, if_pos rfl]
  ·rw [getD_put hx, if_neg (fun e' => e (nodup_getD hnd h2 (by omega) e').symm)]
   exact ht.val t (by omega)
theorem T3.cur {m : Int × Int × List Int} {s : List Nat × List Nat} {d2 d : List Int} {g : Int} {k : Nat} (hnd : s.1.Nodup) (hlt : ∀ x ∈ s.1, x < m.1.toNat) (h2 : k < s.1.length) (ht : T3 m s d2 g k d) :
  d.getD (s.1.getD k 0) 0 = d2.getD (s.1.getD k 0) 0 :=
 ht.out _ (hlt _ (getD_mem 0 h2)) (fun t ht' e => by have := nodup_getD hnd h2 (by omega) e; omega)
def Part (n : Nat) (A : Nat → Nat → Int) (d : Nat → Int) : Prop := ∀ j, j < n → 0 ≤ d j ∧ d j ≤ 9227446944279201 ∧
 (0 < d j → ∃ L : List Nat, j ∈ L ∧ (∀ k ∈ L, k < n ∧ 0 < d k) ∧ (∀ k, k < n → A j k ≠ 0 → k ∈ L) ∧ gcdL (L.map d) = 1 ∧ ∀ e, Good n A e → ∀ k ∈ L, d j * e k = d k * e j)
theorem tree_prop {m : Int × Int × List Int} {s : List Nat × List Nat} {d0 d : List Int} {g : Int} {i : Nat} (hs : sizesK m = true) (h : PInv m.1.toNat (ent m) i s) (ht : T2 m s d0 s.1.length d g) {e : Nat → Int} (he : Good m.1.toNat (ent m) e) :
  ∀ k, k < s.1.length → d.getD i 0 * e (s.1.getD k 0) = d.getD (s.1.getD k 0) 0 * e i := by
 intro k
 induction k using Nat.strongRecOn with
 | _ k ih =>
  intro hk
  by_cases h0 : k = 0
  ·subst h0
   rw [h.hd]
  ·obtain ⟨k', h3, h4, h5⟩ := h.src k (by omega) hk
   have h6 := ih k' h3 (by omega)
   rw [← h4] at h6
   have hlk := h.lt _ (getD_mem 0 hk)
   have hfk := src_lt h (show 1 ≤ k by omega) hk
   have h7 := abs_edge (he _ hfk).1 (he _ hlk).1 ((he _ hfk).2 _ hlk)
   have h8 := ht.tree k (by omega) hk
   obtain ⟨⟨hq, _⟩, hp, _⟩ := pq_range hs h (show 1 ≤ k by omega) hk
   rw [show absK (ent m (s.1.getD k 0) (s.2.getD k 0)) = qK m s k by rw [qK, if_neg h0]] at h7
   have h7' : e (s.2.getD k 0) * pK m s k = e (s.1.getD k 0) * qK m s k := h7
   have h9 : d.getD (s.2.getD k 0) 0 * e (s.1.getD k 0) = d.getD (s.1.getD k 0) 0 * e (s.2.getD k 0) :=
    prop_edge' (p := pK m s k) (q := -(qK m s k)) (by omega) (he _ hfk).1 (by rw [Int.mul_neg, Int.neg_neg]; exact h8.symm) (by rw [Int.mul_neg, Int.neg_neg]; exact h7') (by omega)
   have := (he _ hfk).1
   exact prop_trans (by omega) h6 h9
theorem part_step {m : Int × Int × List Int} {s : List Nat × List Nat} {d0 d2 d : List Int} {g : Int} {i : Nat} (hs : sizesK m = true) (hi : i < m.1.toNat) (h : PInv m.1.toNat (ent m) i s) (hn : m.1.toNat ≤ 5)
  (hcl : ∀ x ∈ s.1, ∀ j, j < m.1.toNat → ent m x j ≠ 0 → j ∈ s.1)
  (h0 : Part m.1.toNat (ent m) (fun x => d0.getD x 0)) (hz : d0.getD i 0 ≤ 0) (h2 : T2 m s d0 s.1.length d2 g) (h3 : T3 m s d2 g s.1.length d) :
  Part m.1.toNat (ent m) (fun x => d.getD x 0) ∧ 0 < d.getD i 0 ∧ ∀ x, x < m.1.toNat → 0 < d0.getD x 0 → 0 < d.getD x 0 := by
 have hg := h2.g_range h.pos
 have hle := h.le
 have hnew : ∀ k, k < s.1.length → d0.getD (s.1.getD k 0) 0 ≤ 0 := by
  intro k
  induction k using Nat.strongRecOn with
  | _ k ih =>
   intro hk
   by_cases hk0 : k = 0
   ·subst hk0; rw [h.hd]; exact hz
   ·obtain ⟨k', a1, a2, a3⟩ := h.src k (by omega) hk
    have b1 := ih k' a1 (by omega)
    rw [← a2] at b1
    rcases Int.lt_or_le 0 (d0.getD (s.1.getD k 0) 0) with hc | hc
    ·have hlk := h.lt _ (getD_mem 0 hk)
     have hfk := src_lt h (show 1 ≤ k by omega) hk
     obtain ⟨L, c1, c2, c3, _⟩ := (h0 _ hlk).2.2 hc
     have b4 : 0 < d0.getD (s.2.getD k 0) 0 := (c2 _ (c3 _ hfk (fun e => a3 ((sizes_zero hs hlk hfk).1 e)))).2
     have b2 : d0.getD (s.2.getD k 0) 0 ≤ 0 := b1
     omega
    ·exact hc
 have hin : ∀ x ∈ s.1, d.getD x 0 * g = d2.getD x 0 ∧ 0 < d.getD x 0 ∧ d.getD x 0 ≤ 9227446944279201 := by
  intro x hx
  obtain ⟨k, hk, rfl⟩ := mem_getD hx
  have a1 := h3.val k hk
  obtain ⟨b1, b2, _⟩ := h2.val k hk
  have b3 : g ∣ d2.getD (s.1.getD k 0) 0 := by
   rw [h2.gcd]
   exact gcdL_dvd (List.mem_map.2 ⟨k, List.mem_range.2 hk, rfl⟩)
  have b4 : d.getD (s.1.getD k 0) 0 * g = d2.getD (s.1.getD k 0) 0 := by rw [a1]; exact Int.tdiv_mul_cancel b3
  have b5 := pow99 (k := 4 + k) (by omega)
  have b6 : 0 < d.getD (s.1.getD k 0) 0 := by
   rcases Int.lt_or_le 0 (d.getD (s.1.getD k 0) 0) with hc | hc
   ·exact hc
   ·have := Int.mul_nonpos_of_nonpos_of_nonneg hc (Int.le_of_lt hg.1); omega
  refine ⟨b4, b6, ?_⟩
  have := Int.mul_le_mul_of_nonneg_left (show (1 : Int) ≤ g by omega) (Int.le_of_lt b6)
  omega
 have hout : ∀ x, x < m.1.toNat → x ∉ s.1 → d.getD x 0 = d0.getD x 0 := by
  intro x hx hni
  have hne : ∀ k', k' < s.1.length → x ≠ s.1.getD k' 0 := fun k' hk' e => hni (by rw [e]; exact getD_mem 0 hk')
  rw [h3.out x hx hne, h2.out x hx hne]
 have himem : i ∈ s.1 := by rw [← h.hd]; exact getD_mem 0 h.pos
 refine ⟨?_, (hin i himem).2.1, ?_⟩
 ·intro j hj
  by_cases hm : j ∈ s.1
  ·obtain ⟨a1, a2, a3⟩ := hin j hm
   refine ⟨Int.le_of_lt a2, a3, fun _ => ⟨s.1, hm, fun k hk => ⟨h.lt k hk, (hin k hk).2.1⟩, fun k hk ha => hcl j hm k hk ha, ?_, ?_⟩⟩
   ·have e1 : s.1.map (fun x => g * d.getD x 0) = s.1.map (fun x => d2.getD x 0) := List.map_congr_left (fun x hx => by rw [Int.mul_comm]; exact (hin x hx).1)
    have e2 := gcdL_mul g (s.1.map (fun x => d.getD x 0))
    rw [List.map_map] at e2
    have e3 : gcdL (s.1.map (fun x => d2.getD x 0)) = g.natAbs * gcdL (s.1.map (fun x => d.getD x 0)) := by rw [← e1]; exact e2
    have e4 : g = ((gcdL (s.1.map (fun x => d2.getD x 0)) : Nat) : Int) := by
     rw [← range_getD s.1 (fun x => d2.getD x 0)]
     exact h2.gcd
    have e5 : gcdL (s.1.map (fun x => d2.getD x 0)) = g.natAbs := by
     have := congrArg Int.natAbs e4
     simpa using this.symm
    rw [e5] at e3
    exact Nat.eq_of_mul_eq_mul_left (show 0 < g.natAbs by omega) (by rw [Nat.mul_one]; exact e3.symm)
   ·intro e he k hk
    have key : ∀ x ∈ s.1, d.getD i 0 * e x = d.getD x 0 * e i := by
     intro x hx
     obtain ⟨kx, hkx, rfl⟩ := mem_getD hx
     have c1 := tree_prop hs h h2 he kx hkx
     rw [← (hin i himem).1, ← (hin _ hx).1] at c1
     have c2 : g * (d.getD i 0 * e (s.1.getD kx 0)) = g * (d.getD (s.1.getD kx 0) 0 * e i) := by
      rw [← Int.mul_assoc, ← Int.mul_assoc, Int.mul_comm g, Int.mul_comm g]
      exact c1
     exact Int.eq_of_mul_eq_mul_left (by omega) c2
    have := (he i hi).1
    exact prop_trans (b := d.getD i 0) (f := e i) (by omega) (key j hm).symm (key k hk)
  ·have e := hout j hj hm
   obtain ⟨a1, a2, a3⟩ := h0 j hj
   show 0 ≤ d.getD j 0 ∧ d.getD j 0 ≤ _ ∧ (0 < d.getD j 0 → _)
   rw [e]
   refine ⟨a1, a2, fun hpos => ?_⟩
   obtain ⟨L, b1, b2, b3, b4, b5⟩ := a3 hpos
   have hL : ∀ k ∈ L, d.getD k 0 = d0.getD k 0 := fun k hk => hout k (b2 k hk).1 (fun hc => by
    obtain ⟨kx, hkx, e'⟩ := mem_getD hc
    have := hnew kx hkx
    rw [e'] at this
    have b6 : 0 < d0.getD k 0 := (b2 k hk).2
    omega)
   refine ⟨L, b1, fun k hk => ⟨(b2 k hk).1, by show 0 < d.getD k 0; rw [hL k hk]; exact (b2 k hk).2⟩, b3, ?_, ?_⟩
   ·rw [show L.map (fun x => d.getD x 0) = L.map (fun x => d0.getD x 0) from List.map_congr_left hL]; exact b4
   ·intro e' he' k hk
    show d.getD j 0 * e' k = d.getD k 0 * e' j
    rw [hL k hk, e]
    exact b5 e' he' k hk
 ·intro x hx hp
  by_cases hm : x ∈ s.1
  ·exact (hin x hm).2.1
  ·rw [hout x hx hm]; exact hp
theorem part_fac {m : Int × Int × List Int} {d : List Int} (hl : d.length = m.1.toNat) (h : Part m.1.toNat (ent m) (fun x => d.getD x 0)) (hp : ∀ x, x < m.1.toNat → 0 < d.getD x 0)
  (hc : ∀ i, i < m.1.toNat → ∀ j, j < m.1.toNat → d.getD i 0 * ent m i j = -(d.getD j 0 * ent m j i)) : facK m = d := by
 refine fac_is hl (fun i hi => ⟨hp i hi, hc i hi⟩) (fun i hi => ?_)
 obtain ⟨L, a1, a2, a3, a4, a5⟩ := (h i hi).2.2 (hp i hi)
 exact ⟨L, fun k hk => (a2 k hk).1, a4, a5⟩
theorem part_edge {m : Int × Int × List Int} {d : List Int} (hs : sizesK m = true) (h : Part m.1.toNat (ent m) (fun x => d.getD x 0)) (hp : ∀ x, x < m.1.toNat → 0 < d.getD x 0) {e : Nat → Int} (he : Good m.1.toNat (ent m) e)
  {i j : Nat} (hi : i < m.1.toNat) (hj : j < m.1.toNat) : d.getD i 0 * ent m i j = -(d.getD j 0 * ent m j i) := by
 by_cases ha : ent m i j = 0
 ·rw [ha, (sizes_zero hs hi hj).1 ha]; simp
 ·obtain ⟨L, a1, a2, a3, a4, a5⟩ := (h i hi).2.2 (hp i hi)
  exact prop_edge (he i hi).1 (he j hj).1 (a5 e he j (a3 j hj ha)) ((he i hi).2 j hj)
theorem part_none {m : Int × Int × List Int} {d : List Int} (hs : sizesK m = true) (h : Part m.1.toNat (ent m) (fun x => d.getD x 0)) (hp : ∀ x, x < m.1.toNat → 0 < d.getD x 0)
  {i j : Nat} (hi : i < m.1.toNat) (hj : j < m.1.toNat) (hc : d.getD i 0 * ent m i j ≠ -(d.getD j 0 * ent m j i)) : facK m = [] := by
 refine fac_none (fun ⟨e, he⟩ => hc ?_)
 by_cases ha : ent m i j = 0
 ·rw [ha, (sizes_zero hs hi hj).1 ha]; simp
 ·obtain ⟨L, a1, a2, a3, a4, a5⟩ := (h i hi).2.2 (hp i hi)
  exact prop_edge (he i hi).1 (he j hj).1 (a5 e he j (a3 j hj ha)) ((he i hi).2 j hj)
end Go.Fw
namespace Go.Fw
section
variable {n : Nat} {r : Nat → Nat → Bool}
def ledB (n : Nat) (r : Nat → Nat → Bool) (left : Nat → Bool) (v : Nat) : Bool := (List.range n).any fun u => left u && r u v
def visB (n : Nat) (r : Nat → Nat → Bool) (left : Nat → Bool) (v : Nat) : Nat → Bool := fun x => left x && (ledB n r left v || !(decide (x = v)))
def Acy (n : Nat) (r : Nat → Nat → Bool) : Prop := ∃ f : Nat → Nat, ∀ u v, u < n → v < n → r u v = true → f u < f v
def times {S : Type} (f : S → S) : Nat → S → S
 | 0, s => s
 | k + 1, s => times f k (f s)
theorem ledB_iff {left : Nat → Bool} {v : Nat} : ledB n r left v = true ↔ ∃ u, u < n ∧ left u = true ∧ r u v = true := by
 simp [ledB, List.any_eq_true, List.mem_range]
theorem visB_le {left : Nat → Bool} {v x : Nat} (h : visB n r left v x = true) : left x = true := (Bool.and_eq_true_iff.1 h).1
theorem fold_le : ∀ {vs : List Nat} {left : Nat → Bool} {x : Nat}, vs.foldl (visB n r) left x = true → left x = true
 | [], _, _, h => h
 | v :: vs, left, x, h => visB_le (fold_le (vs := vs) h)
theorem acy_of_fold : ∀ (vs : List Nat) (left : Nat → Bool), (∀ x, x < n → vs.foldl (visB n r) left x = false) → ∃ f : Nat → Nat, ∀ u v, u < n → v < n → left u = true → left v = true → r u v = true → f u < f v
 | [], left, h => ⟨fun _ => 0, fun u v hu _ hl _ _ => by rw [show left u = false from h u hu] at hl; cases hl⟩
 | v :: vs, left, h => by
  obtain ⟨f, hf⟩ := acy_of_fold vs (visB n r left v) h
  cases hb : ledB n r left v
  ·refine ⟨fun x => if x = v then 0 else f x + 1, fun u w hu hw h1 h2 h3 => ?_⟩
   have hwv : w ≠ v := fun e => by
    subst e
    have : ledB n r left w = true := ledB_iff.2 ⟨u, hu, h1, h3⟩
    rw [hb] at this
    cases this
   show (if u = v then 0 else f u + 1) < if w = v then 0 else f w + 1
   rw [if_neg hwv]
   by_cases e : u = v
   ·rw [if_pos e]; omega
   ·rw [if_neg e]
    have := hf u w hu hw (by simp [visB, h1, e]) (by simp [visB, h2, hwv]) h3
    omega
  ·exact ⟨f, fun u w hu hw h1 h2 h3 => hf u w hu hw (by simp [visB, h1, hb]) (by simp [visB, h2, hb]) h3⟩
theorem countP_lt {p q : Nat → Bool} {v : Nat} : ∀ {l : List Nat}, (∀ x ∈ l, p x = true → q x = true) → v ∈ l → q v = true → p v = false → l.countP p < l.countP q
 | [], _, hv, _, _ => by cases hv
 | y :: l, h, hv, hq, hp => by
  have hle : l.countP p ≤ l.countP q := List.countP_mono_left fun x hx => h x (List.mem_cons_of_mem _ hx)
  rcases List.mem_cons.1 hv with rfl | hv
  ·rw [List.countP_cons_of_neg (by simp [hp]), List.countP_cons_of_pos hq]
   omega
  ·have ih := countP_lt (fun x hx => h x (List.mem_cons_of_mem _ hx)) hv hq hp
   have hy := h y List.mem_cons_self
   cases hpy : p y
   ·rw [List.countP_cons_of_neg (by simp [hpy])]
    cases hqy : q y
    ·rw [List.countP_cons_of_neg (by simp [hqy])]; exact ih
    ·rw [List.countP_cons_of_pos hqy]; omega
   ·rw [List.countP_cons_of_pos hpy, List.countP_cons_of_pos (hy hpy)]
    omega
theorem fold_gone {v : Nat} : ∀ {vs : List Nat} {left : Nat → Bool}, (∀ u, u < n → left u = true → r u v = false) → v ∈ vs → vs.foldl (visB n r) left v = false
 | [], _, _, hv => by cases hv
 | y :: vs, left, h, hv => by
  have h' : ∀ u, u < n → visB n r left y u = true → r u v = false := fun u hu hl => h u hu (visB_le hl)
  by_cases e : y = v
  ·subst e
   have hb : ledB n r left y = false := by
    cases hb : ledB n r left y
    ·rfl
    ·obtain ⟨u, hu, h1, h2⟩ := ledB_iff.1 hb
     rw [h u hu h1] at h2
     cases h2
   cases hf : vs.foldl (visB n r) (visB n r left y) y
   ·exact hf
   ·have := fold_le hf
    simp [visB, hb] at this
  ·rcases List.mem_cons.1 hv with e' | hv
   ·exact absurd e'.symm e
   ·exact fold_gone (left := visB n r left y) h' hv
theorem exists_min {p : Nat → Bool} (f : Nat → Nat) : ∀ (k : Nat) (x : Nat), f x ≤ k → x < n → p x = true → ∃ v, v < n ∧ p v = true ∧ ∀ u, u < n → p u = true → f v ≤ f u
 | 0, x, hk, hx, hp => ⟨x, hx, hp, fun u _ _ => by omega⟩
 | k + 1, x, hk, hx, hp => by
  by_cases h : ∃ u, u < n ∧ p u = true ∧ f u < f x
  ·obtain ⟨u, h1, h2, h3⟩ := h
   exact exists_min f k u (by omega) h1 h2
  ·exact ⟨x, hx, hp, fun u h1 h2 => Nat.le_of_not_lt fun h3 => h ⟨u, h1, h2, h3⟩⟩
theorem round_count (h : Acy n r) (left : Nat → Bool) : (List.range n).countP ((List.range n).foldl (visB n r) left) < (List.range n).countP left ∨ ∀ x, x < n → left x = false := by
 obtain ⟨f, hf⟩ := h
 by_cases hx : ∃ x, x < n ∧ left x = true
 ·obtain ⟨x, h1, h2⟩ := hx
  obtain ⟨v, k1, k2, k3⟩ := exists_min (p := left) f (f x) x (Nat.le_refl _) h1 h2
  refine .inl (countP_lt (v := v) (fun x _ h => fold_le h) (by simpa using k1) k2 (fold_gone (fun u hu hl => ?_) (by simpa using k1)))
  cases hr : r u v
  ·rfl
  ·have := hf u v hu k1 hr
   have := k3 u hu hl
   omega
 ·exact .inr fun x h1 => by
   cases hl : left x
   ·rfl
   ·exact absurd ⟨x, h1, hl⟩ hx
theorem rounds_count (h : Acy n r) : ∀ (k : Nat) (left : Nat → Bool), (List.range n).countP left ≤ k → ∀ x, x < n → times (fun l => (List.range n).foldl (visB n r) l) k left x = false
 | 0, left, hc, x, hx => by
  cases hl : left x
  ·exact hl
  ·have : 0 < (List.range n).countP left := List.countP_pos_iff.2 ⟨x, by simpa using hx, hl⟩
   omega
 | k + 1, left, hc, x, hx => by
  rcases round_count h left with h1 | h1
  ·exact rounds_count h k _ (show (List.range n).countP ((List.range n).foldl (visB n r) left) ≤ k by omega) x hx
  ·have h0 : ∀ (k : Nat) (l : Nat → Bool), (∀ x, x < n → l x = false) → ∀ x, x < n → times (fun l => (List.range n).foldl (visB n r) l) k l x = false := by
    intro k
    induction k with
    | zero => intro l hl; exact hl
    | succ k ih =>
     intro l hl
     refine ih _ fun x hx => ?_
     show (List.range n).foldl (visB n r) l x = false
     cases hq : (List.range n).foldl (visB n r) l x
     ·rfl
     ·have := fold_le hq
      rw [hl x hx] at this
      cases this
   exact h0 (k + 1) left h1 x hx
theorem times_fold {S : Type} {f : S → Nat → S} (vs : List Nat) : ∀ (k : Nat) (s : S), times (fun s => vs.foldl f s) k s = (List.replicate k vs).flatten.foldl f s
 | 0, _ => rfl
 | k + 1, s => by
  rw [List.replicate_succ, List.flatten_cons, List.foldl_append]
  exact times_fold vs k _
theorem acy_iff : (∀ x, x < n → times (fun l => (List.range n).foldl (visB n r) l) n (fun _ => true) x = false) ↔ Acy n r := by
 constructor
 ·intro h
  obtain ⟨f, hf⟩ := acy_of_fold (n := n) (r := r) (List.replicate n (List.range n)).flatten (fun _ => true) (by rw [← times_fold]; exact h)
  exact ⟨f, fun u v hu hv hr => hf u v hu hv rfl rfl hr⟩
 ·intro h
  refine rounds_count h n _ ?_
  exact Nat.le_trans List.countP_le_length (by simp)
theorem bound_f (f : Nat → Nat) : ∀ n : Nat, ∃ M, ∀ x, x < n → f x ≤ M
 | 0 => ⟨0, fun x hx => by omega⟩
 | n + 1 => by
  obtain ⟨M, h⟩ := bound_f f n
  refine ⟨M + f n, fun x hx => ?_⟩
  by_cases e : x = n
  ·subst e; omega
  ·have := h x (by omega); omega
theorem Acy.flip (h : Acy n r) : Acy n fun u v => r v u := by
 obtain ⟨f, hf⟩ := h
 obtain ⟨M, hM⟩ := bound_f f n
 refine ⟨fun x => M - f x, fun u v hu hv hr => ?_⟩
 have h1 := hf v u hv hu hr
 have := hM u hu
 show M - f u < M - f v
 omega
theorem fold_left {S : Type} {left : S → Nat → Bool} {vis : S → Nat → S} {I : S → Prop} (h : ∀ s v, v < n → I s → I (vis s v) ∧ ∀ x, x < n → left (vis s v) x = visB n r (left s) v x) :
  ∀ (vs : List Nat) (s : S) (l : Nat → Bool), (∀ v ∈ vs, v < n) → I s → (∀ x, x < n → left s x = l x) → I (vs.foldl vis s) ∧ ∀ x, x < n → left (vs.foldl vis s) x = vs.foldl (visB n r) l x
 | [], s, l, _, hI, hl => ⟨hI, hl⟩
 | v :: vs, s, l, hv, hI, hl => by
  obtain ⟨h1, h2⟩ := h s v (hv v List.mem_cons_self) hI
  refine fold_left h vs _ _ (fun x hx => hv x (List.mem_cons_of_mem _ hx)) h1 fun x hx => ?_
  rw [h2 x hx]
  have he : ledB n r (left s) v = ledB n r l v := by
   rw [Bool.eq_iff_iff, ledB_iff, ledB_iff]
   constructor
   ·rintro ⟨u, h1, h2, h3⟩
    exact ⟨u, h1, by rw [← hl u h1]; exact h2, h3⟩
   ·rintro ⟨u, h1, h2, h3⟩
    exact ⟨u, h1, by rw [hl u h1]; exact h2, h3⟩
  unfold visB
  rw [hl x hx, he]
theorem times_left {S : Type} {left : S → Nat → Bool} {f : S → S} {g : (Nat → Bool) → Nat → Bool} {I : S → Prop} (h : ∀ s l, I s → (∀ x, x < n → left s x = l x) → I (f s) ∧ ∀ x, x < n → left (f s) x = g l x) :
  ∀ (k : Nat) (s : S) (l : Nat → Bool), I s → (∀ x, x < n → left s x = l x) → I (times f k s) ∧ ∀ x, x < n → left (times f k s) x = times g k l x
 | 0, _, _, hI, hl => ⟨hI, hl⟩
 | k + 1, s, l, hI, hl => times_left h k (f s) (g l) (h s l hI hl).1 (h s l hI hl).2
theorem rounds_left {S : Type} {left : S → Nat → Bool} {vis : S → Nat → S} {I : S → Prop} (h : ∀ s v, v < n → I s → I (vis s v) ∧ ∀ x, x < n → left (vis s v) x = visB n r (left s) v x) {s : S} (hI : I s) (hs : ∀ x, x < n → left s x = true) :
  I (times (fun s => (List.range n).foldl vis s) n s) ∧ ((∀ x, x < n → left (times (fun s => (List.range n).foldl vis s) n s) x = false) ↔ Acy n r) := by
 obtain ⟨h1, h2⟩ := times_left (left := left) (f := fun s => (List.range n).foldl vis s) (g := fun l => (List.range n).foldl (visB n r) l) (I := I) (fun s l hI hl => fold_left h (List.range n) s l (fun v hv => by simpa using hv) hI hl) n s (fun _ => true) hI hs
 refine ⟨h1, ?_⟩
 rw [← acy_iff]
 constructor
 ·intro hq x hx
  rw [← h2 x hx]
  exact hq x hx
 ·intro hq x hx
  rw [h2 x hx]
  exact hq x hx
def edgeK (m : Int × Int × List Int) (u v : Nat) : Bool := decide (0 < ent m u v)
def ledL (m : Int × Int × List Int) (L : List Int) (j : Nat) : Bool := (List.range m.1.toNat).any fun i => mHas L (i : Int) && edgeK m i j
def visL (m : Int × Int × List Int) (L : List Int) (j : Nat) : List Int := cond (ledL m L j) L (mDel L (j : Int))
def leftL (m : Int × Int × List Int) : List Int := times (fun L => (List.range m.1.toNat).foldl (visL m) L) m.1.toNat ((List.range m.1.toNat).map fun (i : Nat) => (i : Int))
def goodL (n : Nat) (L : List Int) : Prop := L.Nodup ∧ ∀ y ∈ L, ∃ x : Nat, x < n ∧ y = x
theorem mDel_sub {α : Type} [DecidableEq α] {L : List α} {y : α} : (mDel L y).Sublist L := List.eraseP_sublist
theorem mem_mDel {α : Type} [DecidableEq α] {L : List α} (hn : L.Nodup) {x y : α} : x ∈ mDel L y ↔ x ∈ L ∧ x ≠ y := by
 induction L with
 | nil => simp [mDel]
 | cons a L ih =>
  obtain ⟨h1, h2⟩ := List.nodup_cons.1 hn
  unfold mDel at ih ⊢
  by_cases e : a = y
  ·subst e
   rw [List.eraseP_cons_of_pos (by simp)]
   constructor
   ·intro hx
    exact ⟨List.mem_cons_of_mem _ hx, fun e => h1 (e ▸ hx)⟩
   ·rintro ⟨hx, hne⟩
    rcases List.mem_cons.1 hx with rfl | hx
    ·exact absurd rfl hne
    ·exact hx
  ·rw [List.eraseP_cons_of_neg (by simpa using e), List.mem_cons, List.mem_cons, ih h2]
   constructor
   ·rintro (rfl | ⟨h3, h4⟩)
    ·exact ⟨.inl rfl, e⟩
    ·exact ⟨.inr h3, h4⟩
   ·rintro ⟨rfl | h3, h4⟩
    ·exact .inl rfl
    ·exact .inr ⟨h3, h4⟩
theorem leftL_iff (m : Int × Int × List Int) : leftL m = [] ↔ Acy m.1.toNat (edgeK m) := by
 obtain ⟨⟨h1, h2⟩, h3⟩ := rounds_left (n := m.1.toNat) (r := edgeK m) (left := fun L x => mHas L (x : Int)) (vis := visL m) (I := goodL m.1.toNat) (fun L v hv hI => by
  obtain ⟨h1, h2⟩ := hI
  unfold visL
  have he : ledL m L v = ledB m.1.toNat (edgeK m) (fun x => mHas L (x : Int)) v := rfl
  cases hb : ledL m L v
  ·refine ⟨⟨mDel_sub.nodup h1, fun y hy => h2 y (mDel_sub.subset hy)⟩, fun x hx => ?_⟩
   rw [cond_false, Bool.eq_iff_iff, mHas_iff, mem_mDel h1]
   simp only [visB, ← he, hb, Bool.false_or, Bool.and_eq_true, mHas_iff, Bool.not_eq_true', decide_eq_false_iff_not, ne_eq, Int.natCast_inj]
  ·refine ⟨⟨h1, h2⟩, fun x hx => ?_⟩
   simp only [cond_true, visB, ← he, hb, Bool.true_or, Bool.and_true]) (s := (List.range m.1.toNat).map fun (i : Nat) => (i : Int))
  ⟨by
   refine List.Pairwise.map _ ?_ List.nodup_range
   intro a b h e
   exact h (by exact_mod_cast e), fun y hy => by
   obtain ⟨x, h1, rfl⟩ := List.mem_map.1 hy
   exact ⟨x, by simpa using h1, rfl⟩⟩ (fun x hx => mHas_iff.2 (List.mem_map.2 ⟨x, by simpa using hx, rfl⟩))
 rw [← h3]
 show leftL m = [] ↔ ∀ x, x < m.1.toNat → mHas (leftL m) (x : Int) = false
 constructor
 ·intro h x hx
  rw [h]; rfl
 ·intro h
  cases hl : leftL m with
  | nil => rfl
  | cons y l =>
   obtain ⟨x, hx, rfl⟩ := h2 y (by show y ∈ leftL m; rw [hl]; simp)
   have := h x hx
   rw [hl] at this
   simp [mHas] at this
def sinkG (m : Int × Int × List Int) (gone : List Bool) (i : Nat) : Bool := !(gone.getD i false) && (List.range m.1.toNat).all fun j => gone.getD j false || decide (ent m i j ≤ 0)
def visG (m : Int × Int × List Int) (gone : List Bool) (i : Nat) : List Bool := cond (sinkG m gone i) (gone.set i true) gone
def goneG (m : Int × Int × List Int) : List Bool := times (fun G => (List.range m.1.toNat).foldl (visG m) G) m.1.toNat (List.replicate m.1.toNat false)
theorem goneG_iff (m : Int × Int × List Int) : (goneG m).length = m.1.toNat ∧ ((∀ x, x < m.1.toNat → (goneG m).getD x false = true) ↔ Acy m.1.toNat (edgeK m)) := by
 obtain ⟨h1, h3⟩ := rounds_left (n := m.1.toNat) (r := fun u v => edgeK m v u) (left := fun G x => !(G.getD x false)) (vis := visG m) (I := fun G => G.length = m.1.toNat) (fun G v hv hI => by
  unfold visG
  refine ⟨by cases sinkG m G v <;> simp [hI], fun x hx => ?_⟩
  have he : sinkG m G v = (!(G.getD v false) && !(ledB m.1.toNat (fun u v => edgeK m v u) (fun x => !(G.getD x false)) v)) := by
   unfold sinkG ledB
   congr 1
   rw [List.not_any_eq_all_not]
   congr 1
   funext j
   show (G.getD j false || decide (ent m v j ≤ 0)) = !(!(G.getD j false) && decide (0 < ent m v j))
   generalize G.getD j false = b
   cases b
   ·by_cases h : ent m v j ≤ 0
    ·simp [h, show ¬ 0 < ent m v j by omega]
    ·simp [h, show 0 < ent m v j by omega]
   ·simp
  rw [he]
  by_cases e : x = v
  ·subst e
   show _ = (!(G.getD x false) && (ledB m.1.toNat (fun u v => edgeK m v u) (fun x => !(G.getD x false)) x || !(decide (x = x))))
   rw [dt (rfl : x = x)]
   generalize ledB m.1.toNat (fun u v => edgeK m v u) (fun x => !(G.getD x false)) x = l
   cases hg : G.getD x false <;> cases l
   ·show (!(G.set x true).getD x false) = _
    rw [getD_set_self (by omega)]; rfl
   ·show (!G.getD x false) = _
    rw [hg]; rfl
   ·show (!G.getD x false) = _
    rw [hg]; rfl
   ·show (!G.getD x false) = _
    rw [hg]; rfl
  ·have hs : (G.set v true).getD x false = G.getD x false := by
    simp only [List.getD_eq_getElem?_getD, List.getElem?_set_ne (Ne.symm e)]
   cases hc : (!(G.getD v false) && !(ledB m.1.toNat (fun u v => edgeK m v u) (fun x => !(G.getD x false)) v))
   ·simp [visB, e]
   ·simp only [cond_true, hs]
    simp [visB, e]) (s := List.replicate m.1.toNat false) (by simp) (fun x hx => by
   rw [List.getD_eq_getElem?_getD, List.getElem?_replicate, if_pos hx]; rfl)
 refine ⟨h1, ?_⟩
 have h4 : Acy m.1.toNat (fun u v => edgeK m v u) ↔ Acy m.1.toNat (edgeK m) := ⟨fun h => h.flip, fun h => h.flip⟩
 rw [← h4, ← h3]
 constructor
 ·intro h x hx
  have := h x hx
  show (!(goneG m).getD x false) = false
  rw [this]; rfl
 ·intro h x hx
  have : (!(goneG m).getD x false) = false := h x hx
  simpa using this
end
end Go.Fw
namespace Go.Fw
def Edge (A : Nat → Nat → Int) (L : List Nat) (num den : List Int) (x k : Nat) : Prop := (A x k = 0 ∧ A k x = 0) ∨ (k ∈ L ∧ num.getD x 0 * A x k * den.getD k 0 = -(num.getD k 0 * A k x * den.getD x 0))
structure FInv (n : Nat) (A : Nat → Nat → Int) (s : Nat) (num0 : List Int) (L : List Nat) (num den : List Int) : Prop where
 nl : num.length = n
 dl : den.length = n
 nd : L.Nodup
 lt : ∀ x ∈ L, x < n
 hd : L.getD 0 0 = s
 pos : 0 < L.length
 out : ∀ x, x < n → x ∉ L → num.getD x 0 = num0.getD x 0
 new : ∀ x ∈ L, num0.getD x 0 = 0
 frac : ∃ Q : Int, 0 < Q ∧ Q ≤ 99 ^ (L.length - 1) ∧ ∀ x ∈ L, 0 < num.getD x 0 ∧ num.getD x 0 ≤ 99 ^ (L.length - 1) ∧ 0 < den.getD x 0 ∧ den.getD x 0 ∣ Q ∧ Int.gcd (num.getD x 0) (den.getD x 0) = 1
 good : ∀ e, Good n A e → ∀ x ∈ L, num.getD x 0 * e s = den.getD x 0 * e x
theorem FInv.le {n : Nat} {A : Nat → Nat → Int} {s : Nat} {num0 num den : List Int} {L : List Nat} (h : FInv n A s num0 L num den) : L.length ≤ n := nodup_len n L h.nd h.lt
def Closed (n : Nat) (A : Nat → Nat → Int) (num0 : List Int) : Prop := ∀ y, y < n → num0.getD y 0 ≠ 0 → ∀ k, k < n → (A y k ≠ 0 ∨ A k y ≠ 0) → num0.getD k 0 ≠ 0
theorem frac_eq {a b c d : Int} (ha : 0 < a) (hb : 0 < b) (hc : 0 < c) (hd : 0 < d) (h1 : Int.gcd a b = 1) (h2 : Int.gcd c d = 1) (h : a * d = c * b) : a = c ∧ b = d := by
 obtain ⟨a, rfl⟩ := Int.eq_ofNat_of_zero_le (Int.le_of_lt ha)
 obtain ⟨b, rfl⟩ := Int.eq_ofNat_of_zero_le (Int.le_of_lt hb)
 obtain ⟨c, rfl⟩ := Int.eq_ofNat_of_zero_le (Int.le_of_lt hc)
 obtain ⟨d, rfl⟩ := Int.eq_ofNat_of_zero_le (Int.le_of_lt hd)
 have h3 : a * d = c * b := by exact_mod_cast h
 have e1 : a ∣ c := Nat.Coprime.dvd_of_dvd_mul_right (k := a) (n := b) h1 ⟨d, h3.symm⟩
 have e2 : c ∣ a := Nat.Coprime.dvd_of_dvd_mul_right (k := c) (n := d) h2 ⟨b, h3⟩
 have e3 := Nat.dvd_antisymm e1 e2
 subst e3
 exact ⟨rfl, by rw [Nat.eq_of_mul_eq_mul_left (by omega) h3]⟩
section
variable {n : Nat} {A : Nat → Nat → Int} {s p j : Nat} {num0 num den : List Int} {L : List Nat}
structure StepN (A : Nat → Nat → Int) (x j : Nat) (num den : List Int) (a0 b0 g a b : Int) : Prop where
 ea0 : a0 = num.getD x 0 * absK (A x j)
 eb0 : b0 = den.getD x 0 * absK (A j x)
 eg : g = (Int.gcd a0 b0 : Int)
 gp : 0 < g
 a0p : 0 < a0
 b0p : 0 < b0
 ea : a * g = a0
 eb : b * g = b0
 ap : 0 < a
 bp : 0 < b
 co : Int.gcd a b = 1
theorem stepN (x j : Nat) (hx : 0 < num.getD x 0) (hd : 0 < den.getD x 0) (h1 : A x j ≠ 0) (h2 : A j x ≠ 0) :
  StepN A x j num den (num.getD x 0 * absK (A x j)) (den.getD x 0 * absK (A j x)) (Int.gcd (num.getD x 0 * absK (A x j)) (den.getD x 0 * absK (A j x)))
   (Int.tdiv (num.getD x 0 * absK (A x j)) (Int.gcd (num.getD x 0 * absK (A x j)) (den.getD x 0 * absK (A j x)))) (Int.tdiv (den.getD x 0 * absK (A j x)) (Int.gcd (num.getD x 0 * absK (A x j)) (den.getD x 0 * absK (A j x)))) := by
 have a0p : 0 < num.getD x 0 * absK (A x j) := Int.mul_pos hx (absK_pos h1)
 have b0p : 0 < den.getD x 0 * absK (A j x) := Int.mul_pos hd (absK_pos h2)
 generalize ha0 : num.getD x 0 * absK (A x j) = a0 at a0p ⊢
 generalize hb0 : den.getD x 0 * absK (A j x) = b0 at b0p ⊢
 have gp : 0 < (Int.gcd a0 b0 : Int) := by
  have := Int.gcd_pos_of_ne_zero_left b0 (show a0 ≠ 0 by omega)
  omega
 have ea : Int.tdiv a0 (Int.gcd a0 b0) * (Int.gcd a0 b0 : Int) = a0 := Int.tdiv_mul_cancel (Int.gcd_dvd_left ..)
 have eb : Int.tdiv b0 (Int.gcd a0 b0) * (Int.gcd a0 b0 : Int) = b0 := Int.tdiv_mul_cancel (Int.gcd_dvd_right ..)
 have pos : ∀ c d : Int, 0 < d → 0 < c * d → 0 < c := fun c d hd h => by
  rcases Int.lt_or_le 0 c with h' | h'
  ·exact h'
  ·have := Int.mul_nonpos_of_nonpos_of_nonneg h' (Int.le_of_lt hd); omega
 refine ⟨ha0.symm, hb0.symm, rfl, gp, a0p, b0p, ea, eb, pos _ _ gp (by rw [ea]; exact a0p), pos _ _ gp (by rw [eb]; exact b0p), ?_⟩
 have h3 : Int.gcd (Int.tdiv a0 (Int.gcd a0 b0) * (Int.gcd a0 b0 : Int)) (Int.tdiv b0 (Int.gcd a0 b0) * (Int.gcd a0 b0 : Int)) = Int.gcd a0 b0 := by rw [ea, eb]
 rw [Int.gcd_mul_right, Int.natAbs_natCast] at h3
 have gp' : 0 < Int.gcd a0 b0 := by omega
 exact Nat.eq_of_mul_eq_mul_right gp' (by rw [h3, Nat.one_mul])
def Skew (A : Nat → Nat → Int) (x j : Nat) : Prop := ∃ u : Int, (u = 1 ∨ u = -1) ∧ A x j = u * absK (A x j) ∧ A j x = -(u * absK (A j x))
theorem skew_of {x j : Nat} (h1 : A x j ≠ 0) (h2 : A j x ≠ 0) (h : (0 < A x j) ↔ (0 < -A j x)) : Skew A x j := by
 unfold Skew absK
 by_cases hp : 0 < A x j
 ·have := h.1 hp
  exact ⟨1, Or.inl rfl, by omega, by omega⟩
 ·have : ¬ 0 < -A j x := fun hc => hp (h.2 hc)
  exact ⟨-1, Or.inr rfl, by omega, by omega⟩
theorem step_good {x : Nat} {a0 b0 g a b : Int} (st : StepN A x j num den a0 b0 g a b) (hx : x < n) (hj : j < n) {e : Nat → Int} (he : Good n A e) (hg : num.getD x 0 * e s = den.getD x 0 * e x) : a * e s = b * e j := by
 have h1 := abs_edge (he x hx).1 (he j hj).1 ((he x hx).2 j hj)
 have h2 := st.ea0
 have h3 := st.eb0
 have h4 := st.ea
 have h5 := st.eb
 have h6 : g * (a * e s) = g * (b * e j) := by grind
 exact Int.eq_of_mul_eq_mul_left (by have := st.gp; omega) h6
theorem step_edge {x : Nat} {a0 b0 g a b : Int} (st : StepN A x j num den a0 b0 g a b) (sk : Skew A x j) : num.getD x 0 * A x j * b = -(a * A j x * den.getD x 0) := by
 obtain ⟨u, hu, h1, h2⟩ := sk
 have h3 := st.ea0
 have h4 := st.eb0
 have h5 := st.ea
 have h6 := st.eb
 rw [h1, h2]
 grind
theorem FInv.grow {a0 b0 g a b : Int} (h : FInv n A s num0 L num den) (hp : p < L.length) (hj : j < n) (hz : num.getD j 0 = 0) (st : StepN A (L.getD p 0) j num den a0 b0 g a b) (hb : ∀ x y, absK (A x y) ≤ 99) :
  FInv n A s num0 (L ++ [j]) (num.set j a) (den.set j b) ∧ j ∉ L := by
 obtain ⟨Q, q1, q2, q3⟩ := h.frac
 have hxm : L.getD p 0 ∈ L := getD_mem 0 hp
 have hnj : j ∉ L := fun hc => by have := (q3 j hc).1; omega
 have hxj : ∀ x ∈ L, j ≠ x := fun x hx e => hnj (e ▸ hx)
 have hnl : j < num.length := by rw [h.nl]; exact hj
 have hdl : j < den.length := by rw [h.dl]; exact hj
 have e1 : ∀ x ∈ L, (num.set j a).getD x 0 = num.getD x 0 := fun x hx => by rw [getD_put hnl, if_neg (hxj x hx)]
 have e2 : ∀ x ∈ L, (den.set j b).getD x 0 = den.getD x 0 := fun x hx => by rw [getD_put hdl, if_neg (hxj x hx)]
 have e3 : (num.set j a).getD j 0 = a := by rw [getD_put hnl, if_pos rfl]
 have e4 : (den.set j b).getD j 0 = b := by rw [getD_put hdl, if_pos rfl]
 have hlen : (L ++ [j]).length - 1 = L.length - 1 + 1 := by have := h.pos; simp; omega
 have hpp : (0 : Int) ≤ 99 ^ (L.length - 1) := Int.pow_nonneg (by omega)
 refine ⟨⟨by rw [List.length_set, h.nl], by rw [List.length_set, h.dl], ?_, ?_, (getD_append_lt h.pos).trans h.hd, by simp, ?_, ?_, ?_, ?_⟩, hnj⟩
 ·exact List.nodup_append.2 ⟨h.nd, by simp, fun a ha' b hb e => by
   rw [List.mem_singleton] at hb; subst hb; subst e; exact hnj ha'⟩
 ·intro x hx
  rcases List.mem_append.1 hx with hx | hx
  ·exact h.lt x hx
  ·rw [List.mem_singleton] at hx; omega
 ·intro x hx hni
  rw [List.mem_append, List.mem_singleton] at hni
  rw [getD_put hnl, if_neg (fun e => hni (Or.inr e.symm))]
  exact h.out x hx (fun hc => hni (Or.inl hc))
 ·intro x hx
  rcases List.mem_append.1 hx with hx | hx
  ·exact h.new x hx
  ·rw [List.mem_singleton] at hx
   subst hx
   rw [← h.out x hj hnj]
   exact hz
 ·obtain ⟨c1, c2, c3, c4, c5⟩ := q3 _ hxm
  have ga : a ≤ a0 := by
   have := Int.mul_le_mul_of_nonneg_left (show (1 : Int) ≤ g by have := st.gp; omega) (Int.le_of_lt st.ap)
   have := st.ea
   omega
  have hq1 : 0 < absK (A j (L.getD p 0)) := by
   have h1 := st.b0p
   rw [st.eb0] at h1
   rcases Int.lt_or_le 0 (absK (A j (L.getD p 0))) with h' | h'
   ·exact h'
   ·have := Int.mul_nonpos_of_nonneg_of_nonpos (Int.le_of_lt c3) h'; omega
  have hp1 : 0 ≤ absK (A (L.getD p 0) j) := by unfold absK; omega
  refine ⟨Q * absK (A j (L.getD p 0)), Int.mul_pos q1 hq1, ?_, ?_⟩
  ·rw [hlen, Int.pow_succ]
   exact Int.mul_le_mul q2 (hb _ _) (by omega) hpp
  ·intro x hx
   rcases List.mem_append.1 hx with hx | hx
   ·rw [e1 x hx, e2 x hx]
    obtain ⟨d1, d2, d3, d4, d5⟩ := q3 x hx
    refine ⟨d1, ?_, d3, Int.dvd_trans d4 ⟨_, rfl⟩, d5⟩
    rw [hlen, Int.pow_succ]
    have := Int.mul_le_mul_of_nonneg_left (show (1 : Int) ≤ 99 by omega) hpp
    omega
   ·rw [List.mem_singleton] at hx
    subst hx
    rw [e3, e4]
    refine ⟨st.ap, ?_, st.bp, ?_, st.co⟩
    ·rw [hlen, Int.pow_succ]
     have : a0 ≤ 99 ^ (L.length - 1) * 99 := by
      rw [st.ea0]
      exact Int.mul_le_mul c2 (hb _ _) hp1 hpp
     omega
    ·have h1 : b ∣ b0 := ⟨g, st.eb.symm⟩
     have h2 : b0 ∣ Q * absK (A x (L.getD p 0)) := by
      rw [st.eb0]
      exact Int.mul_dvd_mul c4 (Int.dvd_refl _)
     exact Int.dvd_trans h1 h2
 ·intro e he x hx
  rcases List.mem_append.1 hx with hx | hx
  ·rw [e1 x hx, e2 x hx]
   exact h.good e he x hx
  ·rw [List.mem_singleton] at hx
   subst hx
   rw [e3, e4]
   exact step_good st (h.lt _ hxm) hj he (h.good e he _ hxm)
theorem Edge.grow {x k : Nat} {a b : Int} (hL : ∀ x ∈ L, j ≠ x) (hnl : j < num.length) (hdl : j < den.length) (hx : x ∈ L) (h : Edge A L num den x k) : Edge A (L ++ [j]) (num.set j a) (den.set j b) x k := by
 rcases h with h | ⟨h1, h2⟩
 ·exact Or.inl h
 ·refine Or.inr ⟨List.mem_append_left _ h1, ?_⟩
  rw [getD_put hnl, if_neg (hL x hx), getD_put hdl, if_neg (hL k h1), getD_put hnl, if_neg (hL k h1), getD_put hdl, if_neg (hL x hx)]
  exact h2
end
end Go.Fw
namespace Go.Fw
structure OInv (n : Nat) (A : Nat → Nat → Int) (num out : List Int) : Prop where
 nl : num.length = n
 ol : out.length = n
 closed : Closed n A num
 done : ∀ j, j < n → num.getD j 0 ≠ 0 → 0 < out.getD j 0 ∧ (∀ k, k < n → out.getD j 0 * A j k = -(out.getD k 0 * A k j)) ∧
  ∃ L : List Nat, (∀ k ∈ L, k < n ∧ num.getD k 0 ≠ 0) ∧ gcdL (L.map fun k => out.getD k 0) = 1 ∧ ∀ e, Good n A e → ∀ k ∈ L, out.getD j 0 * e k = out.getD k 0 * e j
section
variable {n : Nat} {A : Nat → Nat → Int} {s : Nat} {num0 num den out0 out2 out3 : List Int} {L : List Nat} {com g : Int}
theorem OInv.piece (h : OInv n A num0 out0) (f : FInv n A s num0 L num den) (he : ∀ x ∈ L, ∀ k, k < n → Edge A L num den x k) (hc : 0 < com) (hg : 0 < g)
  (h2 : ∀ x ∈ L, out2.getD x 0 * den.getD x 0 = com * num.getD x 0) (hgl : g = ((gcdL (L.map fun x => out2.getD x 0) : Nat) : Int))
  (h3 : ∀ x ∈ L, out3.getD x 0 * g = out2.getD x 0) (ho : ∀ x, x < n → x ∉ L → out3.getD x 0 = out0.getD x 0) (hl : out3.length = n) :
  OInv n A num out3 ∧ num.getD s 0 ≠ 0 ∧ ∀ x, x < n → num0.getD x 0 ≠ 0 → num.getD x 0 ≠ 0 := by
 obtain ⟨Q, q1, q2, q3⟩ := f.frac
 have hpos : ∀ x ∈ L, 0 < num.getD x 0 ∧ 0 < den.getD x 0 := fun x hx => ⟨(q3 x hx).1, (q3 x hx).2.2.1⟩
 have hk : ∀ x ∈ L, out3.getD x 0 * g * den.getD x 0 = com * num.getD x 0 := fun x hx => by rw [h3 x hx]; exact h2 x hx
 have hop : ∀ x ∈ L, 0 < out3.getD x 0 := fun x hx => by
  have h4 := Int.mul_pos hc (hpos x hx).1
  rw [← hk x hx] at h4
  rcases Int.lt_or_le 0 (out3.getD x 0) with h' | h'
  ·exact h'
  ·have h5 := Int.mul_nonpos_of_nonpos_of_nonneg h' (Int.le_of_lt hg)
   have h6 := Int.mul_nonpos_of_nonpos_of_nonneg h5 (Int.le_of_lt (hpos x hx).2)
   omega
 have hns : num.getD s 0 ≠ 0 := by
  have := (hpos s (by rw [← f.hd]; exact getD_mem 0 f.pos)).1
  omega
 have old : ∀ x, x < n → num0.getD x 0 ≠ 0 → x ∉ L := fun x hx h0 hc => h0 (f.new x hc)
 refine ⟨⟨f.nl, hl, ?_, ?_⟩, hns, fun x hx h0 => by rw [f.out x hx (old x hx h0)]; exact h0⟩
 ·intro y hy h1 k hk' ha
  by_cases hm : y ∈ L
  ·rcases he y hm k hk' with hz | hz
   ·omega
   ·have := (hpos k hz.1).1; omega
  ·rw [f.out y hy hm] at h1
   have h4 := h.closed y hy h1 k hk' ha
   rw [f.out k hk' (old k hk' h4)]
   exact h4
 ·intro j hj h1
  by_cases hm : j ∈ L
  ·refine ⟨hop j hm, ?_, L, fun k hk' => ⟨f.lt k hk', by have := (hpos k hk').1; omega⟩, ?_, ?_⟩
   ·intro k hk'
    rcases he j hm k hk' with ⟨z1, z2⟩ | ⟨z1, z2⟩
    ·rw [z1, z2]; simp
    ·have e1 := hk j hm
     have e2 := hk k z1
     have e3 : (g * den.getD j 0 * den.getD k 0) * (out3.getD j 0 * A j k) = (g * den.getD j 0 * den.getD k 0) * (-(out3.getD k 0 * A k j)) := by grind
     have e4 := Int.mul_pos (Int.mul_pos hg (hpos j hm).2) (hpos k z1).2
     exact Int.eq_of_mul_eq_mul_left (by omega) e3
   ·have e1 : L.map (fun x => g * out3.getD x 0) = L.map (fun x => out2.getD x 0) := List.map_congr_left (fun x hx => by rw [Int.mul_comm]; exact h3 x hx)
    have e2 := gcdL_mul g (L.map (fun x => out3.getD x 0))
    rw [List.map_map] at e2
    have e3 : gcdL (L.map (fun x => out2.getD x 0)) = g.natAbs * gcdL (L.map (fun x => out3.getD x 0)) := by rw [← e1]; exact e2
    have e5 : gcdL (L.map (fun x => out2.getD x 0)) = g.natAbs := by
     have := congrArg Int.natAbs hgl
     simpa using this.symm
    rw [e5] at e3
    exact Nat.eq_of_mul_eq_mul_left (show 0 < g.natAbs by omega) (by rw [Nat.mul_one]; exact e3.symm)
   ·intro e hge k hkL
    have key : ∀ x ∈ L, out3.getD x 0 * g * e s = com * e x := by
     intro x hx
     have e1 := hk x hx
     have e2 := f.good e hge x hx
     have e3 : den.getD x 0 * (out3.getD x 0 * g * e s) = den.getD x 0 * (com * e x) := by grind
     exact Int.eq_of_mul_eq_mul_left (by have := (hpos x hx).2; omega) e3
    have e1 := key j hm
    have e2 := key k hkL
    have hs : 0 < e s := (hge s (by rw [← f.hd]; exact f.lt _ (getD_mem 0 f.pos))).1
    have e3 : (g * e s) * (out3.getD j 0 * e k) = (g * e s) * (out3.getD k 0 * e j) := by grind
    have e4 := Int.mul_pos hg hs
    exact Int.eq_of_mul_eq_mul_left (by omega) e3
  ·rw [f.out j hj hm] at h1
   obtain ⟨a1, a2, L', a3, a4, a5⟩ := h.done j hj h1
   rw [ho j hj hm]
   have hL' : ∀ k ∈ L', k ∉ L := fun k hk' => old k (a3 k hk').1 (a3 k hk').2
   refine ⟨a1, ?_, L', fun k hk' => ⟨(a3 k hk').1, by rw [f.out k (a3 k hk').1 (hL' k hk')]; exact (a3 k hk').2⟩, ?_, ?_⟩
   ·intro k hk'
    by_cases hkL : k ∈ L
    ·by_cases z1 : A j k = 0
     ·by_cases z2 : A k j = 0
      ·rw [z1, z2]; simp
      ·exact absurd (f.new k hkL) (h.closed j hj h1 k hk' (Or.inr z2))
     ·exact absurd (f.new k hkL) (h.closed j hj h1 k hk' (Or.inl z1))
    ·rw [ho k hk' hkL]; exact a2 k hk'
   ·rw [show L'.map (fun k => out3.getD k 0) = L'.map (fun k => out0.getD k 0) from List.map_congr_left (fun k hk' => ho k (a3 k hk').1 (hL' k hk'))]
    exact a4
   ·intro e hge k hk'
    rw [ho k (a3 k hk').1 (hL' k hk')]
    exact a5 e hge k hk'
end
theorem OInv.fac {m : Int × Int × List Int} {num out : List Int} (h : OInv m.1.toNat (ent m) num out) (hp : ∀ x, x < m.1.toNat → num.getD x 0 ≠ 0) : facK m = out := by
 refine fac_is h.ol (fun i hi => ⟨(h.done i hi (hp i hi)).1, (h.done i hi (hp i hi)).2.1⟩) (fun i hi => ?_)
 obtain ⟨L, a1, a2, a3⟩ := (h.done i hi (hp i hi)).2.2
 exact ⟨L, fun k hk => (a1 k hk).1, a2, a3⟩
theorem lcm_step {c d Q : Int} (hc : 0 < c) (hd : 0 < d) (h1 : c ∣ Q) (h2 : d ∣ Q) (hQ : 0 < Q) :
  0 < (Int.gcd c d : Int) ∧ 0 < Int.tdiv c (Int.gcd c d) ∧ Int.tdiv c (Int.gcd c d) ≤ c ∧ 0 < Int.tdiv c (Int.gcd c d) * d ∧ Int.tdiv c (Int.gcd c d) * d ∣ Q ∧ c ∣ Int.tdiv c (Int.gcd c d) * d ∧ d ∣ Int.tdiv c (Int.gcd c d) * d := by
 obtain ⟨c, rfl⟩ := Int.eq_ofNat_of_zero_le (Int.le_of_lt hc)
 obtain ⟨d, rfl⟩ := Int.eq_ofNat_of_zero_le (Int.le_of_lt hd)
 obtain ⟨Q, rfl⟩ := Int.eq_ofNat_of_zero_le (Int.le_of_lt hQ)
 have e : Int.tdiv (c : Int) (Int.gcd (c : Int) (d : Int)) = ((c / Nat.gcd c d : Nat) : Int) := rfl
 rw [e]
 have hg : 0 < Nat.gcd c d := Nat.gcd_pos_of_pos_left d (by omega)
 have h3 : c / Nat.gcd c d * d = Nat.lcm c d := by
  rw [Nat.lcm, Nat.mul_comm, Nat.mul_comm c d, Nat.mul_div_assoc _ (Nat.gcd_dvd_left c d)]
 have h4 : 0 < c / Nat.gcd c d := Nat.div_pos (Nat.gcd_le_left d (by omega)) hg
 have h5 : c / Nat.gcd c d ≤ c := Nat.div_le_self _ _
 rw [← Int.natCast_mul, h3]
 have h6 : 0 < Nat.lcm c d := Nat.lcm_pos (by omega) (by omega)
 refine ⟨by show (0 : Int) < ((Nat.gcd c d : Nat) : Int); omega, by omega, by omega, by omega, ?_, ?_, ?_⟩
 ·exact Int.natCast_dvd_natCast.2 (Nat.lcm_dvd (Int.natCast_dvd_natCast.1 h1) (Int.natCast_dvd_natCast.1 h2))
 ·exact Int.natCast_dvd_natCast.2 (Nat.dvd_lcm_left c d)
 ·exact Int.natCast_dvd_natCast.2 (Nat.dvd_lcm_right c d)
end Go.Fw
set_option linter.unusedSimpArgs false
set_option maxRecDepth 100000
namespace Go.Fw
section
variable {ρ : Type}
namespace laws_toIntS
def P (a : List Int) : Bool := decide (a.length < 1099511627776)
abbrev g (a : List Int) : List Int := a
end laws_toIntS
namespace laws_toIntS
def Z1 {ρ : Type} (N : Nat) (a : LI) (kn : LI → Option ρ) : Option ρ :=
 kn a
def Z3 {ρ : Type} (N : Nat) (a : LI) (kn : LI → LI → Option ρ) : Option ρ :=
 cond (lk N (leB 0 (a.length : Int) && decide ((a.length : Int) < 1099511627776))) (
  kn (List.replicate (a.length : Int).toNat (0 : Int)) a) none
def Z6 {ρ : Type} (N : Nat) (a b : LI) (kn : LI → LI → Int → Option ρ) : Option ρ :=
 kn a b 0
def Z9 {ρ : Type} (N : Nat) (c b : LI) (a : Int) (kn : LI → LI → Int → Option ρ) (k0 : LI → Option ρ) : Option ρ :=
 cond (lk N (decide (a < (b.length : Int))))
 (
  cond (lk N (inB a b.length)) (
   cond (lk N (inB a c.length)) (
    kn (c.set a.toNat (b.getD a.toNat 0)) b (w64 (a + 1))) none) none)
 (
  k0 c)
def Z8L {ρ : Type} (N : Nat) (k0 : LI → Option ρ) : Nat → LI → LI → Int → Option ρ
 | 0, _, _, _ => none
 | M + 1, a, b, c => Z9 N a b c (fun a b c => Z8L N k0 M a b c) k0
def Z8 N a b c k0 := (Z8L N k0 N a b c : Option ρ)
def Z7 N a b c kn := (Z8 N a b c kn : Option ρ)
def Z5 N a b kn := (Z6 N a b (fun a b c => Z7 N a b c kn) : Option ρ)
def Z10 {ρ : Type} (N : Nat) (a : LI) (kr : LI → Option ρ) : Option ρ :=
 kr a
def Z4 N a b kr := (Z5 N a b (fun a => Z10 N a kr) : Option ρ)
def Z2 N a kr := (Z3 N a (fun b a => Z4 N b a kr) : Option ρ)
def Z0 N a kr := (Z1 N a (fun a => Z2 N a kr) : Option ρ)
def Spec : Prop := ∀  (v0 : LI), Ty.bd (.sl 0 (.int .i64)) v0 → P v0 = true → ∃ N0, ∀ N, N0 ≤ N → Z0 N v0 (fun v2 => some ((), (v2, ()))) = some ((), ((g v0), ()))
theorem loop {ρ : Type} (N : Nat) (k0 : List Int → Option ρ) (a : List Int) (ha : a.length ≤ maxLen) : ∀ (M j : Nat) (out : List Int), out.length = a.length → out.take j = a.take j → j ≤ a.length → a.length - j < M →
  Z8L N k0 M out a (j : Int) = k0 a := by
 intro M
 induction M with
 | zero => intro j out _ _ _ h; omega
 | succ M ih =>
  intro j out ho ht hj hM
  simp only [Z8L, Z9]
  by_cases h : j < a.length
  ·rw [ct (dt (by omega)), ct (inB_nat h), ct (inB_nat (by omega)), Int.toNat_natCast, w64_succ (by omega)]
   refine ih (j + 1) _ (by simpa using ho) ?_ h (by omega)
   rw [take_set_s (by omega), ht, take_getD 0 h]
  ·rw [cf (df (by omega))]
   have : j = a.length := by omega
   subst this
   rw [List.take_of_length_le (by omega), List.take_length] at ht
   rw [ht]
theorem ok : Spec := fun a hb hp => ⟨a.length + 1, fun N hN => by
 have hl : a.length < 1099511627776 := by simpa [P] using hp
 simp only [Z1, Z3, Z6, Z9, Z8, Z7, Z5, Z10, Z4, Z2, Z0]
 rw [ct (by simp [leB]; omega)]
 exact loop _ _ a hb.1 _ 0 _ (by simp) (by simp) (by omega) (by omega)⟩
end laws_toIntS
end
end Go.Fw
namespace Go.Fw
theorem toInt_P (a : List Int) (h : (a.length : Int) ≤ 1048576) : laws_toIntS.P a = true := by
 unfold laws_toIntS.P
 exact dt (by omega)
end Go.Fw
namespace Go.Fw
section
variable {ρ : Type}
namespace laws_szIntS
def g (a : List Int) (left : Int) : Int := if w64 (left - a.length) < 0 then -1 else w64 (left - a.length)
end laws_szIntS
namespace laws_szIntS
def Z0 {ρ : Type} (N : Nat) (a : LI) (b : Int) (kr : Int → Option ρ) : Option ρ :=
 cond (lk N (decide ((w64 (b - (a.length : Int))) < 0)))
 (
  kr (-1))
 (
  kr (w64 (b - (a.length : Int))))
def Spec : Prop := ∀  (v0 : LI) (v1 : Int), Ty.bd (.sl 0 (.int .i64)) v0 → ∃ N0, ∀ N, N0 ≤ N → Z0 N v0 v1 (fun v4 => some ((), (v4, ()))) = some ((), ((g v0 v1), ()))
theorem ok : Spec := fun a left ha => ⟨0, fun N hN => by
 simp only [Z0, g]
 by_cases h : w64 (left - a.length) < 0
 ·rw [ct (dt h), if_pos h]
 ·rw [cf (df h), if_neg h]⟩
end laws_szIntS
end
end Go.Fw
namespace Go.Fw
theorem szInt_le (a : List Int) (left : Int) (hb : a.length ≤ maxLen) (h0 : 0 ≤ left) (h1 : left ≤ 1048576) (h : ¬ laws_szIntS.g a left < 0) : (a.length : Int) ≤ left ∧ laws_szIntS.g a left = left - a.length := by
 have hw : w64 (left - a.length) = left - a.length := w64_id (by rw [maxLen_val] at hb; omega) (by omega)
 unfold laws_szIntS.g at h ⊢
 rw [hw] at h ⊢
 by_cases hl : left - (a.length : Int) < 0
 ·rw [if_pos hl] at h; omega
 ·rw [if_neg hl]; omega
end Go.Fw
namespace Go.Fw
section
variable {ρ : Type}
namespace laws_szMatrix
def g (a : Int × Int × List Int) (left : Int) : Int := if laws_szIntS.g a.2.2 left < 0 then -1 else laws_szIntS.g a.2.2 left
end laws_szMatrix
namespace laws_szMatrix
def Z0 {ρ : Type} (N : Nat) (a : MT) (b : Int) (kr : Int → Option ρ) : Option ρ :=
 cond (lk N (decide ((laws_szIntS.g a.2.2 b) < 0)))
 (
  kr (-1))
 (
  kr (laws_szIntS.g a.2.2 b))
def Spec : Prop := ∀  (v0 : MT) (v1 : Int), Ty.bd (.pair (.int .i64) (.pair (.int .i64) (.sl 0 (.int .i64)))) v0 → ∃ N0, ∀ N, N0 ≤ N → Z0 N v0 v1 (fun v4 => some ((), (v4, ()))) = some ((), ((g v0 v1), ()))
theorem ok : Spec := fun a left ha => ⟨0, fun N hN => by
 simp only [Z0, g]
 by_cases h : laws_szIntS.g a.2.2 left < 0
 ·rw [ct (dt h), if_pos h]
 ·rw [cf (df h), if_neg h]⟩
end laws_szMatrix
end
end Go.Fw
namespace Go.Fw
section
variable {ρ : Type}
namespace laws_toMatrix
def P (a : Int × Int × List Int) : Bool := laws_toIntS.P a.2.2
abbrev g (a : Int × Int × List Int) : Int × Int × List Int := a
end laws_toMatrix
namespace laws_toMatrix
def Z0 {ρ : Type} (N : Nat) (a : MT) (kr : LI → I2 (Option ρ)) : Option ρ :=
 cond (lk N (laws_toIntS.P a.2.2)) (
  kr (laws_toIntS.g a.2.2) a.1 a.2.1) none
def Spec : Prop := ∀  (v0 : MT), Ty.bd (.pair (.int .i64) (.pair (.int .i64) (.sl 0 (.int .i64)))) v0 → P v0 = true → ∃ N0, ∀ N, N0 ≤ N → Z0 N v0 (fun v2_2 v2_0 v2_1 => some ((), ((v2_0, (v2_1, v2_2)), ()))) = some ((), ((g v0), ()))
theorem ok : Spec := fun a hb hp => ⟨0, fun N hN => by
 simp only [Z0]
 exact ct (show laws_toIntS.P a.2.2 = true from hp)⟩
end laws_toMatrix
end
end Go.Fw
namespace Go.Fw
theorem szMat_P (a : Int × Int × List Int) (hb : a.2.2.length ≤ maxLen) (h : ¬ laws_szMatrix.g a 1048576 < 0) : laws_toMatrix.P a = true ∧ a.2.2.length ≤ 1048576 := by
 have h' : ¬ laws_szIntS.g a.2.2 1048576 < 0 := by
  unfold laws_szMatrix.g at h
  by_cases e : laws_szIntS.g a.2.2 1048576 < 0
  ·rw [if_pos e] at h; omega
  ·exact e
 have := (szInt_le a.2.2 1048576 hb (by omega) (by omega) h').1
 exact ⟨toInt_P _ this, by omega⟩
end Go.Fw
namespace Go.Fw
section
variable {ρ : Type}
namespace spec_l1In
def g (n low high : Int) : Bool := inK n low high
end spec_l1In
namespace spec_l1In
def Z0 {ρ : Type} (N : Nat) (a b c : Int) (kr : Bool → Option ρ) : Option ρ :=
 cond (lk N (decide (b ≤ a)))
 (
  kr (lk N (decide (a ≤ c))))
 (
  kr false)
def Spec : Prop := ∀  (v0 v1 v2 : Int), ∃ N0, ∀ N, N0 ≤ N → Z0 N v0 v1 v2 (fun v6 => some ((), (v6, ()))) = some ((), ((g v0 v1 v2), ()))
theorem ok : Spec := fun n low high => ⟨0, fun N hN => by
 simp only [Z0, lk_eq, g, inK]
 cases decide (low ≤ n) <;> rfl⟩
end spec_l1In
end
end Go.Fw
namespace Go.Fw
section
variable {ρ : Type}
namespace spec_l1At
def P (m : Int × Int × List Int) (i j : Int) : Bool := atP m i j
def g (m : Int × Int × List Int) (i j : Int) : Int := atK m i j
end spec_l1At
namespace spec_l1At
def Z0 {ρ : Type} (N : Nat) (a : MT) (b c : Int) (kr : Int → Option ρ) : Option ρ :=
 cond (lk N (inB (w64 ((w64 (b * a.1)) + c)) a.2.2.length)) (
  kr (a.2.2.getD (w64 ((w64 (b * a.1)) + c)).toNat 0)) none
def Spec : Prop := ∀  (v0 : MT) (v1 v2 : Int), Ty.bd (.pair (.int .i64) (.pair (.int .i64) (.sl 0 (.int .i64)))) v0 → P v0 v1 v2 = true → ∃ N0, ∀ N, N0 ≤ N → Z0 N v0 v1 v2 (fun v6 => some ((), (v6, ()))) = some ((), ((g v0 v1 v2), ()))
theorem ok : Spec := fun m i j hb hp => ⟨0, fun N hN => by
 obtain ⟨h1, h2, h3⟩ := at_index hb.2.2.1 hp
 simp only [Z0, g, atK, h1]
 rw [ct (inB_int h2 h3)]⟩
end spec_l1At
end
end Go.Fw
namespace Go.Fw
section
variable {ρ : Type}
namespace spec_l1Sizes
def g (m : Int × Int × List Int) : Bool := sizesK m
end spec_l1Sizes
namespace spec_l1Sizes
def Z1 {ρ : Type} (N : Nat) (a : MT) (kn : I2 (LI → Option ρ)) : Option ρ :=
 kn a.1 a.2.1 a.2.2
def Z3 {ρ : Type} (N : Nat) (a b : Int) (c : LI) (kn : I2 (LI → Option ρ)) (kr : Bool → Option ρ) : Option ρ :=
 cond (!(lk N ((spec_l1In.g a 1 5))))
 (
  kr false)
 (
  cond (!(lk N ((spec_l1In.g b a 8))))
  (
   kr false)
  (
   cond (lk N (!(decide ((c.length : Int) = (w64 (a * b))))))
   (
    kr false)
   (
    kn a b c)))
def Z6 {ρ : Type} (N : Nat) (a b : Int) (c : LI) (kn : I3 (LI → Option ρ)) : Option ρ :=
 kn 0 a b c
def Z9 {ρ : Type} (N : Nat) (b c d : Int) (a : LI) (kn : I3 (LI → Option ρ)) (k0 : I2 (LI → Option ρ)) (kr : Bool → Option ρ) : Option ρ :=
 cond (lk N (decide (b < (a.length : Int))))
 (
  cond (lk N (inB b a.length)) (
   cond (!(lk N ((spec_l1In.g (a.getD b.toNat 0) (-99) 99))))
   (
    kr false)
   (
    kn (w64 (b + 1)) c d a)) none)
 (
  k0 c d a)
def Z8L {ρ : Type} (N : Nat) (k0 : I2 (LI → Option ρ)) (kr : Bool → Option ρ) : Nat → Int → Int → Int → LI → Option ρ
 | 0, _, _, _, _ => none
 | M + 1, a, b, c, d => Z9 N a b c d (fun a b c d => Z8L N k0 kr M a b c d) k0 kr
def Z8 N a b c d k0 kr := (Z8L N k0 kr N a b c d : Option ρ)
def Z7 N a b c d kn kr := (Z8 N a b c d kn kr : Option ρ)
def Z5 N a b c kn kr := (Z6 N a b c (fun d a b c => Z7 N d a b c kn kr) : Option ρ)
def Z12 {ρ : Type} (N : Nat) (a b : Int) (c : LI) (kn : I3 (LI → Option ρ)) : Option ρ :=
 kn 0 a b c
def Z16 {ρ : Type} (N : Nat) (a b c : Int) (d : LI) (kn : I3 (LI → Option ρ)) (k2 : Option ρ) : Option ρ :=
 cond (lk N (decide (a < b)))
 (
  kn a b c d)
 (
  k2)
def Z20 {ρ : Type} (N : Nat) (a b c : Int) (d : LI) (kn : I4 (LI → Option ρ)) : Option ρ :=
 kn a 0 b c d
def Z23 {ρ : Type} (N : Nat) (b c a d : Int) (e : LI) (kn : I4 (LI → Option ρ)) (k4 : I3 (LI → Option ρ)) (kr : Bool → Option ρ) : Option ρ :=
 cond (lk N (decide (c < a)))
 (
  cond (lk N (spec_l1At.P (a, (d, e)) b c)) (
   cond (lk N (spec_l1At.P (a, (d, e)) c b)) (
    cond (lk N (!(((lk N (decide (0 < (spec_l1At.g (a, (d, e)) b c)))) == (lk N (decide ((spec_l1At.g (a, (d, e)) c b) < 0)))))))
    (
     kr false)
    (
     cond (lk N (!(((lk N (decide ((spec_l1At.g (a, (d, e)) b c) = 0))) == (lk N (decide ((spec_l1At.g (a, (d, e)) c b) = 0)))))))
     (
      kr false)
     (
      kn b (w64 (c + 1)) a d e))) none) none)
 (
  k4 b a d e)
def Z22L {ρ : Type} (N : Nat) (k4 : I3 (LI → Option ρ)) (kr : Bool → Option ρ) : Nat → Int → Int → Int → Int → LI → Option ρ
 | 0, _, _, _, _, _ => none
 | M + 1, a, b, c, d, e => Z23 N a b c d e (fun a b c d e => Z22L N k4 kr M a b c d e) k4 kr
def Z22 N a b c d e k4 kr := (Z22L N k4 kr N a b c d e : Option ρ)
def Z21 N a b c d e kn kr := (Z22 N a b c d e kn kr : Option ρ)
def Z19 N a b c d kn kr := (Z20 N a b c d (fun a e b c d => Z21 N a e b c d kn kr) : Option ρ)
def Z18 N a b c d kn kr := (Z19 N a b c d kn kr : Option ρ)
def Z24 {ρ : Type} (N : Nat) (a b c : Int) (d : LI) (kn : I3 (LI → Option ρ)) : Option ρ :=
 kn (w64 (a + 1)) b c d
def Z17 N a b c d kn kr := (Z18 N a b c d (fun a b c d => Z24 N a b c d kn) kr : Option ρ)
def Z15 N a b c d kn k2 kr := (Z16 N a b c d (fun a b c d => Z17 N a b c d kn kr) k2 : Option ρ)
def Z14L {ρ : Type} (N : Nat) (k2 : Option ρ) (kr : Bool → Option ρ) : Nat → Int → Int → Int → LI → Option ρ
 | 0, _, _, _, _ => none
 | M + 1, a, b, c, d => Z15 N a b c d (fun a b c d => Z14L N k2 kr M a b c d) k2 kr
def Z14 N a b c d k2 kr := (Z14L N k2 kr N a b c d : Option ρ)
def Z13 N a b c d kn kr := (Z14 N a b c d kn kr : Option ρ)
def Z11 N a b c kn kr := (Z12 N a b c (fun d a b c => Z13 N d a b c kn kr) : Option ρ)
def Z25 {ρ : Type} (N : Nat)  (kr : Bool → Option ρ) : Option ρ :=
 kr true
def Z10 N a b c kr := (Z11 N a b c (Z25 N kr) kr : Option ρ)
def Z4 N a b c kr := (Z5 N a b c (fun a b c => Z10 N a b c kr) kr : Option ρ)
def Z2 N a b c kr := (Z3 N a b c (fun a b c => Z4 N a b c kr) kr : Option ρ)
def Z0 N a kr := (Z1 N a (fun b c d => Z2 N b c d kr) : Option ρ)
def Spec : Prop := ∀  (v0 : MT), Ty.bd (.pair (.int .i64) (.pair (.int .i64) (.sl 0 (.int .i64)))) v0 → ∃ N0, ∀ N, N0 ≤ N → Z0 N v0 (fun v2 => some ((), (v2, ()))) = some ((), ((g v0), ()))
section
variable {ρ : Type} {N : Nat} {m : Int × Int × List Int}
theorem at_g (hd : 0 ≤ m.1) (a b : Nat) : spec_l1At.g (m.1, (m.2.1, m.2.2)) (a : Int) (b : Int) = ent m a b := atK_nat hd a b
theorem at_p (hd : dimK m = true) {a b : Nat} (ha : a < m.1.toNat) (hb : b < m.1.toNat) : spec_l1At.P (m.1, (m.2.1, m.2.2)) (a : Int) (b : Int) = true := by
 obtain ⟨n, r, hn, hr, hn1, hn5, hnr, hr8, hl⟩ := dim_nat hd
 exact at_ok hd (by omega) hb
theorem loop1 (hl : m.2.2.length ≤ maxLen) (k0 : Int → Int → List Int → Option ρ) (kr : Bool → Option ρ) : ∀ (M j : Nat), j ≤ m.2.2.length → m.2.2.length - j < M →
  Z8L N k0 kr M (j : Int) m.1 m.2.1 m.2.2 = cond (entK (m.2.2.drop j)) (k0 m.1 m.2.1 m.2.2) (kr false) := by
 intro M
 induction M with
 | zero => intro j _ h; omega
 | succ M ih =>
  intro j hj hM
  simp only [Z8L, Z9]
  by_cases h : j < m.2.2.length
  ·rw [ct (dt (by omega)), ct (inB_nat h), Int.toNat_natCast, w64_succ (by omega), drop_getD 0 h, entK, List.all_cons, ih (j + 1) h (by omega)]
   simp only [lk_eq, spec_l1In.g]
   cases inK (m.2.2.getD j 0) (-99) 99 <;> rfl
  ·rw [cf (df (by omega)), List.drop_of_length_le (by omega)]; rfl
theorem loop3 (hd : dimK m = true) (k4 : Int → Int → Int → List Int → Option ρ) (kr : Bool → Option ρ) {i : Nat} (hi : i < m.1.toNat) : ∀ (M j : Nat), j ≤ m.1.toNat → m.1.toNat - j < M →
  Z22L N k4 kr M (i : Int) (j : Int) m.1 m.2.1 m.2.2 = cond (((List.range m.1.toNat).drop j).all fun j => signK (ent m i j) (ent m j i)) (k4 (i : Int) m.1 m.2.1 m.2.2) (kr false) := by
 obtain ⟨n, r, hn, hr, hn1, hn5, hnr, hr8, hl⟩ := dim_nat hd
 intro M
 induction M with
 | zero => intro j _ h; omega
 | succ M ih =>
  intro j hj hM
  simp only [Z22L, Z23]
  by_cases h : j < m.1.toNat
  ·rw [ct (dt (by omega)), ct (at_p hd hi h), ct (at_p hd h hi), range_drop h, List.all_cons, w64_succ (by rw [maxLen_val]; omega), ih (j + 1) h (by omega)]
   have hA : spec_l1At.g (m.1, (m.2.1, m.2.2)) (i : Int) (j : Int) = ent m i j := at_g (by omega) _ _
   have hB : spec_l1At.g (m.1, (m.2.1, m.2.2)) (j : Int) (i : Int) = ent m j i := at_g (by omega) _ _
   simp only [lk_eq, hA, hB, signK]
   cases (decide (0 < ent m i j) == decide (ent m j i < 0)) <;> cases (decide (ent m i j = 0) == decide (ent m j i = 0)) <;> rfl
  ·rw [cf (df (by omega)), List.drop_of_length_le (by simp; omega)]; rfl
theorem loop2 (hN : 10 ≤ N) (hd : dimK m = true) (k2 : Option ρ) (kr : Bool → Option ρ) : ∀ (M i : Nat), i ≤ m.1.toNat → m.1.toNat - i < M →
  Z14L N k2 kr M (i : Int) m.1 m.2.1 m.2.2 = cond (((List.range m.1.toNat).drop i).all fun i => (List.range m.1.toNat).all fun j => signK (ent m i j) (ent m j i)) k2 (kr false) := by
 obtain ⟨n, r, hn, hr, hn1, hn5, hnr, hr8, hl⟩ := dim_nat hd
 intro M
 induction M with
 | zero => intro i _ h; omega
 | succ M ih =>
  intro i hi hM
  simp only [Z14L, Z15, Z16]
  by_cases h : i < m.1.toNat
  ·rw [ct (dt (by omega))]
   simp only [Z17, Z18, Z19, Z20, Z21, Z22]
   have h3 := loop3 (ρ := ρ) (N := N) hd (fun a b c d => Z24 N a b c d (fun a b c d => Z14L N k2 kr M a b c d)) kr h N 0 (by omega) (by omega)
   rw [show ((0 : Nat) : Int) = 0 from rfl] at h3
   rw [h3, range_drop h, List.all_cons, List.drop_zero]
   simp only [Z24]
   rw [w64_succ (by rw [maxLen_val]; omega), ih (i + 1) h (by omega)]
   cases ((List.range m.1.toNat).all fun j => signK (ent m i j) (ent m j i)) <;> rfl
  ·rw [cf (df (by omega)), List.drop_of_length_le (by simp; omega)]; rfl
end
theorem ok : Spec := fun m hb => ⟨m.2.2.length + 10, fun N hN => by
 have hlen : m.2.2.length ≤ maxLen := hb.2.2.1
 simp only [Z0, Z1, Z2, Z3, spec_l1In.g, g, sizesK, shapedK]
 have main : dimK m = true → Z4 N m.1 m.2.1 m.2.2 (fun t => some ((), (t, ()))) = some ((), ((entK m.2.2 && (List.range m.1.toNat).all fun i => (List.range m.1.toNat).all fun j => signK (ent m i j) (ent m j i)), ())) := by
  intro hd
  obtain ⟨n, r, hn, hr, hn1, hn5, hnr, hr8, hl⟩ := dim_nat hd
  simp only [Z4, Z5, Z6, Z7, Z8]
  have h1 := loop1 (N := N) hlen (fun a b c => Z10 N a b c (fun t => some ((), (t, ())))) (fun t => some ((), (t, ()))) N 0 (by omega) (by omega)
  rw [show ((0 : Nat) : Int) = 0 from rfl] at h1
  rw [h1, List.drop_zero]
  simp only [Z10, Z11, Z12, Z13, Z14, Z25]
  have h2 := loop2 (N := N) (by omega) hd (some ((), (true, ()))) (fun t => some ((), (t, ()))) N 0 (by omega) (by omega)
  rw [show ((0 : Nat) : Int) = 0 from rfl] at h2
  rw [h2, List.drop_zero]
  cases entK m.2.2 <;> cases ((List.range m.1.toNat).all fun i => (List.range m.1.toNat).all fun j => signK (ent m i j) (ent m j i)) <;> rfl
 cases h1 : inK m.1 1 5
 ·rw [dimK, h1]; simp [lk_eq]
 cases h2 : inK m.2.1 m.1 8
 ·rw [dimK, h1, h2]; simp [lk_eq]
 have e1 := inK_iff.1 h1
 have e2 := inK_iff.1 h2
 have e3 : 0 ≤ m.1 * m.2.1 := Int.mul_nonneg (by omega) (by omega)
 have e4 : m.1 * m.2.1 ≤ 5 * 8 := Int.mul_le_mul (by omega) (by omega) (by omega) (by omega)
 rw [w64_id (by omega) (by omega)]
 by_cases h3 : (m.2.2.length : Int) = m.1 * m.2.1
 ·have hd : dimK m = true := by rw [dimK, h1, h2, dt h3]; rfl
  rw [cf' (by simp [lk_eq]), cf' (by simp [lk_eq]), cf (nf h3), main hd, hd]
  rfl
 ·have hd : dimK m = false := by rw [dimK, h1, h2, df h3]; rfl
  rw [cf' (by simp [lk_eq]), cf' (by simp [lk_eq]), ct (nt h3), hd]
  rfl⟩
end spec_l1Sizes
end
end Go.Fw
namespace Go.Fw
section
variable {ρ : Type}
namespace spec_l1Has
def g (l : List Int) (n : Int) : Bool := l.any fun x => decide (x = n)
end spec_l1Has
namespace spec_l1Has
def Z1 {ρ : Type} (N : Nat) (a : LI) (b : Int) (kn : LI → Int → Option ρ) : Option ρ :=
 kn a b
def Z4 {ρ : Type} (N : Nat) (a : LI) (b : Int) (kn : LI → I2 (Option ρ)) : Option ρ :=
 kn a b 0
def Z7 {ρ : Type} (N : Nat) (a : LI) (c b : Int) (kn : LI → I2 (Option ρ)) (k0 : Option ρ) (kr : Bool → Option ρ) : Option ρ :=
 cond (lk N (decide (b < (a.length : Int))))
 (
  cond (lk N (inB b a.length)) (
   cond (lk N (decide ((a.getD b.toNat 0) = c)))
   (
    kr true)
   (
    kn a c (w64 (b + 1)))) none)
 (
  k0)
def Z6L {ρ : Type} (N : Nat) (k0 : Option ρ) (kr : Bool → Option ρ) : Nat → LI → Int → Int → Option ρ
 | 0, _, _, _ => none
 | M + 1, a, b, c => Z7 N a b c (fun a b c => Z6L N k0 kr M a b c) k0 kr
def Z6 N a b c k0 kr := (Z6L N k0 kr N a b c : Option ρ)
def Z5 N a b c kn kr := (Z6 N a b c kn kr : Option ρ)
def Z3 N a b kn kr := (Z4 N a b (fun a b c => Z5 N a b c kn kr) : Option ρ)
def Z8 {ρ : Type} (N : Nat)  (kr : Bool → Option ρ) : Option ρ :=
 kr false
def Z2 N a b kr := (Z3 N a b (Z8 N kr) kr : Option ρ)
def Z0 N a b kr := (Z1 N a b (fun a b => Z2 N a b kr) : Option ρ)
def Spec : Prop := ∀  (v0 : LI) (v1 : Int), Ty.bd (.sl 0 (.int .i64)) v0 → ∃ N0, ∀ N, N0 ≤ N → Z0 N v0 v1 (fun v4 => some ((), (v4, ()))) = some ((), ((g v0 v1), ()))
theorem loop {ρ : Type} (N : Nat) (kr : Bool → Option ρ) (n : Int) (a : List Int) (ha : a.length ≤ maxLen) : ∀ (M j : Nat), j ≤ a.length → a.length - j < M →
  Z6L N (kr false) kr M a n (j : Int) = kr (g (a.drop j) n) := by
 intro M
 induction M with
 | zero => intro j _ h; omega
 | succ M ih =>
  intro j hj hM
  simp only [Z6L, Z7]
  by_cases h : j < a.length
  ·rw [ct (dt (by omega)), ct (inB_nat h), Int.toNat_natCast, w64_succ (by omega), ih (j + 1) h (by omega), drop_getD 0 h]
   simp only [g, List.any_cons, lk_eq]
   cases decide (a.getD j 0 = n) <;> rfl
  ·rw [cf (df (by omega)), List.drop_of_length_le (by omega)]; rfl
theorem ok : Spec := fun a n ha => ⟨a.length + 1, fun N hN => by
 simp only [Z1, Z4, Z7, Z6, Z5, Z3, Z8, Z2, Z0]
 exact (loop N (fun t => some ((), (t, ()))) n a ha.1 N 0 (by omega) (by omega)).trans rfl⟩
theorem g_iff {l : List Int} {n : Int} : g l n = true ↔ n ∈ l := by
 simp [g]
end spec_l1Has
end
end Go.Fw
namespace Go.Fw
section
variable {ρ : Type}
namespace spec_l1Piece
def P (m : Int × Int × List Int) (i : Int) : Bool := dimK m && (decide (0 ≤ i) && decide (i < m.1))
def g (m : Int × Int × List Int) (i : Int) : List Int × List Int := (ints (pieceK m i.toNat).1, ints (pieceK m i.toNat).2)
end spec_l1Piece
namespace spec_l1Piece
def Z1 {ρ : Type} (N : Nat) (a : MT) (b : Int) (kn : I3 (LI → Option ρ)) : Option ρ :=
 kn b a.1 a.2.1 a.2.2
def Z3 {ρ : Type} (N : Nat) (a b c : Int) (d : LI) (kn : LI → I3 (LI → Option ρ)) : Option ρ :=
 kn ([a] : List Int) a b c d
def Z5 {ρ : Type} (N : Nat) (a : LI) (b c d : Int) (e : LI) (kn : LI → LI → I2 (LI → Option ρ)) : Option ρ :=
 kn a ([b] : List Int) c d e
def Z8 {ρ : Type} (N : Nat) (a b : LI) (c d : Int) (e : LI) (kn : LI → LI → I3 (LI → Option ρ)) : Option ρ :=
 kn a b 0 c d e
def Z12 {ρ : Type} (N : Nat) (a b : LI) (c d e : Int) (f : LI) (kn : LI → LI → I3 (LI → Option ρ)) (k0 : LI → LI → Option ρ) : Option ρ :=
 cond (lk N (decide (c < (a.length : Int))))
 (
  kn a b c d e f)
 (
  k0 a b)
def Z16 {ρ : Type} (N : Nat) (a b : LI) (c d e : Int) (f : LI) (kn : LI → LI → I4 (LI → Option ρ)) : Option ρ :=
 kn a b c 0 d e f
def Z19 {ρ : Type} (N : Nat) (a h : LI) (c b d e : Int) (f : LI) (kn : LI → LI → I4 (LI → Option ρ)) (k2 : LI → LI → I3 (LI → Option ρ)) : Option ρ :=
 cond (lk N (decide (b < d)))
 (
  cond (lk N (inB c a.length)) (
   cond (lk N (spec_l1At.P (d, (e, f)) (a.getD c.toNat 0) b)) (
    cond (lk N (!(decide ((spec_l1At.g (d, (e, f)) (a.getD c.toNat 0) b) = 0))))
    (
     cond (!(lk N ((spec_l1Has.g a b))))
     (
      cond (lk N (Nat.blt (a.length + ([b] : List Int).length) 1099511627776)) (
       cond (lk N (inB c (a ++ ([b] : List Int)).length)) (
        cond (lk N (Nat.blt (h.length + ([((a ++ ([b] : List Int)).getD c.toNat 0)] : List Int).length) 1099511627776)) (
         kn (a ++ ([b] : List Int)) (h ++ ([((a ++ ([b] : List Int)).getD c.toNat 0)] : List Int)) c (w64 (b + 1)) d e f) none) none) none)
     (
      kn a h c (w64 (b + 1)) d e f))
    (
     kn a h c (w64 (b + 1)) d e f)) none) none)
 (
  k2 a h c d e f)
def Z18L {ρ : Type} (N : Nat) (k2 : LI → LI → I3 (LI → Option ρ)) : Nat → LI → LI → Int → Int → Int → Int → LI → Option ρ
 | 0, _, _, _, _, _, _, _ => none
 | M + 1, a, b, c, d, e, f, g => Z19 N a b c d e f g (fun a b c d e f g => Z18L N k2 M a b c d e f g) k2
def Z18 N a b c d e f g k2 := (Z18L N k2 N a b c d e f g : Option ρ)
def Z17 N a b c d e f g kn := (Z18 N a b c d e f g kn : Option ρ)
def Z15 N a b c d e f kn := (Z16 N a b c d e f (fun a b c g d e f => Z17 N a b c g d e f kn) : Option ρ)
def Z14 N a b c d e f kn := (Z15 N a b c d e f kn : Option ρ)
def Z20 {ρ : Type} (N : Nat) (a b : LI) (c d e : Int) (f : LI) (kn : LI → LI → I3 (LI → Option ρ)) : Option ρ :=
 kn a b (w64 (c + 1)) d e f
def Z13 N a b c d e f kn := (Z14 N a b c d e f (fun a b c d e f => Z20 N a b c d e f kn) : Option ρ)
def Z11 N a b c d e f kn k0 := (Z12 N a b c d e f (fun a b c d e f => Z13 N a b c d e f kn) k0 : Option ρ)
def Z10L {ρ : Type} (N : Nat) (k0 : LI → LI → Option ρ) : Nat → LI → LI → Int → Int → Int → LI → Option ρ
 | 0, _, _, _, _, _, _ => none
 | M + 1, a, b, c, d, e, f => Z11 N a b c d e f (fun a b c d e f => Z10L N k0 M a b c d e f) k0
def Z10 N a b c d e f k0 := (Z10L N k0 N a b c d e f : Option ρ)
def Z9 N a b c d e f kn := (Z10 N a b c d e f kn : Option ρ)
def Z7 N a b c d e kn := (Z8 N a b c d e (fun a b f c d e => Z9 N a b f c d e kn) : Option ρ)
def Z21 {ρ : Type} (N : Nat) (a b : LI) (kr : LI → LI → Option ρ) : Option ρ :=
 kr a b
def Z6 N a b c d e kr := (Z7 N a b c d e (fun a b => Z21 N a b kr) : Option ρ)
def Z4 N a e b c d kr := (Z5 N a e b c d (fun a f b c d => Z6 N a f b c d kr) : Option ρ)
def Z2 N a b c d kr := (Z3 N a b c d (fun e a b c d => Z4 N e a b c d kr) : Option ρ)
def Z0 N b a kr := (Z1 N b a (fun a c d e => Z2 N a c d e kr) : Option ρ)
def Spec : Prop := ∀  (v0 : MT) (v1 : Int), Ty.bd (.pair (.int .i64) (.pair (.int .i64) (.sl 0 (.int .i64)))) v0 → P v0 v1 = true → ∃ N0, ∀ N, N0 ≤ N → Z0 N v0 v1 (fun v4 v5 => some ((), (v4, (v5, ())))) = some ((), ((g v0 v1).1, ((g v0 v1).2, ())))
theorem inner {ρ : Type} (N : Nat) (k2 : List Int → List Int → Int → Int → Int → List Int → Option ρ) (m : Int × Int × List Int) (hd : dimK m = true) (i p : Nat) : ∀ (M j : Nat) (s : List Nat × List Nat), PInv m.1.toNat (ent m) i s → p < s.1.length → j ≤ m.1.toNat → m.1.toNat - j < M →
  Z18L N k2 M (ints s.1) (ints s.2) (p : Int) (j : Int) m.1 m.2.1 m.2.2 =
   k2 (ints (pIn (ent m) (s.1.getD p 0) ((List.range m.1.toNat).drop j) s).1) (ints (pIn (ent m) (s.1.getD p 0) ((List.range m.1.toNat).drop j) s).2) (p : Int) m.1 m.2.1 m.2.2 := by
 obtain ⟨n, r, hn, hr, hn1, hn5, hnr, hr8, hl⟩ := dim_nat hd
 intro M
 induction M with
 | zero => intro j s _ _ _ h; omega
 | succ M ih =>
  intro j s hs hp hj hM
  have hle := hs.le
  have hlen := hs.len
  simp only [Z18L, Z19]
  by_cases h : j < m.1.toNat
  ·have hx : s.1.getD p 0 < m.1.toNat := hs.lt _ (getD_mem 0 hp)
   have h1 : Nat.blt ((ints s.1).length + ([(j : Int)]).length) 1099511627776 = true := by
    simp [ints_len, Nat.blt_eq]; omega
   have h2 : Nat.blt ((ints s.2).length + ([((ints (s.1 ++ [j])).getD (p : Int).toNat 0)]).length) 1099511627776 = true := by
    simp [ints_len, Nat.blt_eq]; omega
   rw [ct (dt (by omega)), ct (inB_nat (by rw [ints_len]; exact hp)), range_drop h, pIn]
   simp only [Int.toNat_natCast, ints_getD]
   rw [ct (show spec_l1At.P (m.1, (m.2.1, m.2.2)) _ _ = true from at_ok hd (by omega) h), w64_succ (by rw [maxLen_val]; omega)]
   have hA : spec_l1At.g (m.1, (m.2.1, m.2.2)) ((s.1.getD p 0 : Nat) : Int) (j : Int) = ent m (s.1.getD p 0) j := atK_nat (by omega) _ _
   by_cases ha : ent m (s.1.getD p 0) j = 0
   ·rw [cf (nf (hA.trans ha)), if_neg (fun hc => hc.1 ha)]
    exact ih (j + 1) s hs hp h (by omega)
   ·rw [ct (nt (fun hc => ha (hA.symm.trans hc)))]
    by_cases hm : j ∈ s.1
    ·rw [cf' (by rw [lk_eq, spec_l1Has.g_iff.2 (mem_ints.2 hm)]; rfl), if_neg (fun hc => hc.2 hm)]
     exact ih (j + 1) s hs hp h (by omega)
    ·have hf : spec_l1Has.g (ints s.1) (j : Int) = false := by
      cases hc : spec_l1Has.g (ints s.1) (j : Int)
      ·rfl
      ·exact absurd (mem_ints.1 (spec_l1Has.g_iff.1 hc)) hm
     rw [ct' (by rw [lk_eq, hf]; rfl), ct h1, ints_append, ct (inB_nat (by rw [ints_len]; simp; omega)), if_pos ⟨ha, hm⟩]
     have e : (s.1 ++ [j]).getD p 0 = s.1.getD p 0 := getD_append_lt hp
     rw [ints_getD, e, ints_append]
     rw [ints_getD, Int.toNat_natCast, e] at h2
     rw [ct h2]
     have := ih (j + 1) (s.1 ++ [j], s.2 ++ [s.1.getD p 0]) (hs.step hp h ⟨ha, hm⟩) (by simp; omega) h (by omega)
     simp only [e] at this
     exact this
  ·rw [cf (df (by omega)), List.drop_of_length_le (by simp; omega), pIn]
theorem loop {ρ : Type} (N : Nat) (hN : 10 ≤ N) (k0 : List Int → List Int → Option ρ) (m : Int × Int × List Int) (hd : dimK m = true) (i : Nat) : ∀ (M p : Nat) (s : List Nat × List Nat), PInv m.1.toNat (ent m) i s → p ≤ m.1.toNat → m.1.toNat - p < M →
  Z10L N k0 M (ints s.1) (ints s.2) (p : Int) m.1 m.2.1 m.2.2 = k0 (ints (pGo (ent m) m.1.toNat (m.1.toNat - p) p s).1) (ints (pGo (ent m) m.1.toNat (m.1.toNat - p) p s).2) := by
 obtain ⟨n, r, hn, hr, hn1, hn5, hnr, hr8, hl⟩ := dim_nat hd
 intro M
 induction M with
 | zero => intro p s _ _ h; omega
 | succ M ih =>
  intro p s hs hp hM
  have hle := hs.le
  simp only [Z10L, Z11, Z12]
  by_cases h : p < s.1.length
  ·rw [ct (dt (by rw [ints_len]; omega))]
   simp only [Z13, Z14, Z15, Z16, Z17, Z18, Z20]
   have hin := inner (ρ := ρ) N (fun a b c d e f => Z10L N k0 M a b (w64 (c + 1)) d e f) m hd i p N 0 s hs h (by omega) (by omega)
   rw [show ((0 : Nat) : Int) = 0 from rfl] at hin
   rw [hin, w64_succ (by rw [maxLen_val]; omega), List.drop_zero]
   obtain ⟨h1, h2, h3⟩ := pIn_inv (p := p) (List.range m.1.toNat) s hs h (fun x hx => List.mem_range.1 hx)
   rw [ih (p + 1) _ h1 (by omega) (by omega), show m.1.toNat - p = (m.1.toNat - (p + 1)) + 1 by omega, pGo, if_pos h]
  ·rw [cf (df (by rw [ints_len]; omega))]
   cases hc : m.1.toNat - p with
   | zero => rfl
   | succ f => rw [pGo, if_neg h]
theorem ok : Spec := fun m i hb hp => ⟨10, fun N hN => by
 simp only [P, Bool.and_eq_true, decide_eq_true_eq] at hp
 obtain ⟨hd, h0, h1⟩ := hp
 obtain ⟨x, rfl⟩ := Int.eq_ofNat_of_zero_le h0
 obtain ⟨n, r, hn, hr, hn1, hn5, hnr, hr8, hl⟩ := dim_nat hd
 simp only [Z0, Z1, Z2, Z3, Z4, Z5, Z6, Z7, Z8, Z9, Z10, Z21]
 have := loop (ρ := Unit × List Int × List Int × Unit) N hN (fun a b => some ((), (a, (b, ())))) m hd x N 0 ([x], [x]) (PInv.first (by omega)) (by omega) (by omega)
 exact this⟩
end spec_l1Piece
end
end Go.Fw
namespace Go.Fw
section
variable {ρ : Type}
namespace spec_l1Abs
def g (n : Int) : Int := mx n (w64 (0 - n))
end spec_l1Abs
namespace spec_l1Abs
def Z0 {ρ : Type} (N : Nat) (a : Int) (kr : Int → Option ρ) : Option ρ :=
 kr (mx a (w64 (0 - a)))
def Spec : Prop := ∀  (v0 : Int), ∃ N0, ∀ N, N0 ≤ N → Z0 N v0 (fun v2 => some ((), (v2, ()))) = some ((), ((g v0), ()))
theorem ok : Spec := fun n => ⟨0, fun N hN => by
 simp only [Z0, g]⟩
end spec_l1Abs
end
end Go.Fw
namespace Go.Fw
section
variable {ρ : Type}
namespace spec_l1Gcd
def P (a b : Int) : Bool := decide (0 ≤ a) && (decide (a < 9223372036854775808) && (decide (0 ≤ b) && decide (b < 9223372036854775808)))
def g (a b : Int) : Int := (Int.gcd a b : Int)
end spec_l1Gcd
namespace spec_l1Gcd
def Z1 {ρ : Type} (N : Nat) (a b : Int) (kn : I2 (Option ρ)) : Option ρ :=
 kn a b
def Z5 {ρ : Type} (N : Nat) (b a : Int) (kn : I2 (Option ρ)) (k0 : Int → Option ρ) : Option ρ :=
 cond (lk N (!(decide (a = 0))))
 (
  cond (lk N (!(decide (a = 0)))) (
   kn a (Int.tmod b a)) none)
 (
  k0 b)
def Z4L {ρ : Type} (N : Nat) (k0 : Int → Option ρ) : Nat → Int → Int → Option ρ
 | 0, _, _ => none
 | M + 1, a, b => Z5 N a b (fun a b => Z4L N k0 M a b) k0
def Z4 N a b k0 := (Z4L N k0 N a b : Option ρ)
def Z3 N a b kn := (Z4 N a b kn : Option ρ)
def Z6 {ρ : Type} (N : Nat) (a : Int) (kr : Int → Option ρ) : Option ρ :=
 kr a
def Z2 N a b kr := (Z3 N a b (fun a => Z6 N a kr) : Option ρ)
def Z0 N a b kr := (Z1 N a b (fun a b => Z2 N a b kr) : Option ρ)
def Spec : Prop := ∀  (v0 v1 : Int), P v0 v1 = true → ∃ N0, ∀ N, N0 ≤ N → Z0 N v0 v1 (fun v4 => some ((), (v4, ()))) = some ((), ((g v0 v1), ()))
theorem loop {ρ : Type} (N : Nat) (k0 : Int → Option ρ) : ∀ (M : Nat) (a b : Nat), b < M → Z4L N k0 M (a : Int) (b : Int) = k0 (Nat.gcd b a : Nat) := by
 intro M
 induction M with
 | zero => intro a b h; omega
 | succ M ih =>
  intro a b hM
  simp only [Z4L, Z5]
  by_cases h : b = 0
  ·subst h
   rw [cf (by simp), Nat.gcd_zero_left]
  ·rw [ct (nt (by omega)), ct (nt (by omega)), show Int.tmod (a : Int) (b : Int) = ((a % b : Nat) : Int) from rfl, ih _ _ (by have := Nat.mod_lt a (Nat.pos_of_ne_zero h); omega), ← Nat.gcd_rec]
theorem ok : Spec := fun a b hp => ⟨b.toNat + 1, fun N hN => by
 simp only [P, Bool.and_eq_true, decide_eq_true_eq] at hp
 obtain ⟨h1, h2, h3, h4⟩ := hp
 obtain ⟨x, rfl⟩ := Int.eq_ofNat_of_zero_le h1
 obtain ⟨y, rfl⟩ := Int.eq_ofNat_of_zero_le h3
 simp only [Z1, Z5, Z4, Z3, Z6, Z2, Z0, g]
 rw [loop N _ N x y (by omega), Nat.gcd_comm]
 rfl⟩
end spec_l1Gcd
end
end Go.Fw
namespace Go.Fw
section
variable {ρ : Type}
namespace spec_l1Factors
def P (m : Int × Int × List Int) : Bool := sizesK m
def g (m : Int × Int × List Int) : List Int × Bool := (facK m, !decide (facK m = []))
end spec_l1Factors
namespace spec_l1Factors
def Z1 {ρ : Type} (N : Nat) (a : MT) (kn : I2 (LI → Option ρ)) : Option ρ :=
 kn a.1 a.2.1 a.2.2
def Z3 {ρ : Type} (N : Nat) (a b : Int) (c : LI) (kn : LI → I2 (LI → Option ρ)) : Option ρ :=
 cond (lk N (leB 0 a && decide (a < 1099511627776))) (
  kn (List.replicate a.toNat (0 : Int)) a b c) none
def Z6 {ρ : Type} (N : Nat) (a : LI) (b c : Int) (d : LI) (kn : LI → I3 (LI → Option ρ)) : Option ρ :=
 kn a 0 b c d
def Z10 {ρ : Type} (N : Nat) (b : LI) (c a d : Int) (e : LI) (kn : LI → I3 (LI → Option ρ)) (k0 : LI → I2 (LI → Option ρ)) : Option ρ :=
 cond (lk N (decide (c < a)))
 (
  kn b c a d e)
 (
  k0 b a d e)
def Z14 {ρ : Type} (N : Nat) (a : LI) (b c d : Int) (e : LI) (kn k1 : LI → I3 (LI → Option ρ)) : Option ρ :=
 cond (lk N (inB b a.length)) (
  cond (lk N (decide (0 < (a.getD b.toNat 0))))
  (
   k1 a b c d e)
  (
   kn a b c d e)) none
def Z16 {ρ : Type} (N : Nat) (e : LI) (a b c : Int) (d : LI) (kn : LI → LI → LI → I3 (LI → Option ρ)) : Option ρ :=
 cond (lk N (spec_l1Piece.P (b, (c, d)) a)) (
  kn e (spec_l1Piece.g (b, (c, d)) a).1 (spec_l1Piece.g (b, (c, d)) a).2 a b c d) none
def Z18 {ρ : Type} (N : Nat) (b c d : LI) (a e f : Int) (g : LI) (kn : LI → LI → LI → I3 (LI → Option ρ)) : Option ρ :=
 cond (lk N (inB a b.length)) (
  kn (b.set a.toNat 1) c d a e f g) none
def Z21 {ρ : Type} (N : Nat) (a b c : LI) (d e f : Int) (g : LI) (kn : LI → LI → LI → I4 (LI → Option ρ)) : Option ρ :=
 kn a b c d 1 e f g
def Z24 {ρ : Type} (N : Nat) (d b e : LI) (c a f h : Int) (i : LI) (kn : LI → LI → LI → I4 (LI → Option ρ)) (k2 : LI → LI → LI → I3 (LI → Option ρ)) : Option ρ :=
 cond (lk N (decide (a < (b.length : Int))))
 (
  cond (lk N (inB c d.length)) (
   cond (lk N (inB a b.length)) (
    cond (lk N (inB a e.length)) (
     cond (lk N (spec_l1At.P (f, (h, i)) (b.getD a.toNat 0) (e.getD a.toNat 0))) (
      cond (lk N (inB c d.length)) (
       kn (d.set c.toNat (w64 ((d.getD c.toNat 0) * (spec_l1Abs.g (spec_l1At.g (f, (h, i)) (b.getD a.toNat 0) (e.getD a.toNat 0)))))) b e c (w64 (a + 1)) f h i) none) none) none) none) none)
 (
  k2 d b e c f h i)
def Z23L {ρ : Type} (N : Nat) (k2 : LI → LI → LI → I3 (LI → Option ρ)) : Nat → LI → LI → LI → Int → Int → Int → Int → LI → Option ρ
 | 0, _, _, _, _, _, _, _, _ => none
 | M + 1, a, b, c, d, e, f, g, h => Z24 N a b c d e f g h (fun a b c d e f g h => Z23L N k2 M a b c d e f g h) k2
def Z23 N a b c d e f g h k2 := (Z23L N k2 N a b c d e f g h : Option ρ)
def Z22 N a b c d e f g h kn := (Z23 N a b c d e f g h kn : Option ρ)
def Z20 N a b c d e f g kn := (Z21 N a b c d e f g (fun a b c d h e f g => Z22 N a b c d h e f g kn) : Option ρ)
def Z26 {ρ : Type} (N : Nat) (a c d : LI) (b e f : Int) (g : LI) (kn : LI → LI → LI → I4 (LI → Option ρ)) : Option ρ :=
 cond (lk N (inB b a.length)) (
  kn a c d b (a.getD b.toNat 0) e f g) none
def Z29 {ρ : Type} (N : Nat) (a b c : LI) (d e f g : Int) (h : LI) (kn : LI → LI → LI → I5 (LI → Option ρ)) : Option ρ :=
 kn a b c d e 1 f g h
def Z32 {ρ : Type} (N : Nat) (h b c : LI) (j i a d e : Int) (f : LI) (kn : LI → LI → LI → I5 (LI → Option ρ)) (k4 : LI → LI → I4 (LI → Option ρ)) : Option ρ :=
 let x1_ := (spec_l1Abs.g (spec_l1At.g (d, (e, f)) (b.getD a.toNat 0) (c.getD a.toNat 0)))
 let x2_ := (lk N (inB a b.length))
 let x0_ := (h.set (b.getD a.toNat 0).toNat (w64 (Int.tdiv (w64 ((h.getD (c.getD a.toNat 0).toNat 0) * (spec_l1Abs.g (spec_l1At.g (d, (e, f)) (c.getD a.toNat 0) (b.getD a.toNat 0))))) x1_)))
 cond (lk N (decide (a < (b.length : Int))))
 (
 cond x2_ (
 cond (lk N (inB a c.length)) (
 cond (lk N (inB (c.getD a.toNat 0) h.length)) (
 cond (lk N (inB a c.length)) (
 cond x2_ (
 cond x2_ (
 cond (lk N (inB a c.length)) (
 cond (lk N (spec_l1At.P (d, (e, f)) (c.getD a.toNat 0) (b.getD a.toNat 0))) (
 cond (lk N (spec_l1At.P (d, (e, f)) (b.getD a.toNat 0) (c.getD a.toNat 0))) (
 cond (lk N (!(decide (x1_ = 0)))) (
 cond (lk N (inB (b.getD a.toNat 0) h.length)) (
 cond x2_ (
 cond (lk N (inB (b.getD a.toNat 0) x0_.length)) (
 cond (lk N (spec_l1Gcd.P i (x0_.getD (b.getD a.toNat 0).toNat 0))) (
 kn x0_ b c j (spec_l1Gcd.g i (x0_.getD (b.getD a.toNat 0).toNat 0)) (w64 (a + 1)) d e f) none) none) none) none) none) none) none) none) none) none) none) none) none) none)
 (
 k4 h b j i d e f)
def Z31L {ρ : Type} (N : Nat) (k4 : LI → LI → I4 (LI → Option ρ)) : Nat → LI → LI → LI → Int → Int → Int → Int → Int → LI → Option ρ
 | 0, _, _, _, _, _, _, _, _, _ => none
 | M + 1, a, b, c, d, e, f, g, h, i => Z32 N a b c d e f g h i (fun a b c d e f g h i => Z31L N k4 M a b c d e f g h i) k4
def Z31 N a b c d e f g h i k4 := (Z31L N k4 N a b c d e f g h i : Option ρ)
def Z30 N a b c d e f g h i kn := (Z31 N a b c d e f g h i kn : Option ρ)
def Z28 N a b c d e f g h kn := (Z29 N a b c d e f g h (fun a b c d e i f g h => Z30 N a b c d e i f g h kn) : Option ρ)
def Z34 {ρ : Type} (N : Nat) (a b : LI) (c d e f : Int) (g : LI) (kn : LI → LI → I5 (LI → Option ρ)) : Option ρ :=
 kn a b c d 0 e f g
def Z37 {ρ : Type} (N : Nat) (c a : LI) (e d b f g : Int) (h : LI) (kn : LI → LI → I5 (LI → Option ρ)) (k6 : LI → I3 (LI → Option ρ)) : Option ρ :=
 cond (lk N (decide (b < (a.length : Int))))
 (
  cond (lk N (inB b a.length)) (
   cond (lk N (inB b a.length)) (
    cond (lk N (inB (a.getD b.toNat 0) c.length)) (
     cond (lk N (!(decide (d = 0)))) (
      cond (lk N (inB (a.getD b.toNat 0) c.length)) (
       kn (c.set (a.getD b.toNat 0).toNat (w64 (Int.tdiv (c.getD (a.getD b.toNat 0).toNat 0) d))) a e d (w64 (b + 1)) f g h) none) none) none) none) none)
 (
  k6 c e f g h)
def Z36L {ρ : Type} (N : Nat) (k6 : LI → I3 (LI → Option ρ)) : Nat → LI → LI → Int → Int → Int → Int → Int → LI → Option ρ
 | 0, _, _, _, _, _, _, _, _ => none
 | M + 1, a, b, c, d, e, f, g, h => Z37 N a b c d e f g h (fun a b c d e f g h => Z36L N k6 M a b c d e f g h) k6
def Z36 N a b c d e f g h k6 := (Z36L N k6 N a b c d e f g h : Option ρ)
def Z35 N a b c d e f g h kn := (Z36 N a b c d e f g h kn : Option ρ)
def Z33 N a b c d e f g kn := (Z34 N a b c d e f g (fun a b c d h e f g => Z35 N a b c d h e f g kn) : Option ρ)
def Z27 N a b h c d e f g kn := (Z28 N a b h c d e f g (fun a b c d e f g => Z33 N a b c d e f g kn) : Option ρ)
def Z25 N a b c d e f g kn := (Z26 N a b c d e f g (fun a b c d h e f g => Z27 N a b c d h e f g kn) : Option ρ)
def Z19 N a b c d e f g kn := (Z20 N a b c d e f g (fun a b c d e f g => Z25 N a b c d e f g kn) : Option ρ)
def Z17 N a b c d e f g kn := (Z18 N a b c d e f g (fun a b c d e f g => Z19 N a b c d e f g kn) : Option ρ)
def Z15 N a b c d e kn := (Z16 N a b c d e (fun a f g b c d e => Z17 N a f g b c d e kn) : Option ρ)
def Z13 N a b c d e kn k1 := (Z14 N a b c d e (fun a b c d e => Z15 N a b c d e kn) k1 : Option ρ)
def Z12 N a b c d e kn := (Z13 N a b c d e kn kn : Option ρ)
def Z38 {ρ : Type} (N : Nat) (a : LI) (b c d : Int) (e : LI) (kn : LI → I3 (LI → Option ρ)) : Option ρ :=
 kn a (w64 (b + 1)) c d e
def Z11 N a b c d e kn := (Z12 N a b c d e (fun a b c d e => Z38 N a b c d e kn) : Option ρ)
def Z9 N a b c d e kn k0 := (Z10 N a b c d e (fun a b c d e => Z11 N a b c d e kn) k0 : Option ρ)
def Z8L {ρ : Type} (N : Nat) (k0 : LI → I2 (LI → Option ρ)) : Nat → LI → Int → Int → Int → LI → Option ρ
 | 0, _, _, _, _, _ => none
 | M + 1, a, b, c, d, e => Z9 N a b c d e (fun a b c d e => Z8L N k0 M a b c d e) k0
def Z8 N a b c d e k0 := (Z8L N k0 N a b c d e : Option ρ)
def Z7 N a b c d e kn := (Z8 N a b c d e kn : Option ρ)
def Z5 N a b c d kn := (Z6 N a b c d (fun a e b c d => Z7 N a e b c d kn) : Option ρ)
def Z41 {ρ : Type} (N : Nat) (a : LI) (b c : Int) (d : LI) (kn : LI → I3 (LI → Option ρ)) : Option ρ :=
 kn a 0 b c d
def Z45 {ρ : Type} (N : Nat) (a : LI) (b c d : Int) (e : LI) (kn : LI → I3 (LI → Option ρ)) (k8 : LI → Option ρ) : Option ρ :=
 cond (lk N (decide (b < c)))
 (
  kn a b c d e)
 (
  k8 a)
def Z49 {ρ : Type} (N : Nat) (a : LI) (b c d : Int) (e : LI) (kn : LI → I4 (LI → Option ρ)) : Option ρ :=
 kn a b 0 c d e
def Z52 {ρ : Type} (N : Nat) (d : LI) (a b c e : Int) (f : LI) (kn : LI → I4 (LI → Option ρ)) (k10 : LI → I3 (LI → Option ρ)) (kr : LI → Bool → Option ρ) : Option ρ :=
 cond (lk N (decide (b < c)))
 (
  cond (lk N (inB a d.length)) (
   cond (lk N (inB b d.length)) (
    cond (lk N (spec_l1At.P (c, (e, f)) a b)) (
     cond (lk N (spec_l1At.P (c, (e, f)) b a)) (
      cond (lk N (!(decide ((w64 ((d.getD a.toNat 0) * (spec_l1At.g (c, (e, f)) a b))) = (w64 (0 - (w64 ((d.getD b.toNat 0) * (spec_l1At.g (c, (e, f)) b a)))))))))
      (
       kr ([] : List Int) false)
      (
       kn d a (w64 (b + 1)) c e f)) none) none) none) none)
 (
  k10 d a c e f)
def Z51L {ρ : Type} (N : Nat) (k10 : LI → I3 (LI → Option ρ)) (kr : LI → Bool → Option ρ) : Nat → LI → Int → Int → Int → Int → LI → Option ρ
 | 0, _, _, _, _, _, _ => none
 | M + 1, a, b, c, d, e, f => Z52 N a b c d e f (fun a b c d e f => Z51L N k10 kr M a b c d e f) k10 kr
def Z51 N a b c d e f k10 kr := (Z51L N k10 kr N a b c d e f : Option ρ)
def Z50 N a b c d e f kn kr := (Z51 N a b c d e f kn kr : Option ρ)
def Z48 N a b c d e kn kr := (Z49 N a b c d e (fun a b f c d e => Z50 N a b f c d e kn kr) : Option ρ)
def Z47 N a b c d e kn kr := (Z48 N a b c d e kn kr : Option ρ)
def Z53 {ρ : Type} (N : Nat) (a : LI) (b c d : Int) (e : LI) (kn : LI → I3 (LI → Option ρ)) : Option ρ :=
 kn a (w64 (b + 1)) c d e
def Z46 N a b c d e kn kr := (Z47 N a b c d e (fun a b c d e => Z53 N a b c d e kn) kr : Option ρ)
def Z44 N a b c d e kn k8 kr := (Z45 N a b c d e (fun a b c d e => Z46 N a b c d e kn kr) k8 : Option ρ)
def Z43L {ρ : Type} (N : Nat) (k8 : LI → Option ρ) (kr : LI → Bool → Option ρ) : Nat → LI → Int → Int → Int → LI → Option ρ
 | 0, _, _, _, _, _ => none
 | M + 1, a, b, c, d, e => Z44 N a b c d e (fun a b c d e => Z43L N k8 kr M a b c d e) k8 kr
def Z43 N a b c d e k8 kr := (Z43L N k8 kr N a b c d e : Option ρ)
def Z42 N a b c d e kn kr := (Z43 N a b c d e kn kr : Option ρ)
def Z40 N a b c d kn kr := (Z41 N a b c d (fun a e b c d => Z42 N a e b c d kn kr) : Option ρ)
def Z54 {ρ : Type} (N : Nat) (a : LI) (kr : LI → Bool → Option ρ) : Option ρ :=
 kr a true
def Z39 N a b c d kr := (Z40 N a b c d (fun a => Z54 N a kr) kr : Option ρ)
def Z4 N a b c d kr := (Z5 N a b c d (fun a b c d => Z39 N a b c d kr) : Option ρ)
def Z2 N a b c kr := (Z3 N a b c (fun d a b c => Z4 N d a b c kr) : Option ρ)
def Z0 N a kr := (Z1 N a (fun b c d => Z2 N b c d kr) : Option ρ)
def Spec : Prop := ∀  (v0 : MT), Ty.bd (.pair (.int .i64) (.pair (.int .i64) (.sl 0 (.int .i64)))) v0 → P v0 = true → ∃ N0, ∀ N, N0 ≤ N → Z0 N v0 (fun v2 v3 => some ((), (v2, (v3, ())))) = some ((), ((g v0).1, ((g v0).2, ())))
theorem abs_eq {a : Int} (h : -99 ≤ a ∧ a ≤ 99) : spec_l1Abs.g a = absK a := by
 unfold spec_l1Abs.g
 rw [w64_id (by omega) (by omega), mx_eq]
 unfold absK
 omega
section
variable {ρ : Type} {N : Nat} {m : Int × Int × List Int} {s : List Nat × List Nat} {i : Nat}
theorem at_g (hd : 0 ≤ m.1) (a b : Nat) : spec_l1At.g (m.1, (m.2.1, m.2.2)) (a : Int) (b : Int) = ent m a b := atK_nat hd a b
theorem at_p (hd : dimK m = true) {a b : Nat} (ha : a < m.1.toNat) (hb : b < m.1.toNat) : spec_l1At.P (m.1, (m.2.1, m.2.2)) (a : Int) (b : Int) = true := by
 obtain ⟨n, r, hn, hr, hn1, hn5, hnr, hr8, hl⟩ := dim_nat hd
 exact at_ok hd (by omega) hb
theorem loop1 (hs : sizesK m = true) (h : PInv m.1.toNat (ent m) i s) (hi : i < m.1.toNat) (k2 : List Int → List Int → List Int → Int → Int → Int → List Int → Option ρ) (d0 : List Int) (hd0 : d0.length = m.1.toNat) : ∀ (M k : Nat), 1 ≤ k → k ≤ s.1.length → s.1.length - k < M →
  Z23L N k2 M (d0.set i (prodK (qK m s) k)) (ints s.1) (ints s.2) (i : Int) (k : Int) m.1 m.2.1 m.2.2 = k2 (d0.set i (prodK (qK m s) s.1.length)) (ints s.1) (ints s.2) (i : Int) m.1 m.2.1 m.2.2 := by
 have hdim := shaped_dim (sizes_shaped hs)
 obtain ⟨n, r, hn, hr, hn1, hn5, hnr, hr8, hl⟩ := dim_nat hdim
 have hle := h.le
 intro M
 induction M with
 | zero => intro k _ _ hM; omega
 | succ M ih =>
  intro k h1 hk hM
  simp only [Z23L, Z24]
  by_cases hlt : k < s.1.length
  ·have hb := prodK_bound (q_range hs h) (k + 1) (by omega)
   have hp9 := pow99 (k := k + 1) (by omega)
   have e : qK m s k = spec_l1Abs.g (ent m (s.1.getD k 0) (s.2.getD k 0)) := by
    rw [abs_eq (ent_bound (sizes_shaped hs) _ _), qK, if_neg (by omega)]
   rw [ct (dt (by rw [ints_len]; omega)), ct (inB_nat (by rw [List.length_set]; omega)), ct (inB_nat (by rw [ints_len]; omega)), ct (inB_nat (by rw [ints_len, h.len]; omega))]
   simp only [Int.toNat_natCast, ints_getD]
   rw [ct (at_p hdim (h.lt _ (getD_mem 0 hlt)) (src_lt h h1 hlt)), ct (inB_nat (by rw [List.length_set]; omega)), List.set_set, getD_put (by omega), if_pos rfl, at_g (by omega), ← e,
    show prodK (qK m s) k * qK m s k = prodK (qK m s) (k + 1) from rfl, w64_id (by omega) (by omega), w64_succ (by rw [maxLen_val]; omega)]
   exact ih (k + 1) (by omega) (by omega) (by omega)
  ·rw [cf (df (by rw [ints_len]; omega)), show k = s.1.length by omega]
theorem loop2 (hs : sizesK m = true) (h : PInv m.1.toNat (ent m) i s) (k4 : List Int → List Int → Int → Int → Int → Int → List Int → Option ρ) (d0 : List Int) : ∀ (M k : Nat) (d : List Int) (g : Int), 1 ≤ k → k ≤ s.1.length → s.1.length - k < M → T2 m s d0 k d g →
  ∃ d' g', T2 m s d0 s.1.length d' g' ∧ Z31L N k4 M d (ints s.1) (ints s.2) (i : Int) g (k : Int) m.1 m.2.1 m.2.2 = k4 d' (ints s.1) (i : Int) g' m.1 m.2.1 m.2.2 := by
 have hdim := shaped_dim (sizes_shaped hs)
 obtain ⟨n, r, hn, hr, hn1, hn5, hnr, hr8, hl⟩ := dim_nat hdim
 have hle := h.le
 intro M
 induction M with
 | zero => intro k _ _ _ _ hM; omega
 | succ M ih =>
  intro k d g h1 hk hM ht
  simp only [Z31L, Z32]
  by_cases hlt : k < s.1.length
  ·obtain ⟨⟨a1, a2⟩, ⟨b1, b2⟩, hst⟩ := ht.step hs h (by omega) h1 hlt
   obtain ⟨⟨hq, _⟩, hp, _⟩ := pq_range hs h h1 hlt
   have hg := ht.g_range h1
   have hx := h.lt _ (getD_mem 0 hlt)
   have hf := src_lt h h1 hlt
   have e1 : spec_l1Abs.g (ent m (s.1.getD k 0) (s.2.getD k 0)) = qK m s k := by
    rw [abs_eq (ent_bound (sizes_shaped hs) _ _), qK, if_neg (by omega)]
   have e2 : spec_l1Abs.g (ent m (s.2.getD k 0) (s.1.getD k 0)) = pK m s k := by
    rw [abs_eq (ent_bound (sizes_shaped hs) _ _), pK]
   have c1 : inB (k : Int) (ints s.1).length = true := inB_nat (by rw [ints_len]; omega)
   have c2 : inB (k : Int) (ints s.2).length = true := inB_nat (by rw [ints_len, h.len]; omega)
   rw [ct (dt (by rw [ints_len]; omega)), ct c1, ct c2]
   simp only [Int.toNat_natCast, ints_getD]
   rw [ct (inB_nat (by rw [ht.len]; exact hf)), ct c2, ct c1, ct c1, ct c2, ct (at_p hdim hf hx), ct (at_p hdim hx hf)]
   simp only [at_g (show 0 ≤ m.1 by omega), e1, e2]
   rw [ct (nt (by omega)), ct (inB_nat (by rw [ht.len]; exact hx)), ct c1]
   simp only [w64_id (show -9223372036854775808 ≤ d.getD (s.2.getD k 0) 0 * pK m s k by omega) (by omega)]
   simp only [w64_id (show -9223372036854775808 ≤ Int.tdiv (d.getD (s.2.getD k 0) 0 * pK m s k) (qK m s k) by omega) (by omega)]
   rw [ct (inB_nat (by rw [List.length_set, ht.len]; exact hx)), getD_put (by rw [ht.len]; exact hx), if_pos rfl]
   rw [ct (show spec_l1Gcd.P g _ = true by
    simp only [spec_l1Gcd.P, Bool.and_eq_true, decide_eq_true_eq]
    exact ⟨by omega, by omega, by omega, by omega⟩), w64_succ (by rw [maxLen_val]; omega)]
   exact ih (k + 1) _ _ (by omega) (by omega) (by omega) hst
  ·have e : k = s.1.length := by omega
   subst e
   exact ⟨d, g, ht, by rw [cf (df (by rw [ints_len]; omega))]⟩
theorem loop3 (hs : sizesK m = true) (h : PInv m.1.toNat (ent m) i s) (k6 : List Int → Int → Int → Int → List Int → Option ρ) (d0 d2 : List Int) (g : Int) (h2 : T2 m s d0 s.1.length d2 g) : ∀ (M k : Nat) (d : List Int), k ≤ s.1.length → s.1.length - k < M → T3 m s d2 g k d →
  ∃ d', T3 m s d2 g s.1.length d' ∧ Z36L N k6 M d (ints s.1) (i : Int) g (k : Int) m.1 m.2.1 m.2.2 = k6 d' (i : Int) m.1 m.2.1 m.2.2 := by
 have hle := h.le
 have hdim := shaped_dim (sizes_shaped hs)
 obtain ⟨n, r, hn, hr, hn1, hn5, hnr, hr8, hl⟩ := dim_nat hdim
 have hg := h2.g_range h.pos
 intro M
 induction M with
 | zero => intro k _ _ hM; omega
 | succ M ih =>
  intro k d hk hM ht
  simp only [Z36L, Z37]
  by_cases hlt : k < s.1.length
  ·have hx := h.lt _ (getD_mem 0 hlt)
   have c1 : inB (k : Int) (ints s.1).length = true := inB_nat (by rw [ints_len]; omega)
   have hv := h2.val k hlt
   have hp8 := pow99 (k := 4 + k) (by omega)
   have hdv : 0 ≤ Int.tdiv (d2.getD (s.1.getD k 0) 0) g ∧ Int.tdiv (d2.getD (s.1.getD k 0) 0) g ≤ 9227446944279201 := by
    rw [Int.tdiv_eq_ediv_of_nonneg (by omega)]
    refine ⟨Int.ediv_nonneg (by omega) (by omega), ?_⟩
    have := Int.ediv_le_self (a := d2.getD (s.1.getD k 0) 0) g (by omega)
    omega
   rw [ct (dt (by rw [ints_len]; omega)), ct c1, ct c1]
   simp only [Int.toNat_natCast, ints_getD]
   rw [ct (inB_nat (by rw [ht.len]; exact hx)), ct (nt (by omega)), ct (inB_nat (by rw [ht.len]; exact hx)), ht.cur h.nd h.lt hlt, w64_id (by omega) (by omega), w64_succ (by rw [maxLen_val]; omega)]
   exact ih (k + 1) _ (by omega) (by omega) (ht.step h.nd h.lt hlt)
  ·have e : k = s.1.length := by omega
   subst e
   exact ⟨d, ht, by rw [cf (df (by rw [ints_len]; omega))]⟩
theorem outer (hN : 10 ≤ N) (hs : sizesK m = true) (k0 : List Int → Int → Int → List Int → Option ρ) : ∀ (M i : Nat) (d : List Int), i ≤ m.1.toNat → m.1.toNat - i < M → d.length = m.1.toNat → Part m.1.toNat (ent m) (fun x => d.getD x 0) → (∀ x, x < i → 0 < d.getD x 0) →
  ∃ d', (d'.length = m.1.toNat ∧ Part m.1.toNat (ent m) (fun x => d'.getD x 0) ∧ ∀ x, x < m.1.toNat → 0 < d'.getD x 0) ∧ Z8L N k0 M d (i : Int) m.1 m.2.1 m.2.2 = k0 d' m.1 m.2.1 m.2.2 := by
 have hdim := shaped_dim (sizes_shaped hs)
 obtain ⟨n, r, hn, hr, hn1, hn5, hnr, hr8, hl⟩ := dim_nat hdim
 intro M
 induction M with
 | zero => intro i _ _ hM; omega
 | succ M ih =>
  intro i d hi hM hdl hpt hpos
  simp only [Z8L, Z9, Z10]
  by_cases hlt : i < m.1.toNat
  ·rw [ct (dt (by omega))]
   simp only [Z11, Z12, Z13, Z14]
   rw [ct (inB_nat (by omega)), Int.toNat_natCast]
   by_cases hd : 0 < d.getD i 0
   ·rw [ct (dt hd)]
    simp only [Z38]
    rw [w64_succ (by rw [maxLen_val]; omega)]
    exact ih (i + 1) d hlt (by omega) hdl hpt (fun x hx => by
     by_cases e : x = i
     ·subst e; exact hd
     ·exact hpos x (by omega))
   ·rw [cf (df hd)]
    obtain ⟨h, hcl⟩ := piece_ok hlt
    simp only [Z15, Z16]
    rw [ct (show spec_l1Piece.P (m.1, (m.2.1, m.2.2)) (i : Int) = true by
     simp only [spec_l1Piece.P, Bool.and_eq_true, decide_eq_true_eq]
     exact ⟨hdim, by omega, by omega⟩)]
    simp only [Z17, Z18]
    rw [ct (inB_nat (by omega)), Int.toNat_natCast]
    have eP : spec_l1Piece.g (m.1, (m.2.1, m.2.2)) (i : Int) = (ints (pieceK m i).1, ints (pieceK m i).2) := rfl
    rw [eP]
    generalize pieceK m i = s at h hcl
    have hle := h.le
    simp only [Z19, Z20, Z21, Z22, Z23]
    have l1 := loop1 (ρ := ρ) (N := N) hs h hlt (fun a b c d e f g => Z25 N a b c d e f g (fun a b c d e => Z38 N a b c d e (fun a b c d e => Z8L N k0 M a b c d e))) d hdl N 1 (by omega) h.pos (by omega)
    rw [show prodK (qK m s) 1 = 1 by simp [prodK, qK]] at l1
    rw [show (((1 : Nat) : Int)) = 1 from rfl] at l1
    rw [l1]
    simp only [Z25, Z26]
    have hset : ∀ v, (d.set i v).length = m.1.toNat := fun v => by rw [List.length_set]; exact hdl
    rw [ct (inB_nat (by rw [hset]; exact hlt)), Int.toNat_natCast, getD_put (by omega), if_pos rfl]
    simp only [Z27, Z28, Z29, Z30, Z31]
    have hH := prodK_bound (q_range hs h) s.1.length (by omega)
    have hHp : (99 : Int) ^ s.1.length ≤ 99 ^ (4 + 0) ∨ s.1.length = 5 := by
     by_cases e : s.1.length = 5
     ·exact Or.inr e
     ·left
      have : 99 ^ s.1.length ≤ 99 ^ (4 + 0) := Nat.pow_le_pow_right (by omega) (by omega)
      exact_mod_cast this
    have hH4 : prodK (qK m s) s.1.length ≤ 99 ^ (4 + 0) := by
     rcases hHp with hc | hc
     ·omega
     ·rw [hc]
      have q1 : prodK (qK m s) 1 = 1 := by simp [prodK, qK]
      have b : ∀ k, 1 ≤ k → k ≤ s.1.length → prodK (qK m s) k ≤ 99 ^ (k - 1) := by
       intro k
       induction k with
       | zero => intro h _; omega
       | succ k ihk =>
        intro _ hk
        by_cases e : k = 0
        ·subst e; rw [q1]; decide
        ·have c1 := ihk (by omega) (by omega)
         have c2 := q_range hs h k (by omega)
         have c3 := prodK_bound (q_range hs h) k (by omega)
         have : prodK (qK m s) k * qK m s k ≤ 99 ^ (k - 1) * 99 := Int.mul_le_mul c1 c2.2 (by omega) (Int.pow_nonneg (by omega))
         rw [← Int.pow_succ, show (k - 1).succ = k by omega] at this
         exact this
      exact b 5 (by omega) (by omega)
    have t0 : T2 m s d 1 (d.set i (prodK (qK m s) s.1.length)) (prodK (qK m s) s.1.length) := by
     refine ⟨hset _, ?_, ?_, fun k h1 h2 => by omega, ?_⟩
     ·intro x hx hall
      rw [getD_put (by omega), if_neg (fun e => hall 0 (by omega) (by rw [h.hd]; exact e.symm))]
     ·intro k hk
      have e : k = 0 := by omega
      subst e
      rw [h.hd, getD_put (by omega), if_pos rfl]
      refine ⟨hH.1, hH4, ⟨prodK (qK m s) 1, rfl⟩⟩
     ·show _ = ((gcdL [(d.set i (prodK (qK m s) s.1.length)).getD (s.1.getD 0 0) 0] : Nat) : Int)
      rw [h.hd, getD_put (by omega), if_pos rfl, gcdL, gcdL, Nat.gcd_zero_right]
      omega
    obtain ⟨d2, g2, ht2, l2⟩ := loop2 (ρ := ρ) (N := N) hs h (fun a b c d e f g => Z33 N a b c d e f g (fun a b c d e => Z38 N a b c d e (fun a b c d e => Z8L N k0 M a b c d e))) d N 1 _ _ (by omega) h.pos (by omega) t0
    rw [show (((1 : Nat) : Int)) = 1 from rfl] at l2
    rw [l2]
    simp only [Z33, Z34, Z35, Z36]
    obtain ⟨d3, ht3, l3⟩ := loop3 (ρ := ρ) (N := N) hs h (fun a b c d e => Z38 N a b c d e (fun a b c d e => Z8L N k0 M a b c d e)) d d2 g2 ht2 N 0 d2 (by omega) (by omega) ⟨ht2.len, fun _ _ _ => rfl, fun k hk => by omega⟩
    rw [show (((0 : Nat) : Int)) = 0 from rfl] at l3
    rw [l3]
    obtain ⟨p1, p2, p3⟩ := part_step hs hlt h (by omega) hcl hpt (by omega) ht2 ht3
    simp only [Z38]
    rw [w64_succ (by rw [maxLen_val]; omega)]
    exact ih (i + 1) d3 hlt (by omega) ht3.len p1 (fun x hx => by
     by_cases e : x = i
     ·subst e; exact p2
     ·exact p3 x (by omega) (hpos x (by omega)))
  ·rw [cf (df (by omega))]
   exact ⟨d, ⟨hdl, hpt, fun x hx => hpos x (by omega)⟩, rfl⟩
def edge (m : Int × Int × List Int) (d : List Int) (i j : Nat) : Prop := d.getD i 0 * ent m i j = -(d.getD j 0 * ent m j i)
theorem edge_w (hs : shapedK m = true) {d : List Int} (hd : Part m.1.toNat (ent m) (fun x => d.getD x 0)) {i j : Nat} (hi : i < m.1.toNat) (hj : j < m.1.toNat) :
  (w64 (d.getD i 0 * ent m i j) = w64 (0 - w64 (d.getD j 0 * ent m j i))) ↔ edge m d i j := by
 have key : ∀ a b : Nat, a < m.1.toNat → -913517247483640899 ≤ d.getD a 0 * ent m a b ∧ d.getD a 0 * ent m a b ≤ 913517247483640899 := by
  intro a b ha
  obtain ⟨h1, h2, _⟩ := hd a ha
  have h3 := ent_bound hs a b
  have h1' : 0 ≤ d.getD a 0 := h1
  have h2' : d.getD a 0 ≤ 9227446944279201 := h2
  have c1 : d.getD a 0 * ent m a b ≤ d.getD a 0 * 99 := Int.mul_le_mul_of_nonneg_left h3.2 h1'
  have c2 : d.getD a 0 * (-99) ≤ d.getD a 0 * ent m a b := Int.mul_le_mul_of_nonneg_left h3.1 h1'
  omega
 have k1 := key i j hi
 have k2 := key j i hj
 rw [w64_id (by omega) (by omega), w64_id (n := d.getD j 0 * ent m j i) (by omega) (by omega), w64_id (by omega) (by omega), Int.zero_sub]
 rfl
theorem check1 (hs : sizesK m = true) {d : List Int} (hdl : d.length = m.1.toNat) (hd : Part m.1.toNat (ent m) (fun x => d.getD x 0)) (k10 : List Int → Int → Int → Int → List Int → Option ρ) (kr : List Int → Bool → Option ρ) {i : Nat} (hi : i < m.1.toNat) : ∀ (M j : Nat), j ≤ m.1.toNat → m.1.toNat - j < M →
  (Z51L N k10 kr M d (i : Int) (j : Int) m.1 m.2.1 m.2.2 = kr [] false ∧ ∃ j', j' < m.1.toNat ∧ ¬ edge m d i j') ∨
  (Z51L N k10 kr M d (i : Int) (j : Int) m.1 m.2.1 m.2.2 = k10 d (i : Int) m.1 m.2.1 m.2.2 ∧ ∀ j', j ≤ j' → j' < m.1.toNat → edge m d i j') := by
 have hdim := shaped_dim (sizes_shaped hs)
 obtain ⟨n, r, hn, hr, hn1, hn5, hnr, hr8, hl⟩ := dim_nat hdim
 intro M
 induction M with
 | zero => intro j _ hM; omega
 | succ M ih =>
  intro j hj hM
  simp only [Z51L, Z52]
  by_cases hlt : j < m.1.toNat
  ·rw [ct (dt (by omega)), ct (inB_nat (by omega)), ct (inB_nat (by omega)), ct (at_p hdim hi hlt), ct (at_p hdim hlt hi)]
   have hA : spec_l1At.g (m.1, (m.2.1, m.2.2)) (i : Int) (j : Int) = ent m i j := at_g (by omega) _ _
   have hB : spec_l1At.g (m.1, (m.2.1, m.2.2)) (j : Int) (i : Int) = ent m j i := at_g (by omega) _ _
   simp only [Int.toNat_natCast, hA, hB]
   by_cases he : edge m d i j
   ·rw [cf (nf ((edge_w (sizes_shaped hs) hd hi hlt).2 he)), w64_succ (by rw [maxLen_val]; omega)]
    rcases ih (j + 1) hlt (by omega) with hc | hc
    ·exact Or.inl hc
    ·refine Or.inr ⟨hc.1, fun j' h1 h2 => ?_⟩
     by_cases e : j' = j
     ·subst e; exact he
     ·exact hc.2 j' (by omega) h2
   ·rw [ct (nt (fun hc => he ((edge_w (sizes_shaped hs) hd hi hlt).1 hc)))]
    exact Or.inl ⟨rfl, j, hlt, he⟩
  ·rw [cf (df (by omega))]
   exact Or.inr ⟨rfl, fun j' h1 h2 => by omega⟩
theorem check2 (hN : 10 ≤ N) (hs : sizesK m = true) {d : List Int} (hdl : d.length = m.1.toNat) (hd : Part m.1.toNat (ent m) (fun x => d.getD x 0)) (k8 : List Int → Option ρ) (kr : List Int → Bool → Option ρ) : ∀ (M i : Nat), i ≤ m.1.toNat → m.1.toNat - i < M →
  (Z43L N k8 kr M d (i : Int) m.1 m.2.1 m.2.2 = kr [] false ∧ ∃ i' j', i' < m.1.toNat ∧ j' < m.1.toNat ∧ ¬ edge m d i' j') ∨
  (Z43L N k8 kr M d (i : Int) m.1 m.2.1 m.2.2 = k8 d ∧ ∀ i', i ≤ i' → i' < m.1.toNat → ∀ j', j' < m.1.toNat → edge m d i' j') := by
 have hdim := shaped_dim (sizes_shaped hs)
 obtain ⟨n, r, hn, hr, hn1, hn5, hnr, hr8, hl⟩ := dim_nat hdim
 intro M
 induction M with
 | zero => intro i _ hM; omega
 | succ M ih =>
  intro i hi hM
  simp only [Z43L, Z44, Z45]
  by_cases hlt : i < m.1.toNat
  ·rw [ct (dt (by omega))]
   simp only [Z46, Z47, Z48, Z49, Z50, Z51]
   have hc := check1 (ρ := ρ) (N := N) hs hdl hd (fun a b c d e => Z53 N a b c d e (fun a b c d e => Z43L N k8 kr M a b c d e)) kr hlt N 0 (by omega) (by omega)
   rw [show ((0 : Nat) : Int) = 0 from rfl] at hc
   rcases hc with ⟨hc, j', h1, h2⟩ | ⟨hc, h1⟩
   ·exact Or.inl ⟨hc, i, j', hlt, h1, h2⟩
   ·rw [hc]
    simp only [Z53]
    rw [w64_succ (by rw [maxLen_val]; omega)]
    rcases ih (i + 1) hlt (by omega) with h2 | h2
    ·exact Or.inl h2
    ·refine Or.inr ⟨h2.1, fun i' h3 h4 => ?_⟩
     by_cases e : i' = i
     ·subst e; exact fun j' hj' => h1 j' (by omega) hj'
     ·exact h2.2 i' (by omega) h4
  ·rw [cf (df (by omega))]
   exact Or.inr ⟨rfl, fun i' h1 h2 => by omega⟩
end
theorem ok : Spec := fun m hb hp => ⟨10, fun N hN => by
 have hs : sizesK m = true := hp
 have hdim := shaped_dim (sizes_shaped hs)
 obtain ⟨n, r, hn, hr, hn1, hn5, hnr, hr8, hl⟩ := dim_nat hdim
 simp only [Z0, Z1, Z2, Z3]
 rw [ct (by rw [leB_t (by omega), dt (by omega)]; rfl)]
 simp only [Z4, Z5, Z6, Z7, Z8]
 have hz : ∀ x, (List.replicate m.1.toNat (0 : Int)).getD x 0 = 0 := fun x => by
  rw [List.getD_eq_getElem?_getD, List.getElem?_replicate]
  split <;> rfl
 obtain ⟨d, ⟨h1, h2, h3⟩, h4⟩ := outer (ρ := Unit × List Int × Bool × Unit) hN hs (fun a b c d => Z39 N a b c d (fun t2 t3 => some ((), (t2, (t3, ()))))) N 0 (List.replicate m.1.toNat 0) (by omega) (by omega) (by simp) (fun j hj => by
  show 0 ≤ (List.replicate m.1.toNat (0 : Int)).getD j 0 ∧ (List.replicate m.1.toNat (0 : Int)).getD j 0 ≤ _ ∧ (0 < (List.replicate m.1.toNat (0 : Int)).getD j 0 → _)
  rw [hz]
  exact ⟨by omega, by omega, fun hc => by omega⟩) (fun x hx => by omega)
 rw [show ((0 : Nat) : Int) = 0 from rfl] at h4
 rw [h4]
 simp only [Z39, Z40, Z41, Z42, Z43]
 have hc := check2 (ρ := Unit × List Int × Bool × Unit) hN hs h1 h2 (fun d4 => Z54 N d4 (fun t2 t3 => some ((), (t2, (t3, ()))))) (fun t2 t3 => some ((), (t2, (t3, ())))) N 0 (by omega) (by omega)
 rw [show ((0 : Nat) : Int) = 0 from rfl] at hc
 rcases hc with ⟨hc, i', j', h5, h6, h7⟩ | ⟨hc, h5⟩
 ·rw [hc, g, part_none hs h2 h3 h5 h6 h7]
  rfl
 ·have h6 := part_fac h1 h2 h3 (fun i hi j hj => h5 i (by omega) hi j hj)
  rw [hc, g, h6]
  simp only [Z54]
  rw [df (fun e => by rw [e] at h1; simp at h1; omega)]
  rfl⟩
theorem fac_ex {m : Int × Int × List Int} (hs : sizesK m = true) (h : ∃ e, Good m.1.toNat (ent m) e) : facK m ≠ [] := by
 have hdim := shaped_dim (sizes_shaped hs)
 obtain ⟨n, r, hn, hr, hn1, hn5, hnr, hr8, hl⟩ := dim_nat hdim
 have hz : ∀ x, (List.replicate m.1.toNat (0 : Int)).getD x 0 = 0 := fun x => by
  rw [List.getD_eq_getElem?_getD, List.getElem?_replicate]
  split <;> rfl
 obtain ⟨d, ⟨h1, h2, h3⟩, h4⟩ := outer (ρ := Unit) (N := 10) (Nat.le_refl _) hs (fun _ _ _ _ => none) 10 0 (List.replicate m.1.toNat 0) (by omega) (by omega) (by simp) (fun j hj => by
  show 0 ≤ (List.replicate m.1.toNat (0 : Int)).getD j 0 ∧ (List.replicate m.1.toNat (0 : Int)).getD j 0 ≤ _ ∧ (0 < (List.replicate m.1.toNat (0 : Int)).getD j 0 → _)
  rw [hz]
  exact ⟨by omega, by omega, fun hc => by omega⟩) (fun x hx => by omega)
 obtain ⟨e, he⟩ := h
 rw [part_fac h1 h2 h3 (fun i hi j hj => part_edge hs h2 h3 he hi hj)]
 intro hc
 rw [hc] at h1
 simp at h1
 omega
end spec_l1Factors
end
end Go.Fw
namespace Go.Fw
section
variable {ρ : Type}
namespace spec_MatrixOk
def g (m : Int × Int × List Int) : Bool := sizesK m && !decide (facK m = [])
end spec_MatrixOk
namespace spec_MatrixOk
def Z0 {ρ : Type} (N : Nat) (a : MT) (kr : Bool → Option ρ) : Option ρ :=
 cond (!(lk N ((spec_l1Sizes.g a))))
 (
  kr false)
 (
  cond (lk N (spec_l1Factors.P a)) (
   kr (lk N ((spec_l1Factors.g a).2))) none)
def Spec : Prop := ∀  (v0 : MT), Ty.bd (.pair (.int .i64) (.pair (.int .i64) (.sl 0 (.int .i64)))) v0 → ∃ N0, ∀ N, N0 ≤ N → Z0 N v0 (fun v2 => some ((), (v2, ()))) = some ((), ((g v0), ()))
theorem ok : Spec := fun m hb => ⟨0, fun N hN => by
 simp only [Z0, lk_eq, g, spec_l1Sizes.g, spec_l1Factors.P, spec_l1Factors.g]
 cases sizesK m <;> rfl⟩
end spec_MatrixOk
end
end Go.Fw
namespace Go.Fw
section
variable {ρ : Type}
namespace spec_IsAcyclic
def g (m : Int × Int × List Int) : Bool := spec_MatrixOk.g m && (List.range m.1.toNat).all fun x => (goneG m).getD x false
end spec_IsAcyclic
namespace spec_IsAcyclic
def Z1 {ρ : Type} (N : Nat) (a : MT) (kn : I2 (LI → Option ρ)) : Option ρ :=
 kn a.1 a.2.1 a.2.2
def Z3 {ρ : Type} (N : Nat) (a b : Int) (c : LI) (kn : I2 (LI → Option ρ)) (kr : Bool → Option ρ) : Option ρ :=
 cond (!(lk N ((spec_MatrixOk.g (a, (b, c))))))
 (
  kr false)
 (
  kn a b c)
def Z5 {ρ : Type} (N : Nat) (a b : Int) (c : LI) (kn : List Bool → I2 (LI → Option ρ)) : Option ρ :=
 cond (lk N (leB 0 a && decide (a < 1099511627776))) (
  kn (List.replicate a.toNat (false : Bool)) a b c) none
def Z8 {ρ : Type} (N : Nat) (a : List Bool) (b c : Int) (d : LI) (kn : List Bool → I3 (LI → Option ρ)) : Option ρ :=
 kn a 0 b c d
def Z12 {ρ : Type} (N : Nat) (b : List Bool) (c a d : Int) (e : LI) (kn : List Bool → I3 (LI → Option ρ)) (k0 : List Bool → I2 (LI → Option ρ)) : Option ρ :=
 cond (lk N (decide (c < a)))
 (
  kn b c a d e)
 (
  k0 b a d e)
def Z16 {ρ : Type} (N : Nat) (a : List Bool) (b c d : Int) (e : LI) (kn : List Bool → I4 (LI → Option ρ)) : Option ρ :=
 kn a b 0 c d e
def Z20 {ρ : Type} (N : Nat) (b : List Bool) (c d a e : Int) (f : LI) (kn : List Bool → I4 (LI → Option ρ)) (k2 : List Bool → I3 (LI → Option ρ)) : Option ρ :=
 cond (lk N (decide (d < a)))
 (
  kn b c d a e f)
 (
  k2 b c a e f)
def Z24 {ρ : Type} (N : Nat) (a : List Bool) (c b d e : Int) (f : LI) (kn : List Bool → I2 (Bool → I2 (LI → Option ρ))) : Option ρ :=
 cond (lk N (inB b a.length)) (
  kn a c b (!((a.getD b.toNat false))) d e f) none
def Z27 {ρ : Type} (N : Nat) (a : List Bool) (b c : Int) (d : Bool) (e f : Int) (g : LI) (kn : List Bool → I2 (Bool → I3 (LI → Option ρ))) : Option ρ :=
 kn a b c d 0 e f g
def Z30 {ρ : Type} (N : Nat) (c : List Bool) (h d : Int) (i : Bool) (a b e : Int) (f : LI) (kn : List Bool → I2 (Bool → I3 (LI → Option ρ))) (k4 : List Bool → I2 (Bool → I2 (LI → Option ρ))) : Option ρ :=
 cond (lk N (decide (a < b)))
 (
  cond (i)
  (
   cond (lk N (inB a c.length)) (
    cond ((c.getD a.toNat false))
    (
     kn c h d true (w64 (a + 1)) b e f)
    (
     cond (lk N (spec_l1At.P (b, (e, f)) d a)) (
      kn c h d (lk N (decide ((spec_l1At.g (b, (e, f)) d a) ≤ 0))) (w64 (a + 1)) b e f) none)) none)
  (
   kn c h d false (w64 (a + 1)) b e f))
 (
  k4 c h d i b e f)
def Z29L {ρ : Type} (N : Nat) (k4 : List Bool → I2 (Bool → I2 (LI → Option ρ))) : Nat → List Bool → Int → Int → Bool → Int → Int → Int → LI → Option ρ
 | 0, _, _, _, _, _, _, _, _ => none
 | M + 1, a, b, c, d, e, f, g, h => Z30 N a b c d e f g h (fun a b c d e f g h => Z29L N k4 M a b c d e f g h) k4
def Z29 N a b c d e f g h k4 := (Z29L N k4 N a b c d e f g h : Option ρ)
def Z28 N a b c d e f g h kn := (Z29 N a b c d e f g h kn : Option ρ)
def Z26 N a b c d e f g kn := (Z27 N a b c d e f g (fun a b c d h e f g => Z28 N a b c d h e f g kn) : Option ρ)
def Z31 {ρ : Type} (N : Nat) (b : List Bool) (c a : Int) (g : Bool) (d e : Int) (f : LI) (kn : List Bool → I4 (LI → Option ρ)) : Option ρ :=
 cond (g)
 (
  cond (lk N (inB a b.length)) (
   kn (b.set a.toNat true) c a d e f) none)
 (
  kn b c a d e f)
def Z25 N a b c d e f g kn := (Z26 N a b c d e f g (fun a b c d e f g => Z31 N a b c d e f g kn) : Option ρ)
def Z23 N a b c d e f kn := (Z24 N a b c d e f (fun a b c g d e f => Z25 N a b c g d e f kn) : Option ρ)
def Z22 N a b c d e f kn := (Z23 N a b c d e f kn : Option ρ)
def Z32 {ρ : Type} (N : Nat) (a : List Bool) (b c d e : Int) (f : LI) (kn : List Bool → I4 (LI → Option ρ)) : Option ρ :=
 kn a b (w64 (c + 1)) d e f
def Z21 N a b c d e f kn := (Z22 N a b c d e f (fun a b c d e f => Z32 N a b c d e f kn) : Option ρ)
def Z19 N a b c d e f kn k2 := (Z20 N a b c d e f (fun a b c d e f => Z21 N a b c d e f kn) k2 : Option ρ)
def Z18L {ρ : Type} (N : Nat) (k2 : List Bool → I3 (LI → Option ρ)) : Nat → List Bool → Int → Int → Int → Int → LI → Option ρ
 | 0, _, _, _, _, _, _ => none
 | M + 1, a, b, c, d, e, f => Z19 N a b c d e f (fun a b c d e f => Z18L N k2 M a b c d e f) k2
def Z18 N a b c d e f k2 := (Z18L N k2 N a b c d e f : Option ρ)
def Z17 N a b c d e f kn := (Z18 N a b c d e f kn : Option ρ)
def Z15 N a b c d e kn := (Z16 N a b c d e (fun a b f c d e => Z17 N a b f c d e kn) : Option ρ)
def Z14 N a b c d e kn := (Z15 N a b c d e kn : Option ρ)
def Z33 {ρ : Type} (N : Nat) (a : List Bool) (b c d : Int) (e : LI) (kn : List Bool → I3 (LI → Option ρ)) : Option ρ :=
 kn a (w64 (b + 1)) c d e
def Z13 N a b c d e kn := (Z14 N a b c d e (fun a b c d e => Z33 N a b c d e kn) : Option ρ)
def Z11 N a b c d e kn k0 := (Z12 N a b c d e (fun a b c d e => Z13 N a b c d e kn) k0 : Option ρ)
def Z10L {ρ : Type} (N : Nat) (k0 : List Bool → I2 (LI → Option ρ)) : Nat → List Bool → Int → Int → Int → LI → Option ρ
 | 0, _, _, _, _, _ => none
 | M + 1, a, b, c, d, e => Z11 N a b c d e (fun a b c d e => Z10L N k0 M a b c d e) k0
def Z10 N a b c d e k0 := (Z10L N k0 N a b c d e : Option ρ)
def Z9 N a b c d e kn := (Z10 N a b c d e kn : Option ρ)
def Z7 N a b c d kn := (Z8 N a b c d (fun a e b c d => Z9 N a e b c d kn) : Option ρ)
def Z36 {ρ : Type} (N : Nat) (a : List Bool) (b c : Int) (d : LI) (kn : List Bool → I3 (LI → Option ρ)) : Option ρ :=
 kn a 0 b c d
def Z39 {ρ : Type} (N : Nat) (b : List Bool) (a c d : Int) (e : LI) (kn : List Bool → I3 (LI → Option ρ)) (k6 : Option ρ) (kr : Bool → Option ρ) : Option ρ :=
 cond (lk N (decide (a < c)))
 (
  cond (lk N (inB a b.length)) (
   cond (!((b.getD a.toNat false)))
   (
    kr false)
   (
    kn b (w64 (a + 1)) c d e)) none)
 (
  k6)
def Z38L {ρ : Type} (N : Nat) (k6 : Option ρ) (kr : Bool → Option ρ) : Nat → List Bool → Int → Int → Int → LI → Option ρ
 | 0, _, _, _, _, _ => none
 | M + 1, a, b, c, d, e => Z39 N a b c d e (fun a b c d e => Z38L N k6 kr M a b c d e) k6 kr
def Z38 N a b c d e k6 kr := (Z38L N k6 kr N a b c d e : Option ρ)
def Z37 N a b c d e kn kr := (Z38 N a b c d e kn kr : Option ρ)
def Z35 N a b c d kn kr := (Z36 N a b c d (fun a e b c d => Z37 N a e b c d kn kr) : Option ρ)
def Z40 {ρ : Type} (N : Nat)  (kr : Bool → Option ρ) : Option ρ :=
 kr true
def Z34 N a b c d kr := (Z35 N a b c d (Z40 N kr) kr : Option ρ)
def Z6 N a b c d kr := (Z7 N a b c d (fun a b c d => Z34 N a b c d kr) : Option ρ)
def Z4 N a b c kr := (Z5 N a b c (fun d a b c => Z6 N d a b c kr) : Option ρ)
def Z2 N a b c kr := (Z3 N a b c (fun a b c => Z4 N a b c kr) kr : Option ρ)
def Z0 N a kr := (Z1 N a (fun b c d => Z2 N b c d kr) : Option ρ)
def Spec : Prop := ∀  (v0 : MT), Ty.bd (.pair (.int .i64) (.pair (.int .i64) (.sl 0 (.int .i64)))) v0 → ∃ N0, ∀ N, N0 ≤ N → Z0 N v0 (fun v2 => some ((), (v2, ()))) = some ((), ((g v0), ()))
section
variable {ρ : Type} {N : Nat} {m : Int × Int × List Int}
theorem inner (hd : dimK m = true) {i : Nat} (hi : i < m.1.toNat) (turn : Int) {G : List Bool} (hG : G.length = m.1.toNat) (k4 : List Bool → Int → Int → Bool → Int → Int → List Int → Option ρ) : ∀ (M j : Nat) (sink : Bool), j ≤ m.1.toNat → m.1.toNat - j < M →
  Z29L N k4 M G turn (i : Int) sink (j : Int) m.1 m.2.1 m.2.2 = k4 G turn (i : Int) (sink && ((List.range m.1.toNat).drop j).all fun j => G.getD j false || decide (ent m i j ≤ 0)) m.1 m.2.1 m.2.2 := by
 obtain ⟨n, r, hn, hr, _, hn5, hnr, _, _⟩ := dim_nat hd
 intro M
 induction M with
 | zero => intro j _ _ h; omega
 | succ M ih =>
  intro j sink hj hM
  simp only [Z29L, Z1, Z3, Z5, Z8, Z12, Z16, Z20, Z24, Z27, Z30, Z29, Z28, Z26, Z31, Z25, Z23, Z22, Z32, Z21, Z19, Z18, Z17, Z15, Z14, Z33, Z13, Z11, Z10, Z9, Z7, Z36, Z39, Z38, Z37, Z35, Z40, Z34, Z6, Z4, Z2, Z0]
  by_cases h : j < m.1.toNat
  ·have e1 : spec_l1At.P (m.1, (m.2.1, m.2.2)) (i : Int) (j : Int) = true := at_ok hd (by omega) h
   have e2 : spec_l1At.g (m.1, (m.2.1, m.2.2)) (i : Int) (j : Int) = ent m i j := atK_nat (by omega) i j
   rw [ct (dt (by omega)), ct (inB_nat (by omega)), ct e1, e2, Int.toNat_natCast, w64_succ (by rw [maxLen_val]; omega), ih (j + 1) _ h (by omega), ih (j + 1) _ h (by omega), ih (j + 1) _ h (by omega), range_drop h, List.all_cons]
   simp only [lk_eq]
   cases sink
   ·rfl
   ·cases G.getD j false
    ·simp
    ·rfl
  ·rw [cf (df (by omega)), List.drop_of_length_le (by simp; omega)]
   simp
theorem visG_len {G : List Bool} (v : Nat) (hG : G.length = m.1.toNat) : (visG m G v).length = m.1.toNat := by
 unfold visG
 cases sinkG m G v <;> simp [hG]
theorem fold_len (vs : List Nat) : ∀ {G : List Bool}, G.length = m.1.toNat → (vs.foldl (visG m) G).length = m.1.toNat := by
 induction vs with
 | nil => exact fun h => h
 | cons v vs ih => exact fun h => ih (visG_len v h)
theorem row (hd : dimK m = true) (turn : Int) (k2 : List Bool → Int → Int → Int → List Int → Option ρ) (hN : m.1.toNat < N) : ∀ (M j : Nat) (G : List Bool), G.length = m.1.toNat → j ≤ m.1.toNat → m.1.toNat - j < M →
  Z18L N k2 M G turn (j : Int) m.1 m.2.1 m.2.2 = k2 (((List.range m.1.toNat).drop j).foldl (visG m) G) turn m.1 m.2.1 m.2.2 := by
 obtain ⟨n, r, hn, hr, _, hn5, hnr, _, _⟩ := dim_nat hd
 intro M
 induction M with
 | zero => intro j _ _ _ h; omega
 | succ M ih =>
  intro j G hG hj hM
  simp only [Z18L, Z1, Z3, Z5, Z8, Z12, Z16, Z20, Z24, Z27, Z30, Z29, Z28, Z26, Z31, Z25, Z23, Z22, Z32, Z21, Z19, Z18, Z17, Z15, Z14, Z33, Z13, Z11, Z10, Z9, Z7, Z36, Z39, Z38, Z37, Z35, Z40, Z34, Z6, Z4, Z2, Z0]
  by_cases h : j < m.1.toNat
  ·have hin := fun (k : List Bool → Int → Int → Bool → Int → Int → List Int → Option ρ) (sink : Bool) => inner (N := N) hd h turn hG k N 0 sink (by omega) (by omega)
   simp only [show ((0 : Nat) : Int) = 0 from rfl, List.drop_zero] at hin
   rw [ct (dt (by omega)), ct (inB_nat (by omega)), Int.toNat_natCast, hin, ct (inB_nat (by omega)), w64_succ (by rw [maxLen_val]; omega), ih (j + 1) _ (by simpa using hG) h (by omega), ih (j + 1) _ hG h (by omega), range_drop h, List.foldl_cons]
   show cond (sinkG m G j) _ _ = k2 (((List.range m.1.toNat).drop (j + 1)).foldl (visG m) (cond (sinkG m G j) (G.set j true) G)) turn m.1 m.2.1 m.2.2
   cases sinkG m G j <;> rfl
  ·rw [cf (df (by omega)), List.drop_of_length_le (by simp; omega)]; rfl
theorem rounds (hd : dimK m = true) (k0 : List Bool → Int → Int → List Int → Option ρ) (hN : m.1.toNat < N) : ∀ (M j : Nat) (G : List Bool), G.length = m.1.toNat → j ≤ m.1.toNat → m.1.toNat - j < M →
  Z10L N k0 M G (j : Int) m.1 m.2.1 m.2.2 = k0 (times (fun G => (List.range m.1.toNat).foldl (visG m) G) (m.1.toNat - j) G) m.1 m.2.1 m.2.2 := by
 obtain ⟨n, r, hn, hr, _, hn5, hnr, _, _⟩ := dim_nat hd
 intro M
 induction M with
 | zero => intro j _ _ _ h; omega
 | succ M ih =>
  intro j G hG hj hM
  simp only [Z10L, Z1, Z3, Z5, Z8, Z12, Z16, Z20, Z24, Z27, Z30, Z29, Z28, Z26, Z31, Z25, Z23, Z22, Z32, Z21, Z19, Z18, Z17, Z15, Z14, Z33, Z13, Z11, Z10, Z9, Z7, Z36, Z39, Z38, Z37, Z35, Z40, Z34, Z6, Z4, Z2, Z0]
  by_cases h : j < m.1.toNat
  ·have hin := fun (k : List Bool → Int → Int → Int → List Int → Option ρ) => row (N := N) hd (j : Int) k hN N 0 G hG (by omega) (by omega)
   simp only [show ((0 : Nat) : Int) = 0 from rfl, List.drop_zero] at hin
   rw [ct (dt (by omega)), hin, w64_succ (by rw [maxLen_val]; omega), ih (j + 1) _ (fold_len _ hG) h (by omega), show m.1.toNat - j = (m.1.toNat - (j + 1)) + 1 by omega]
   rfl
  ·rw [cf (df (by omega)), show m.1.toNat - j = 0 by omega]; rfl
theorem last {G : List Bool} (hd : dimK m = true) (hG : G.length = m.1.toNat) (k6 : Option ρ) (kr : Bool → Option ρ) : ∀ (M j : Nat), j ≤ m.1.toNat → m.1.toNat - j < M →
  Z38L N k6 kr M G (j : Int) m.1 m.2.1 m.2.2 = cond (((List.range m.1.toNat).drop j).all fun x => G.getD x false) k6 (kr false) := by
 obtain ⟨n, r, hn, hr, _, hn5, hnr, _, _⟩ := dim_nat hd
 intro M
 induction M with
 | zero => intro j _ h; omega
 | succ M ih =>
  intro j hj hM
  simp only [Z38L, Z1, Z3, Z5, Z8, Z12, Z16, Z20, Z24, Z27, Z30, Z29, Z28, Z26, Z31, Z25, Z23, Z22, Z32, Z21, Z19, Z18, Z17, Z15, Z14, Z33, Z13, Z11, Z10, Z9, Z7, Z36, Z39, Z38, Z37, Z35, Z40, Z34, Z6, Z4, Z2, Z0]
  by_cases h : j < m.1.toNat
  ·rw [ct (dt (by omega)), ct (inB_nat (by omega)), Int.toNat_natCast, w64_succ (by rw [maxLen_val]; omega), ih (j + 1) h (by omega), range_drop h, List.all_cons]
   cases G.getD j false <;> rfl
  ·rw [cf (df (by omega)), List.drop_of_length_le (by simp; omega)]; rfl
end
theorem ok : Spec := fun m hb => ⟨6, fun N hN => by
 simp only [Z1, Z3, Z5, Z8, Z12, Z16, Z20, Z24, Z27, Z30, Z29, Z28, Z26, Z31, Z25, Z23, Z22, Z32, Z21, Z19, Z18, Z17, Z15, Z14, Z33, Z13, Z11, Z10, Z9, Z7, Z36, Z39, Z38, Z37, Z35, Z40, Z34, Z6, Z4, Z2, Z0, g]
 cases h : spec_MatrixOk.g m
 ·simp only [lk_eq, h]; rfl
 have hd : dimK m = true := by
  simp only [spec_MatrixOk.g, sizesK, shapedK, Bool.and_eq_true] at h
  exact h.1.1.1
 obtain ⟨n, r, hn, hr, _, hn5, hnr, _, _⟩ := dim_nat hd
 have hG := (goneG_iff m).1
 have h1 := fun (k0 : List Bool → Int → Int → List Int → Option (Unit × Bool × Unit)) => rounds (N := N) hd k0 (by omega) N 0 (List.replicate m.1.toNat false) (by simp) (by omega) (by omega)
 have h2 := fun (k6 : Option (Unit × Bool × Unit)) (kr : Bool → Option (Unit × Bool × Unit)) => last (N := N) (G := goneG m) hd hG k6 kr N 0 (by omega) (by omega)
 simp only [show ((0 : Nat) : Int) = 0 from rfl, Nat.sub_zero, List.drop_zero] at h1 h2
 rw [cf' (by rw [lk_eq]; rfl), ct (by rw [leB_t (by omega), dt (by omega)]; rfl), h1]
 have := h2 (some ((), (true, ()))) (fun t => some ((), (t, ())))
 refine this.trans ?_
 cases (List.range m.1.toNat).all fun x => (goneG m).getD x false <;> rfl⟩
end spec_IsAcyclic
end
end Go.Fw
namespace Go.Fw
section
variable {ρ : Type}
namespace impl_within
def g (n low high : Int) : Bool := inK n low high
end impl_within
namespace impl_within
def Z0 {ρ : Type} (N : Nat) (a b c : Int) (kr : Bool → Option ρ) : Option ρ :=
 cond (lk N (decide (b ≤ a)))
 (
  kr (lk N (decide (a ≤ c))))
 (
  kr false)
def Spec : Prop := ∀  (v0 v1 v2 : Int), ∃ N0, ∀ N, N0 ≤ N → Z0 N v0 v1 v2 (fun v6 => some ((), (v6, ()))) = some ((), ((g v0 v1 v2), ()))
theorem ok : Spec := fun n low high => ⟨0, fun N hN => by
 simp only [Z0, lk_eq, g, inK]
 cases decide (low ≤ n) <;> rfl⟩
end impl_within
end
end Go.Fw
namespace Go.Fw
section
variable {ρ : Type}
namespace impl_shaped_1
def g (x : Int) : Bool := !inK x (-99) 99
end impl_shaped_1
namespace impl_shaped_1
def Z0 {ρ : Type} (N : Nat) (a : Int) (kr : Bool → Option ρ) : Option ρ :=
 kr (!(lk N ((impl_within.g a (-99) 99))))
def Spec : Prop := ∀  (v0 : Int), ∃ N0, ∀ N, N0 ≤ N → Z0 N v0 (fun v2 => some ((), (v2, ()))) = some ((), ((g v0), ()))
theorem ok : Spec := fun n => ⟨0, fun N hN => by
 simp only [Z0, g, lk_eq, impl_within.g]⟩
end impl_shaped_1
end
end Go.Fw
namespace Go.Fw
section
variable {ρ : Type}
namespace slices_IndexFunc_int_int_shaped
def go (p : Int → Bool) : List Int → Nat → Int
 | [], _ => -1
 | x :: xs, j => if p x = true then (j : Int) else go p xs (j + 1)
def g (s : List Int) (_ : Unit) : Int := go impl_shaped_1.g s 0
end slices_IndexFunc_int_int_shaped
namespace slices_IndexFunc_int_int_shaped
def Z1 {ρ : Type} (N : Nat) (a : LI) (b : Unit) (kn : LI → Option ρ) : Option ρ :=
 kn a
def Z4 {ρ : Type} (N : Nat) (a : LI) (kn : LI → I2 (Option ρ)) : Option ρ :=
 kn a (a.length : Int) 0
def Z7 {ρ : Type} (N : Nat) (b : LI) (c a : Int) (kn : LI → I2 (Option ρ)) (k0 : Option ρ) (kr : Int → Option ρ) : Option ρ :=
 cond (lk N (decide (a < c)))
 (
  cond (lk N (inB a b.length)) (
   cond (lk N ((impl_shaped_1.g (b.getD a.toNat 0))))
   (
    kr a)
   (
    kn b c (w64 (a + 1)))) none)
 (
  k0)
def Z6L {ρ : Type} (N : Nat) (k0 : Option ρ) (kr : Int → Option ρ) : Nat → LI → Int → Int → Option ρ
 | 0, _, _, _ => none
 | M + 1, a, b, c => Z7 N a b c (fun a b c => Z6L N k0 kr M a b c) k0 kr
def Z6 N a b c k0 kr := (Z6L N k0 kr N a b c : Option ρ)
def Z5 N a b c kn kr := (Z6 N a b c kn kr : Option ρ)
def Z3 N a kn kr := (Z4 N a (fun a b c => Z5 N a b c kn kr) : Option ρ)
def Z8 {ρ : Type} (N : Nat)  (kr : Int → Option ρ) : Option ρ :=
 kr (-1)
def Z2 N a kr := (Z3 N a (Z8 N kr) kr : Option ρ)
def Z0 N a b kr := (Z1 N a b (fun a => Z2 N a kr) : Option ρ)
def Spec : Prop := ∀  (v0 : LI) (v1 : Unit), Ty.bd (.sl 0 (.int .i64)) v0 → ∃ N0, ∀ N, N0 ≤ N → Z0 N v0 v1 (fun v4 => some ((), (v4, ()))) = some ((), ((g v0 v1), ()))
theorem loop {ρ : Type} (N : Nat) (kr : Int → Option ρ) (a : List Int) (ha : a.length ≤ maxLen) : ∀ (M j : Nat), j ≤ a.length → a.length - j < M →
  Z6L N (kr (-1)) kr M a (a.length : Int) (j : Int) = kr (go impl_shaped_1.g (a.drop j) j) := by
 intro M
 induction M with
 | zero => intro j _ h; omega
 | succ M ih =>
  intro j hj hM
  simp only [Z6L, Z7]
  by_cases h : j < a.length
  ·rw [ct (dt (by omega)), ct (inB_nat h), Int.toNat_natCast, w64_succ (by omega), ih (j + 1) h (by omega), drop_getD 0 h, go]
   cases e : impl_shaped_1.g (a.getD j 0)
   ·rw [cf rfl, if_neg (by simp)]
   ·rw [ct rfl, if_pos rfl]
  ·rw [cf (df (by omega)), List.drop_of_length_le (by omega), go]
theorem ok : Spec := fun a _ ha => ⟨a.length + 1, fun N hN => by
 simp only [Z1, Z4, Z7, Z6, Z5, Z3, Z8, Z2, Z0]
 exact (loop N (fun t => some ((), (t, ()))) a ha.1 N 0 (by omega) (by omega)).trans rfl⟩
theorem go_pos (p : Int → Bool) : ∀ (l : List Int) (j : Nat), 0 ≤ go p l j ↔ ∃ x ∈ l, p x = true
 | [], j => by simp [go]
 | x :: xs, j => by
  rw [go]
  by_cases h : p x = true
  ·rw [if_pos h]; simp [h]
  ·rw [if_neg h, go_pos p xs]; simp [h]
end slices_IndexFunc_int_int_shaped
end
end Go.Fw
namespace Go.Fw
section
variable {ρ : Type}
namespace slices_ContainsFunc_int_int_shaped
def g (s : List Int) (_ : Unit) : Bool := s.any impl_shaped_1.g
end slices_ContainsFunc_int_int_shaped
namespace slices_ContainsFunc_int_int_shaped
def Z0 {ρ : Type} (N : Nat) (a : LI) (b : Unit) (kr : Bool → Option ρ) : Option ρ :=
 kr (lk N (decide (0 ≤ (slices_IndexFunc_int_int_shaped.g a ()))))
def Spec : Prop := ∀  (v0 : LI) (v1 : Unit), Ty.bd (.sl 0 (.int .i64)) v0 → ∃ N0, ∀ N, N0 ≤ N → Z0 N v0 v1 (fun v4 => some ((), (v4, ()))) = some ((), ((g v0 v1), ()))
theorem ok : Spec := fun a _ ha => ⟨0, fun N hN => by
 simp only [Z0, lk_eq, g]
 have := (show 0 ≤ slices_IndexFunc_int_int_shaped.g a () ↔ ∃ x ∈ a, impl_shaped_1.g x = true from slices_IndexFunc_int_int_shaped.go_pos impl_shaped_1.g a 0)
 cases e : a.any impl_shaped_1.g
 ·rw [df (fun h => by have := this.1 h; rw [← List.any_eq_true, e] at this; cases this)]
 ·rw [dt (this.2 (List.any_eq_true.1 e))]⟩
end slices_ContainsFunc_int_int_shaped
end
end Go.Fw
namespace Go.Fw
section
variable {ρ : Type}
namespace impl_shaped
def g (m : Int × Int × List Int) : Bool := shapedK m
end impl_shaped
namespace impl_shaped
def Z0 {ρ : Type} (N : Nat) (a : MT) (kr : Bool → Option ρ) : Option ρ :=
 cond (lk N ((impl_within.g a.1 1 5)))
 (
  cond (lk N ((impl_within.g a.2.1 a.1 8)))
  (
   cond (lk N (decide ((a.2.2.length : Int) = (w64 (a.1 * a.2.1)))))
   (
    kr (!(lk N ((slices_ContainsFunc_int_int_shaped.g a.2.2 ())))))
   (
    kr false))
  (
   kr false))
 (
  kr false)
def Spec : Prop := ∀  (v0 : MT), Ty.bd (.pair (.int .i64) (.pair (.int .i64) (.sl 0 (.int .i64)))) v0 → ∃ N0, ∀ N, N0 ≤ N → Z0 N v0 (fun v2 => some ((), (v2, ()))) = some ((), ((g v0), ()))
theorem ok : Spec := fun m hb => ⟨0, fun N hN => by
 simp only [Z0, g, lk_eq, impl_within.g, shapedK, dimK, slices_ContainsFunc_int_int_shaped.g, List.not_any_eq_all_not, entK]
 cases h1 : inK m.1 1 5
 ·rfl
 cases h2 : inK m.2.1 m.1 8
 ·rfl
 have e1 := inK_iff.1 h1
 have e2 := inK_iff.1 h2
 have e3 : 0 ≤ m.1 * m.2.1 := Int.mul_nonneg (by omega) (by omega)
 have e4 : m.1 * m.2.1 ≤ 5 * 8 := Int.mul_le_mul (by omega) (by omega) (by omega) (by omega)
 rw [w64_id (by omega) (by omega)]
 cases h3 : decide ((m.2.2.length : Int) = m.1 * m.2.1)
 ·rfl
 simp [impl_shaped_1.g]⟩
end impl_shaped
end
end Go.Fw
namespace Go.Fw
section
variable {ρ : Type}
namespace impl_Matrix_at
def P (m : Int × Int × List Int) (i j : Int) : Bool := atP m i j
def g (m : Int × Int × List Int) (i j : Int) : Int := atK m i j
end impl_Matrix_at
namespace impl_Matrix_at
def Z0 {ρ : Type} (N : Nat) (a : MT) (b c : Int) (kr : Int → Option ρ) : Option ρ :=
 cond (lk N (inB (w64 ((w64 (b * a.1)) + c)) a.2.2.length)) (
  kr (a.2.2.getD (w64 ((w64 (b * a.1)) + c)).toNat 0)) none
def Spec : Prop := ∀  (v0 : MT) (v1 v2 : Int), Ty.bd (.pair (.int .i64) (.pair (.int .i64) (.sl 0 (.int .i64)))) v0 → P v0 v1 v2 = true → ∃ N0, ∀ N, N0 ≤ N → Z0 N v0 v1 v2 (fun v6 => some ((), (v6, ()))) = some ((), ((g v0 v1 v2), ()))
theorem ok : Spec := fun m i j hb hp => ⟨0, fun N hN => by
 obtain ⟨h1, h2, h3⟩ := at_index hb.2.2.1 hp
 simp only [Z0, g, atK, h1]
 rw [ct (inB_int h2 h3)]⟩
end impl_Matrix_at
end
end Go.Fw
namespace Go.Fw
section
variable {ρ : Type}
namespace impl_gcd
def P (a b : Int) : Bool := decide (0 ≤ a) && (decide (a < 9223372036854775808) && (decide (0 ≤ b) && decide (b < 9223372036854775808)))
def g (a b : Int) : Int := (Int.gcd a b : Int)
end impl_gcd
namespace impl_gcd
def Z1 {ρ : Type} (N : Nat) (a b : Int) (kn : I2 (Option ρ)) : Option ρ :=
 kn a b
def Z5 {ρ : Type} (N : Nat) (b a : Int) (kn : I2 (Option ρ)) (k0 : Int → Option ρ) : Option ρ :=
 cond (lk N (!(decide (a = 0))))
 (
  cond (lk N (!(decide (a = 0)))) (
   kn a (Int.tmod b a)) none)
 (
  k0 b)
def Z4L {ρ : Type} (N : Nat) (k0 : Int → Option ρ) : Nat → Int → Int → Option ρ
 | 0, _, _ => none
 | M + 1, a, b => Z5 N a b (fun a b => Z4L N k0 M a b) k0
def Z4 N a b k0 := (Z4L N k0 N a b : Option ρ)
def Z3 N a b kn := (Z4 N a b kn : Option ρ)
def Z6 {ρ : Type} (N : Nat) (a : Int) (kr : Int → Option ρ) : Option ρ :=
 kr (mx a (w64 (0 - a)))
def Z2 N a b kr := (Z3 N a b (fun a => Z6 N a kr) : Option ρ)
def Z0 N a b kr := (Z1 N a b (fun a b => Z2 N a b kr) : Option ρ)
def Spec : Prop := ∀  (v0 v1 : Int), P v0 v1 = true → ∃ N0, ∀ N, N0 ≤ N → Z0 N v0 v1 (fun v4 => some ((), (v4, ()))) = some ((), ((g v0 v1), ()))
theorem loop {ρ : Type} (N : Nat) (k0 : Int → Option ρ) : ∀ (M : Nat) (a b : Nat), b < M → Z4L N k0 M (a : Int) (b : Int) = k0 (Nat.gcd b a : Nat) := by
 intro M
 induction M with
 | zero => intro a b h; omega
 | succ M ih =>
  intro a b hM
  simp only [Z4L, Z5]
  by_cases h : b = 0
  ·subst h
   rw [cf (by simp), Nat.gcd_zero_left]
  ·rw [ct (nt (by omega)), ct (nt (by omega)), show Int.tmod (a : Int) (b : Int) = ((a % b : Nat) : Int) from rfl, ih _ _ (by have := Nat.mod_lt a (Nat.pos_of_ne_zero h); omega), ← Nat.gcd_rec]
theorem ok : Spec := fun a b hp => ⟨b.toNat + 1, fun N hN => by
 simp only [P, Bool.and_eq_true, decide_eq_true_eq] at hp
 obtain ⟨h1, h2, h3, h4⟩ := hp
 obtain ⟨x, rfl⟩ := Int.eq_ofNat_of_zero_le h1
 obtain ⟨y, rfl⟩ := Int.eq_ofNat_of_zero_le h3
 simp only [Z1, Z5, Z4, Z3, Z6, Z2, Z0, g]
 rw [loop N _ N x y (by omega), Nat.gcd_comm]
 have hl : Nat.gcd x y ≤ max x y := by
  rcases Nat.eq_zero_or_pos x with h | h
  ·subst h; rw [Nat.gcd_zero_left]; omega
  ·have := Nat.gcd_le_left y h; omega
 show some ((), (mx ((Nat.gcd x y : Nat) : Int) (w64 (0 - ((Nat.gcd x y : Nat) : Int))), ())) = some ((), (((Nat.gcd x y : Nat) : Int), ()))
 rw [w64_id (by omega) (by omega), mx_eq]
 congr 3
 omega⟩
end impl_gcd
end
end Go.Fw
namespace Go.Fw
section
variable {ρ : Type}
namespace impl_factors
def P (m : Int × Int × List Int) : Bool := shapedK m
abbrev g (m : Int × Int × List Int) : List Int := facK m
end impl_factors
namespace impl_factors
def Z1 {ρ : Type} (N : Nat) (a : MT) (kn : I2 (LI → Option ρ)) : Option ρ :=
 kn a.1 a.2.1 a.2.2
def Z3 {ρ : Type} (N : Nat) (a b : Int) (c : LI) (kn : LI → LI → I2 (LI → Option ρ)) : Option ρ :=
 bo (
  cond (lk N (leB 0 a && decide (a < 1099511627776))) (
   cond (lk N (leB 0 a && decide (a < 1099511627776))) (
    kn (List.replicate a.toNat (0 : Int)) (List.replicate a.toNat (0 : Int)) a b c) none) none)
def Z5 {ρ : Type} (N : Nat) (b c : LI) (a d : Int) (e : LI) (kn : LI → LI → LI → I2 (LI → Option ρ)) : Option ρ :=
 cond (lk N (leB 0 a && decide (a < 1099511627776))) (
  kn b c (List.replicate a.toNat (0 : Int)) a d e) none
def Z8 {ρ : Type} (N : Nat) (a b c : LI) (d e : Int) (f : LI) (kn : LI → LI → LI → I4 (LI → Option ρ)) : Option ρ :=
 kn a b c (a.length : Int) 0 d e f
def Z12 {ρ : Type} (N : Nat) (c d e : LI) (a b f g : Int) (h : LI) (kn : LI → LI → LI → I2 (Bool → I2 (LI → Option ρ))) : Option ρ :=
 kn c d e a b (lk N (decide (b < a))) f g h
def Z14 {ρ : Type} (N : Nat) (b c a : LI) (d e : Int) (f : Bool) (g h : Int) (i : LI) (kn : LI → LI → LI → I4 (LI → Option ρ)) (k0 : LI → Option ρ) : Option ρ :=
 cond (f)
 (
  kn b c a d e g h i)
 (
  k0 a)
def Z18 {ρ : Type} (N : Nat) (b c d : LI) (e a f g : Int) (h : LI) (kn : LI → LI → LI → I5 (LI → Option ρ)) : Option ρ :=
 kn b c d a e a f g h
def Z20 {ρ : Type} (N : Nat) (a c d : LI) (b e f g h : Int) (i : LI) (kn : LI → LI → LI → I5 (LI → Option ρ)) (k1 : LI → LI → LI → I4 (LI → Option ρ)) : Option ρ :=
 cond (lk N (inB b a.length)) (
  cond (lk N (!(decide ((a.getD b.toNat 0) = 0))))
  (
   k1 a c d e f g h i)
  (
   kn a c d b e f g h i)) none
def Z22 {ρ : Type} (N : Nat) (b c d : LI) (a e f g h : Int) (i : LI) (kn : LI → LI → LI → I5 (LI → Option ρ)) : Option ρ :=
 cond (lk N (inB a b.length)) (
  cond (lk N (inB a c.length)) (
   kn (b.set a.toNat 1) (c.set a.toNat 1) d a e f g h i) none) none
def Z24 {ρ : Type} (N : Nat) (a b c : LI) (d e f g h : Int) (i : LI) (kn : LI → LI → LI → LI → I4 (LI → Option ρ)) : Option ρ :=
 kn a b c ([d] : List Int) e f g h i
def Z27 {ρ : Type} (N : Nat) (a b c d : LI) (e f g h : Int) (i : LI) (kn : LI → LI → LI → LI → I5 (LI → Option ρ)) : Option ρ :=
 kn a b c d 0 e f g h i
def Z31 {ρ : Type} (N : Nat) (b c d a : LI) (e f g h i : Int) (j : LI) (kn : LI → LI → LI → LI → I5 (LI → Option ρ)) (k2 : LI → LI → LI → LI → I4 (LI → Option ρ)) : Option ρ :=
 cond (lk N (decide (e < (a.length : Int))))
 (
  kn b c d a e f g h i j)
 (
  k2 b c d a f g h i j)
def Z35 {ρ : Type} (N : Nat) (c d e a : LI) (b f g h i : Int) (j : LI) (kn : LI → LI → LI → LI → I6 (LI → Option ρ)) : Option ρ :=
 cond (lk N (inB b a.length)) (
  kn c d e a b (a.getD b.toNat 0) f g h i j) none
def Z37 {ρ : Type} (N : Nat) (a b c d : LI) (e f g h i j : Int) (l : LI) (kn : LI → LI → LI → LI → I8 (LI → Option ρ)) : Option ρ :=
 kn a b c d e f g h (a.length : Int) 0 i j l
def Z41 {ρ : Type} (N : Nat) (c d e f : LI) (g h i j a b l m : Int) (o : LI) (kn : LI → LI → LI → LI → I6 (Bool → I2 (LI → Option ρ))) : Option ρ :=
 kn c d e f g h i j a b (lk N (decide (b < a))) l m o
def Z43 {ρ : Type} (N : Nat) (a b c d : LI) (e l f g m o : Int) (p : Bool) (h i : Int) (j : LI) (kn : LI → LI → LI → LI → I8 (LI → Option ρ)) (k4 : LI → LI → LI → LI → I5 (LI → Option ρ)) : Option ρ :=
 cond (p)
 (
  kn a b c d e l f g m o h i j)
 (
  k4 a b c d e f g h i j)
def Z47 {ρ : Type} (N : Nat) (b c d e : LI) (f g h i j a l m : Int) (o : LI) (kn : LI → LI → LI → LI → Int → I8 (LI → Option ρ)) : Option ρ :=
 kn b c d e f g a h i j a l m o
def Z49 {ρ : Type} (N : Nat) (f h i j : LI) (l a b m o p q c d : Int) (e : LI) (kn : LI → LI → LI → LI → I3 (I8 (LI → Option ρ))) : Option ρ :=
 cond (lk N (impl_Matrix_at.P (c, (d, e)) a b)) (
  cond (lk N (impl_Matrix_at.P (c, (d, e)) b a)) (
   kn f h i j l a b (impl_Matrix_at.g (c, (d, e)) a b) (w64 (0 - (impl_Matrix_at.g (c, (d, e)) b a))) m o p q c d e) none) none
def Z51 {ρ : Type} (N : Nat) (a b c d : LI) (e f r g h i j l m o p : Int) (q : LI) (kn : LI → LI → LI → LI → I3 (I8 (LI → Option ρ))) (k5 : LI → LI → LI → LI → I8 (LI → Option ρ)) : Option ρ :=
 cond (lk N (decide (g = 0)))
 (
  cond (lk N (decide (h = 0)))
  (
   k5 a b c d e f i j l m o p q)
  (
   kn a b c d e f r g h i j l m o p q))
 (
  kn a b c d e f r g h i j l m o p q)
def Z52 {ρ : Type} (N : Nat) (b c i h : LI) (j d a e f l m o p q r : Int) (s : LI) (kn : LI → LI → LI → LI → I8 (LI → Option ρ)) (kr : LI → Option ρ) : Option ρ :=
 let x1_ := (w64 ((b.getD d.toNat 0) * (mx e (w64 (0 - e)))))
 let x2_ := (w64 ((c.getD d.toNat 0) * (mx f (w64 (0 - f)))))
 let x0_ := (impl_gcd.g x1_ x2_)
 cond (lk N (decide (e = 0)))
 (
 kr ([] : List Int))
 (
 cond (lk N (decide (f = 0)))
 (
 kr ([] : List Int))
 (
 cond (lk N (!(((lk N (decide (0 < e))) == (lk N (decide (0 < f)))))))
 (
 kr ([] : List Int))
 (
 cond (lk N (decide (d = a)))
 (
 kr ([] : List Int))
 (
 cond (lk N (inB d b.length)) (
 cond (lk N (inB d c.length)) (
 cond (lk N (impl_gcd.P x1_ x2_)) (
 cond (lk N (!(decide (x0_ = 0)))) (
 cond (lk N (!(decide (x0_ = 0)))) (
 cond (lk N (inB a b.length)) (
 cond (lk N (decide ((b.getD a.toNat 0) = 0)))
 (
 cond (lk N (inB a b.length)) (
 cond (lk N (inB a c.length)) (
 cond (lk N (Nat.blt (h.length + ([a] : List Int).length) 1099511627776)) (
 kn (b.set a.toNat (w64 (Int.tdiv x1_ x0_))) (c.set a.toNat (w64 (Int.tdiv x2_ x0_))) i (h ++ ([a] : List Int)) j d l m o p q r s) none) none) none)
 (
 cond (lk N (inB a b.length)) (
 cond (lk N (!(decide ((b.getD a.toNat 0) = (w64 (Int.tdiv x1_ x0_))))))
 (
 kr ([] : List Int))
 (
 cond (lk N (inB a c.length)) (
 cond (lk N (!(decide ((c.getD a.toNat 0) = (w64 (Int.tdiv x2_ x0_))))))
 (
 kr ([] : List Int))
 (
 kn b c i h j d l m o p q r s)) none)) none)) none) none) none) none) none) none))))
def Z50 N a b c d e f g h i j l m o p q r kn k5 kr := (Z51 N a b c d e f g h i j l m o p q r (fun a b c d e f g h i j l m o p q r => Z52 N a b c d e f g h i j l m o p q r kn kr) k5 : Option ρ)
def Z48 N a b c d e f g h i j l m o p kn k5 kr := (Z49 N a b c d e f g h i j l m o p (fun a b c d e f g q r h i j l m o p => Z50 N a b c d e f g q r h i j l m o p kn k5 kr) : Option ρ)
def Z46 N a b c d e f g h i j l m o kn k5 kr := (Z47 N a b c d e f g h i j l m o (fun a b c d e f p g h i j l m o => Z48 N a b c d e f p g h i j l m o kn k5 kr) : Option ρ)
def Z45 N a b c d e f g h i j l m o kn kr := (Z46 N a b c d e f g h i j l m o kn kn kr : Option ρ)
def Z53 {ρ : Type} (N : Nat) (a b c d : LI) (e f g h i j l m : Int) (o : LI) (kn : LI → LI → LI → LI → I8 (LI → Option ρ)) : Option ρ :=
 kn a b c d e f g h i (w64 (j + 1)) l m o
def Z44 N a b c d e f g h i j l m o kn kr := (Z45 N a b c d e f g h i j l m o (fun a b c d e f g h i j l m o => Z53 N a b c d e f g h i j l m o kn) kr : Option ρ)
def Z42 N a b c d e f g h i j p l m o kn k4 kr := (Z43 N a b c d e f g h i j p l m o (fun a b c d e f g h i j l m o => Z44 N a b c d e f g h i j l m o kn kr) k4 : Option ρ)
def Z40 N a b c d e f g h i j l m o kn k4 kr := (Z41 N a b c d e f g h i j l m o (fun a b c d e f g h i j p l m o => Z42 N a b c d e f g h i j p l m o kn k4 kr) : Option ρ)
def Z39L {ρ : Type} (N : Nat) (k4 : LI → LI → LI → LI → I5 (LI → Option ρ)) (kr : LI → Option ρ) : Nat → LI → LI → LI → LI → Int → Int → Int → Int → Int → Int → Int → Int → LI → Option ρ
 | 0, _, _, _, _, _, _, _, _, _, _, _, _, _ => none
 | M + 1, a, b, c, d, e, f, g, h, i, j, l, m, o => Z40 N a b c d e f g h i j l m o (fun a b c d e f g h i j l m o => Z39L N k4 kr M a b c d e f g h i j l m o) k4 kr
def Z39 N a b c d e f g h i j l m o k4 kr := (Z39L N k4 kr N a b c d e f g h i j l m o : Option ρ)
def Z38 N a b c d e f g h i j l m o kn kr := (Z39 N a b c d e f g h i j l m o kn kr : Option ρ)
def Z36 N a b c d e f g h i j l kn kr := (Z37 N a b c d e f g h i j l (fun a b c d e f g h m o i j l => Z38 N a b c d e f g h m o i j l kn kr) : Option ρ)
def Z34 N a b c d e f g h i j kn kr := (Z35 N a b c d e f g h i j (fun a b c d e l f g h i j => Z36 N a b c d e l f g h i j kn kr) : Option ρ)
def Z33 N a b c d e f g h i j kn kr := (Z34 N a b c d e f g h i j kn kr : Option ρ)
def Z54 {ρ : Type} (N : Nat) (a b c d : LI) (e f g h i : Int) (j : LI) (kn : LI → LI → LI → LI → I5 (LI → Option ρ)) : Option ρ :=
 kn a b c d (w64 (e + 1)) f g h i j
def Z32 N a b c d e f g h i j kn kr := (Z33 N a b c d e f g h i j (fun a b c d e f g h i j => Z54 N a b c d e f g h i j kn) kr : Option ρ)
def Z30 N a b c d e f g h i j kn k2 kr := (Z31 N a b c d e f g h i j (fun a b c d e f g h i j => Z32 N a b c d e f g h i j kn kr) k2 : Option ρ)
def Z29L {ρ : Type} (N : Nat) (k2 : LI → LI → LI → LI → I4 (LI → Option ρ)) (kr : LI → Option ρ) : Nat → LI → LI → LI → LI → Int → Int → Int → Int → Int → LI → Option ρ
 | 0, _, _, _, _, _, _, _, _, _, _ => none
 | M + 1, a, b, c, d, e, f, g, h, i, j => Z30 N a b c d e f g h i j (fun a b c d e f g h i j => Z29L N k2 kr M a b c d e f g h i j) k2 kr
def Z29 N a b c d e f g h i j k2 kr := (Z29L N k2 kr N a b c d e f g h i j : Option ρ)
def Z28 N a b c d e f g h i j kn kr := (Z29 N a b c d e f g h i j kn kr : Option ρ)
def Z26 N a b c d e f g h i kn kr := (Z27 N a b c d e f g h i (fun a b c d j e f g h i => Z28 N a b c d j e f g h i kn kr) : Option ρ)
def Z56 {ρ : Type} (N : Nat) (a b c d : LI) (e f g h : Int) (i : LI) (kn : LI → LI → LI → LI → I5 (LI → Option ρ)) : Option ρ :=
 kn a b c d 1 e f g h i
def Z59 {ρ : Type} (N : Nat) (b c d a : LI) (e f g h i : Int) (j : LI) (kn : LI → LI → LI → LI → I7 (LI → Option ρ)) : Option ρ :=
 kn b c d a e f g (a.length : Int) 0 h i j
def Z62 {ρ : Type} (N : Nat) (e c f a : LI) (d h i j b l m : Int) (o : LI) (kn : LI → LI → LI → LI → I7 (LI → Option ρ)) (k6 : LI → LI → LI → LI → I5 (LI → Option ρ)) : Option ρ :=
 cond (lk N (decide (b < j)))
 (
  cond (lk N (inB b a.length)) (
   cond (lk N (inB (a.getD b.toNat 0) c.length)) (
    cond (lk N (inB (a.getD b.toNat 0) c.length)) (
     cond (lk N (impl_gcd.P d (c.getD (a.getD b.toNat 0).toNat 0))) (
      cond (lk N (!(decide ((impl_gcd.g d (c.getD (a.getD b.toNat 0).toNat 0)) = 0)))) (
       kn e c f a (w64 ((w64 (Int.tdiv d (impl_gcd.g d (c.getD (a.getD b.toNat 0).toNat 0)))) * (c.getD (a.getD b.toNat 0).toNat 0))) h i j (w64 (b + 1)) l m o) none) none) none) none) none)
 (
  k6 e c f a d h i l m o)
def Z61L {ρ : Type} (N : Nat) (k6 : LI → LI → LI → LI → I5 (LI → Option ρ)) : Nat → LI → LI → LI → LI → Int → Int → Int → Int → Int → Int → Int → LI → Option ρ
 | 0, _, _, _, _, _, _, _, _, _, _, _, _ => none
 | M + 1, a, b, c, d, e, f, g, h, i, j, l, m => Z62 N a b c d e f g h i j l m (fun a b c d e f g h i j l m => Z61L N k6 M a b c d e f g h i j l m) k6
def Z61 N a b c d e f g h i j l m k6 := (Z61L N k6 N a b c d e f g h i j l m : Option ρ)
def Z60 N a b c d e f g h i j l m kn := (Z61 N a b c d e f g h i j l m kn : Option ρ)
def Z58 N a b c d e f g h i j kn := (Z59 N a b c d e f g h i j (fun a b c d e f g l m h i j => Z60 N a b c d e f g l m h i j kn) : Option ρ)
def Z64 {ρ : Type} (N : Nat) (a b c d : LI) (e f g h i : Int) (j : LI) (kn : LI → LI → LI → LI → I6 (LI → Option ρ)) : Option ρ :=
 kn a b c d e 0 f g h i j
def Z67 {ρ : Type} (N : Nat) (b c d a : LI) (e f g h i j : Int) (l : LI) (kn : LI → LI → LI → LI → I8 (LI → Option ρ)) : Option ρ :=
 kn b c d a e f g h (a.length : Int) 0 i j l
def Z70 {ρ : Type} (N : Nat) (d c e a : LI) (f h i j l b m o : Int) (p : LI) (kn : LI → LI → LI → LI → I8 (LI → Option ρ)) (k8 : LI → LI → LI → LI → I5 (LI → Option ρ)) : Option ρ :=
 cond (lk N (decide (b < l)))
 (
  cond (lk N (inB b a.length)) (
   cond (lk N (inB (a.getD b.toNat 0) c.length)) (
    cond (lk N (!(decide ((c.getD (a.getD b.toNat 0).toNat 0) = 0)))) (
     cond (lk N (inB (a.getD b.toNat 0) d.length)) (
      cond (lk N (inB (a.getD b.toNat 0) e.length)) (
       cond (lk N (inB (a.getD b.toNat 0) (e.set (a.getD b.toNat 0).toNat (w64 ((w64 (Int.tdiv f (c.getD (a.getD b.toNat 0).toNat 0))) * (d.getD (a.getD b.toNat 0).toNat 0)))).length)) (
        cond (lk N (impl_gcd.P h ((e.set (a.getD b.toNat 0).toNat (w64 ((w64 (Int.tdiv f (c.getD (a.getD b.toNat 0).toNat 0))) * (d.getD (a.getD b.toNat 0).toNat 0)))).getD (a.getD b.toNat 0).toNat 0))) (
         kn d c (e.set (a.getD b.toNat 0).toNat (w64 ((w64 (Int.tdiv f (c.getD (a.getD b.toNat 0).toNat 0))) * (d.getD (a.getD b.toNat 0).toNat 0)))) a f (impl_gcd.g h ((e.set (a.getD b.toNat 0).toNat (w64 ((w64 (Int.tdiv f (c.getD (a.getD b.toNat 0).toNat 0))) * (d.getD (a.getD b.toNat 0).toNat 0)))).getD (a.getD b.toNat 0).toNat 0)) i j l (w64 (b + 1)) m o p) none) none) none) none) none) none) none)
 (
  k8 d c e a h i j m o p)
def Z69L {ρ : Type} (N : Nat) (k8 : LI → LI → LI → LI → I5 (LI → Option ρ)) : Nat → LI → LI → LI → LI → Int → Int → Int → Int → Int → Int → Int → Int → LI → Option ρ
 | 0, _, _, _, _, _, _, _, _, _, _, _, _, _ => none
 | M + 1, a, b, c, d, e, f, g, h, i, j, l, m, o => Z70 N a b c d e f g h i j l m o (fun a b c d e f g h i j l m o => Z69L N k8 M a b c d e f g h i j l m o) k8
def Z69 N a b c d e f g h i j l m o k8 := (Z69L N k8 N a b c d e f g h i j l m o : Option ρ)
def Z68 N a b c d e f g h i j l m o kn := (Z69 N a b c d e f g h i j l m o kn : Option ρ)
def Z66 N a b c d e f g h i j l kn := (Z67 N a b c d e f g h i j l (fun a b c d e f g h m o i j l => Z68 N a b c d e f g h m o i j l kn) : Option ρ)
def Z72 {ρ : Type} (N : Nat) (b c d a : LI) (e f g h i : Int) (j : LI) (kn : LI → LI → LI → LI → I7 (LI → Option ρ)) : Option ρ :=
 kn b c d a e f g (a.length : Int) 0 h i j
def Z75 {ρ : Type} (N : Nat) (e f c b : LI) (d g h i a j l : Int) (m : LI) (kn : LI → LI → LI → LI → I7 (LI → Option ρ)) (k10 : LI → LI → LI → I4 (LI → Option ρ)) : Option ρ :=
 cond (lk N (decide (a < i)))
 (
  cond (lk N (inB a b.length)) (
   cond (lk N (inB (b.getD a.toNat 0) c.length)) (
    cond (lk N (!(decide (d = 0)))) (
     cond (lk N (inB (b.getD a.toNat 0) c.length)) (
      kn e f (c.set (b.getD a.toNat 0).toNat (w64 (Int.tdiv (c.getD (b.getD a.toNat 0).toNat 0) d))) b d g h i (w64 (a + 1)) j l m) none) none) none) none)
 (
  k10 e f c g h j l m)
def Z74L {ρ : Type} (N : Nat) (k10 : LI → LI → LI → I4 (LI → Option ρ)) : Nat → LI → LI → LI → LI → Int → Int → Int → Int → Int → Int → Int → LI → Option ρ
 | 0, _, _, _, _, _, _, _, _, _, _, _, _ => none
 | M + 1, a, b, c, d, e, f, g, h, i, j, l, m => Z75 N a b c d e f g h i j l m (fun a b c d e f g h i j l m => Z74L N k10 M a b c d e f g h i j l m) k10
def Z74 N a b c d e f g h i j l m k10 := (Z74L N k10 N a b c d e f g h i j l m : Option ρ)
def Z73 N a b c d e f g h i j l m kn := (Z74 N a b c d e f g h i j l m kn : Option ρ)
def Z71 N a b c j d e f g h i kn := (Z72 N a b c j d e f g h i (fun a b c l d e f m o g h i => Z73 N a b c l d e f m o g h i kn) : Option ρ)
def Z65 N a b c d l e f g h i j kn := (Z66 N a b c d l e f g h i j (fun a b c d e f g h i j => Z71 N a b c d e f g h i j kn) : Option ρ)
def Z63 N a b c d e f g h i j kn := (Z64 N a b c d e f g h i j (fun a b c d e l f g h i j => Z65 N a b c d e l f g h i j kn) : Option ρ)
def Z57 N a b c d e f g h i j kn := (Z58 N a b c d e f g h i j (fun a b c d e f g h i j => Z63 N a b c d e f g h i j kn) : Option ρ)
def Z55 N a b c d e f g h i kn := (Z56 N a b c d e f g h i (fun a b c d j e f g h i => Z57 N a b c d j e f g h i kn) : Option ρ)
def Z25 N a b c d e f g h i kn kr := (Z26 N a b c d e f g h i (fun a b c d e f g h i => Z55 N a b c d e f g h i kn) kr : Option ρ)
def Z23 N a b c i d e f g h kn kr := (Z24 N a b c i d e f g h (fun a b c j d e f g h => Z25 N a b c j d e f g h kn kr) : Option ρ)
def Z21 N a b c d e f g h i kn kr := (Z22 N a b c d e f g h i (fun a b c d e f g h i => Z23 N a b c d e f g h i kn kr) : Option ρ)
def Z19 N a b c d e f g h i kn k1 kr := (Z20 N a b c d e f g h i (fun a b c d e f g h i => Z21 N a b c d e f g h i kn kr) k1 : Option ρ)
def Z17 N a b c d e f g h kn k1 kr := (Z18 N a b c d e f g h (fun a b c i d e f g h => Z19 N a b c i d e f g h kn k1 kr) : Option ρ)
def Z16 N a b c d e f g h kn kr := (Z17 N a b c d e f g h kn kn kr : Option ρ)
def Z76 {ρ : Type} (N : Nat) (a b c : LI) (d e f g : Int) (h : LI) (kn : LI → LI → LI → I4 (LI → Option ρ)) : Option ρ :=
 kn a b c d (w64 (e + 1)) f g h
def Z15 N a b c d e f g h kn kr := (Z16 N a b c d e f g h (fun a b c d e f g h => Z76 N a b c d e f g h kn) kr : Option ρ)
def Z13 N a b c d e i f g h kn k0 kr := (Z14 N a b c d e i f g h (fun a b c d e f g h => Z15 N a b c d e f g h kn kr) k0 : Option ρ)
def Z11 N a b c d e f g h kn k0 kr := (Z12 N a b c d e f g h (fun a b c d e i f g h => Z13 N a b c d e i f g h kn k0 kr) : Option ρ)
def Z10L {ρ : Type} (N : Nat) (k0 kr : LI → Option ρ) : Nat → LI → LI → LI → Int → Int → Int → Int → LI → Option ρ
 | 0, _, _, _, _, _, _, _, _ => none
 | M + 1, a, b, c, d, e, f, g, h => Z11 N a b c d e f g h (fun a b c d e f g h => Z10L N k0 kr M a b c d e f g h) k0 kr
def Z10 N a b c d e f g h k0 kr := (Z10L N k0 kr N a b c d e f g h : Option ρ)
def Z9 N a b c d e f g h kn kr := (Z10 N a b c d e f g h kn kr : Option ρ)
def Z7 N a b c d e f kn kr := (Z8 N a b c d e f (fun a b c g h d e f => Z9 N a b c g h d e f kn kr) : Option ρ)
def Z77 {ρ : Type} (N : Nat) (a : LI) (kr : LI → Option ρ) : Option ρ :=
 cond (Nat.blt 0 a.length) (
  kr a) none
def Z6 N b c a d e f kr := (Z7 N b c a d e f (fun a => Z77 N a kr) kr : Option ρ)
def Z4 N a b c d e kr := (Z5 N a b c d e (fun a b f c d e => Z6 N a b f c d e kr) : Option ρ)
def Z2 N a b c kr := (Z3 N a b c (fun d e a b c => Z4 N d e a b c kr) : Option ρ)
def Z0 N a kr := (Z1 N a (fun b c d => Z2 N b c d kr) : Option ρ)
def Spec : Prop := ∀  (v0 : MT), Ty.bd (.pair (.int .i64) (.pair (.int .i64) (.sl 0 (.int .i64)))) v0 → P v0 = true → ∃ N0, ∀ N, N0 ≤ N → Z0 N v0 (fun v2 => some ((), (v2, ()))) = some ((), ((g v0), ()))
theorem mx_abs {a : Int} (h : -99 ≤ a ∧ a ≤ 99) : mx a (w64 (0 - a)) = absK a := by
 rw [w64_id (by omega) (by omega), mx_eq]
 unfold absK
 omega
theorem absK_neg (a : Int) : absK (-a) = absK a := by unfold absK; omega
theorem pow4 {k : Nat} (h : k ≤ 4) : (99 : Int) ^ k ≤ 96059601 := by
 have h1 : 99 ^ k ≤ 99 ^ 4 := Nat.pow_le_pow_right (by omega) h
 have h2 : (99 : Int) ^ k = ((99 ^ k : Nat) : Int) := by rw [Int.natCast_pow]; rfl
 rw [h2]
 omega
theorem ne_good {n : Nat} {A : Nat → Nat → Int} {x j : Nat} (hx : x < n) (hj : j < n) (h : ¬ (A x j = 0 ∧ A j x = 0)) (h' : A x j = 0 ∨ A j x = 0) : ¬ ∃ e, Good n A e := by
 rintro ⟨e, he⟩
 rcases h' with z | z
 ·exact h ⟨z, good_zero he hx hj z⟩
 ·exact h ⟨good_zero he hj hx z, z⟩
section
variable {ρ : Type} {N : Nat} {m : Int × Int × List Int} {s p x j : Nat} {num0 num den out : List Int} {L : List Nat}
theorem core (hm : shapedK m = true) (hn : m.1.toNat ≤ 5) (hcl : Closed m.1.toNat (ent m) num0) (hf : FInv m.1.toNat (ent m) s num0 L num den) (hp : p < L.length) (hx : L.getD p 0 = x) (hj : j < m.1.toNat) (h0 : ¬ (ent m x j = 0 ∧ ent m j x = 0))
  (kn : List Int → List Int → List Int → List Int → Int → Int → Int → Int → Int → Int → Int → Int → List Int → Option ρ) (kr : List Int → Option ρ) (t34 t35 t62 t63 : Int) :
  (Z52 N num den out (ints L) (p : Int) (x : Int) (j : Int) (ent m x j) (-(ent m j x)) t34 t35 t62 t63 m.1 m.2.1 m.2.2 kn kr = kr [] ∧ ¬ ∃ e, Good m.1.toNat (ent m) e) ∨
  (∃ L' num' den', FInv m.1.toNat (ent m) s num0 L' num' den' ∧ (∃ u, L' = L ++ u) ∧ (∀ y ∈ L, ∀ k, Edge (ent m) L num den y k → Edge (ent m) L' num' den' y k) ∧ Edge (ent m) L' num' den' x j ∧
   Z52 N num den out (ints L) (p : Int) (x : Int) (j : Int) (ent m x j) (-(ent m j x)) t34 t35 t62 t63 m.1 m.2.1 m.2.2 kn kr = kn num' den' out (ints L') (p : Int) (x : Int) t34 t35 t62 t63 m.1 m.2.1 m.2.2) := by
 have hxm : x ∈ L := by rw [← hx]; exact getD_mem 0 hp
 have hxn := hf.lt x hxm
 have hle := hf.le
 simp only [Z52]
 by_cases z1 : ent m x j = 0
 ·rw [ct (dt z1)]
  exact Or.inl ⟨rfl, ne_good hxn hj h0 (Or.inl z1)⟩
 rw [cf (df z1)]
 by_cases z2 : ent m j x = 0
 ·rw [ct (dt (by omega))]
  exact Or.inl ⟨rfl, ne_good hxn hj h0 (Or.inr z2)⟩
 rw [cf (df (by omega))]
 by_cases sg : (0 < ent m x j ↔ 0 < -(ent m j x))
 ·have sgb : (!(((lk N (decide (0 < ent m x j))) == (lk N (decide (0 < -(ent m j x))))))) = false := by
   rw [lk_eq, lk_eq]
   by_cases h1 : 0 < ent m x j
   ·rw [dt h1, dt (sg.1 h1)]; rfl
   ·rw [df h1, df (fun h => h1 (sg.2 h))]; rfl
  rw [cf sgb]
  have hne : ¬ ((x : Int) = (j : Int)) := fun e => by
   have e' : x = j := by omega
   subst e'
   omega
  rw [cf (df hne)]
  obtain ⟨Q, q1, q2, q3⟩ := hf.frac
  obtain ⟨c1, c2, c3, c4, c5⟩ := q3 x hxm
  have st := stepN (A := ent m) (num := num) (den := den) x j c1 c3 z1 z2
  have sk := skew_of z1 z2 sg
  have hb := ent_bound hm
  have e1 := mx_abs (hb x j)
  have e2 : mx (-(ent m j x)) (w64 (0 - -(ent m j x))) = absK (ent m j x) := by
   rw [mx_abs (by have := hb j x; omega), absK_neg]
  have pw := pow4 (k := L.length - 1) (by omega)
  have hdQ := Int.le_of_dvd q1 c4
  have a1 := absK_le (hb x j)
  have a2 := absK_le (hb j x)
  have a1' := absK_pos z1
  have a2' := absK_pos z2
  have b1 : num.getD x 0 * absK (ent m x j) ≤ 96059601 * 99 := Int.mul_le_mul (by omega) a1 (by omega) (by omega)
  have b2 : den.getD x 0 * absK (ent m j x) ≤ 96059601 * 99 := Int.mul_le_mul (by omega) a2 (by omega) (by omega)
  have hA := st.a0p
  have hB := st.b0p
  simp only [e1, e2, Int.toNat_natCast, w64_id (show -9223372036854775808 ≤ num.getD x 0 * absK (ent m x j) by omega) (by omega), w64_id (show -9223372036854775808 ≤ den.getD x 0 * absK (ent m j x) by omega) (by omega), impl_gcd.g]
  generalize hA0 : num.getD x 0 * absK (ent m x j) = A0 at *
  generalize hB0 : den.getD x 0 * absK (ent m j x) = B0 at *
  generalize hG : (Int.gcd A0 B0 : Int) = G at *
  generalize ha : Int.tdiv A0 G = a at *
  generalize hb' : Int.tdiv B0 G = b at *
  have gp := st.gp
  have ap := st.ap
  have bp := st.bp
  have al : a ≤ A0 := by
   have h1 := Int.mul_le_mul_of_nonneg_left (show (1 : Int) ≤ G by omega) (Int.le_of_lt ap)
   have h2 := st.ea
   omega
  have bl : b ≤ B0 := by
   have h1 := Int.mul_le_mul_of_nonneg_left (show (1 : Int) ≤ G by omega) (Int.le_of_lt bp)
   have h2 := st.eb
   omega
  have i1 : inB (x : Int) num.length = true := inB_nat (by rw [hf.nl]; exact hxn)
  have i2 : inB (x : Int) den.length = true := inB_nat (by rw [hf.dl]; exact hxn)
  have i3 : inB (j : Int) num.length = true := inB_nat (by rw [hf.nl]; exact hj)
  have i4 : inB (j : Int) den.length = true := inB_nat (by rw [hf.dl]; exact hj)
  have hP : impl_gcd.P A0 B0 = true := by
   simp only [impl_gcd.P, Bool.and_eq_true, decide_eq_true_eq]
   omega
  rw [ct i1, ct i2, ct hP, ct (nt (by omega)), ct (nt (by omega)), ct i3]
  simp only [w64_id (show -9223372036854775808 ≤ a by omega) (by omega), w64_id (show -9223372036854775808 ≤ b by omega) (by omega)]
  by_cases hz : num.getD j 0 = 0
  ·obtain ⟨hg, hnj⟩ := hf.grow hp hj hz (by rw [hx]; exact st) (fun y k => absK_le (hb y k))
   have hxj : ∀ y ∈ L, j ≠ y := fun y hy e => hnj (e ▸ hy)
   have hnl : j < num.length := by rw [hf.nl]; exact hj
   have hdl : j < den.length := by rw [hf.dl]; exact hj
   rw [ct (dt hz), ct i3, ct i4, ct (show Nat.blt ((ints L).length + ([(j : Int)]).length) 1099511627776 = true by simp [ints_len, Nat.blt_eq]; omega), ints_append]
   refine Or.inr ⟨L ++ [j], num.set j a, den.set j b, hg, ⟨_, rfl⟩, fun y hy k he => he.grow hxj hnl hdl hy, Or.inr ⟨by simp, ?_⟩, rfl⟩
   have := step_edge st sk
   rw [getD_put hnl, if_neg (hxj x hxm), getD_put hdl, if_pos rfl, getD_put hnl, if_pos rfl, getD_put hdl, if_neg (hxj x hxm)]
   exact this
  ·have hjm : j ∈ L := Classical.byContradiction fun hc => by
    have h1 : num0.getD j 0 ≠ 0 := by rw [← hf.out j hj hc]; exact hz
    exact hcl j hj h1 x hxn (Or.inr z1) (hf.new x hxm)
   obtain ⟨d1, d2, d3, d4, d5⟩ := q3 j hjm
   have hgood : (∃ e, Good m.1.toNat (ent m) e) → num.getD j 0 = a ∧ den.getD j 0 = b := by
    rintro ⟨e, he⟩
    have g1 := step_good st hxn hj he (hf.good e he x hxm)
    have g2 := hf.good e he j hjm
    have p1 := (he j hj).1
    have p2 : 0 < e s := (he s (by rw [← hf.hd]; exact hf.lt _ (getD_mem 0 hf.pos))).1
    have g3 : (e s * e j) * (num.getD j 0 * b) = (e s * e j) * (a * den.getD j 0) := by grind
    have p3 := Int.mul_pos p2 p1
    exact frac_eq d1 d3 ap bp d5 st.co (Int.eq_of_mul_eq_mul_left (by omega) g3)
   rw [cf (df hz), ct i3]
   by_cases ea : num.getD j 0 = a
   ·rw [cf (nf ea), ct i4]
    by_cases eb : den.getD j 0 = b
    ·rw [cf (nf eb)]
     refine Or.inr ⟨L, num, den, hf, ⟨[], by simp⟩, fun _ _ _ h => h, Or.inr ⟨hjm, ?_⟩, rfl⟩
     rw [ea, eb]
     exact step_edge st sk
    ·rw [ct (nt eb)]
     exact Or.inl ⟨rfl, fun h => eb (hgood h).2⟩
   ·rw [ct (nt ea)]
    exact Or.inl ⟨rfl, fun h => ea (hgood h).1⟩
 ·have sgb : (!(((lk N (decide (0 < ent m x j))) == (lk N (decide (0 < -(ent m j x))))))) = true := by
   rw [lk_eq, lk_eq]
   by_cases h1 : 0 < ent m x j
   ·rw [dt h1, df (fun h2 => sg ⟨fun _ => h2, fun _ => h1⟩)]; rfl
   ·rw [df h1, dt (Classical.byContradiction fun h2 => sg ⟨fun h => absurd h h1, fun h => absurd h h2⟩)]; rfl
  rw [ct sgb]
  refine Or.inl ⟨rfl, ?_⟩
  rintro ⟨e, he⟩
  have h1 := good_sign he hxn hj
  rw [signK, Bool.and_eq_true, beq_iff_eq, decide_eq_decide] at h1
  have := h1.1
  omega
theorem at_g (hd : 0 ≤ m.1) (a b : Nat) : impl_Matrix_at.g (m.1, (m.2.1, m.2.2)) (a : Int) (b : Int) = ent m a b := atK_nat hd a b
theorem at_p (hd : dimK m = true) {a b : Nat} (ha : a < m.1.toNat) (hb : b < m.1.toNat) : impl_Matrix_at.P (m.1, (m.2.1, m.2.2)) (a : Int) (b : Int) = true := by
 obtain ⟨n, r, hn, hr, hn1, hn5, hnr, hr8, hl⟩ := dim_nat hd
 exact at_ok hd (by omega) hb
theorem inner (hm : shapedK m = true) (hcl : Closed m.1.toNat (ent m) num0) (k4 : List Int → List Int → List Int → List Int → Int → Int → Int → Int → Int → List Int → Option ρ) (kr : List Int → Option ρ) (t34 t35 : Int) : ∀ (M j : Nat) (L : List Nat) (num den : List Int), FInv m.1.toNat (ent m) s num0 L num den → p < L.length → L.getD p 0 = x → j ≤ m.1.toNat → m.1.toNat - j < M →
  (∀ k', k' < p → ∀ k, k < m.1.toNat → Edge (ent m) L num den (L.getD k' 0) k) → (∀ k, k < j → Edge (ent m) L num den x k) →
  (Z39L N k4 kr M num den out (ints L) (p : Int) (x : Int) t34 t35 (m.1.toNat : Int) (j : Int) m.1 m.2.1 m.2.2 = kr [] ∧ ¬ ∃ e, Good m.1.toNat (ent m) e) ∨
  (∃ L' num' den', FInv m.1.toNat (ent m) s num0 L' num' den' ∧ p < L'.length ∧ (∀ k', k' < p + 1 → ∀ k, k < m.1.toNat → Edge (ent m) L' num' den' (L'.getD k' 0) k) ∧
   Z39L N k4 kr M num den out (ints L) (p : Int) (x : Int) t34 t35 (m.1.toNat : Int) (j : Int) m.1 m.2.1 m.2.2 = k4 num' den' out (ints L') (p : Int) t34 t35 m.1 m.2.1 m.2.2) := by
 have hdim := shaped_dim hm
 obtain ⟨n, r, hn, hr, hn1, hn5, hnr, hr8, hl⟩ := dim_nat hdim
 intro M
 induction M with
 | zero => intro j _ _ _ _ _ _ _ h; omega
 | succ M ih =>
  intro j L num den hf hp hx hj hM hE1 hE2
  have hxm : x ∈ L := by rw [← hx]; exact getD_mem 0 hp
  have hxn := hf.lt x hxm
  simp only [Z39L, Z40, Z41, Z42, Z43]
  by_cases hlt : j < m.1.toNat
  ·rw [ct' (by rw [lk_eq]; exact dt (by omega))]
   simp only [Z44, Z45, Z46, Z47, Z48, Z49]
   rw [ct (at_p hdim hxn hlt), ct (at_p hdim hlt hxn), at_g (by omega), at_g (by omega)]
   have hb := ent_bound hm j x
   rw [show w64 (0 - ent m j x) = -(ent m j x) by rw [w64_id (by omega) (by omega)]; omega]
   simp only [Z50, Z51]
   have next : ∀ (L' : List Nat) (num' den' : List Int), FInv m.1.toNat (ent m) s num0 L' num' den' → (∃ u, L' = L ++ u) → (∀ y ∈ L, ∀ k, Edge (ent m) L num den y k → Edge (ent m) L' num' den' y k) → Edge (ent m) L' num' den' x j →
     (Z39L N k4 kr M num' den' out (ints L') (p : Int) (x : Int) t34 t35 (m.1.toNat : Int) ((j + 1 : Nat) : Int) m.1 m.2.1 m.2.2 = kr [] ∧ ¬ ∃ e, Good m.1.toNat (ent m) e) ∨
     (∃ L'' num'' den'', FInv m.1.toNat (ent m) s num0 L'' num'' den'' ∧ p < L''.length ∧ (∀ k', k' < p + 1 → ∀ k, k < m.1.toNat → Edge (ent m) L'' num'' den'' (L''.getD k' 0) k) ∧
      Z39L N k4 kr M num' den' out (ints L') (p : Int) (x : Int) t34 t35 (m.1.toNat : Int) ((j + 1 : Nat) : Int) m.1 m.2.1 m.2.2 = k4 num'' den'' out (ints L'') (p : Int) t34 t35 m.1 m.2.1 m.2.2) := by
    intro L' num' den' hf' hu hk he
    obtain ⟨u, hu⟩ := hu
    have hget : ∀ k', k' < L.length → L'.getD k' 0 = L.getD k' 0 := fun k' hk' => by rw [hu, getD_append_lt hk']
    refine ih (j + 1) L' num' den' hf' (by rw [hu]; simp; omega) (by rw [hget p hp]; exact hx) hlt (by omega) (fun k' hk' k hkn => ?_) (fun k hk' => ?_)
    ·rw [hget k' (by omega)]
     exact hk _ (getD_mem 0 (by omega)) k (hE1 k' hk' k hkn)
    ·by_cases e : k = j
     ·subst e; exact he
     ·exact hk x hxm k (hE2 k (by omega))
   by_cases h0 : ent m x j = 0 ∧ ent m j x = 0
   ·rw [ct (dt h0.1), ct (dt (by omega))]
    simp only [Z53]
    rw [w64_succ (by rw [maxLen_val]; omega)]
    exact next L num den hf ⟨[], by simp⟩ (fun _ _ _ h => h) (Or.inl h0)
   ·have hz : ∀ (X Y : Option ρ), (cond (lk N (decide (ent m x j = 0))) (cond (lk N (decide (-(ent m j x) = 0))) X Y) Y) = Y := by
     intro X Y
     by_cases z1 : ent m x j = 0
     ·rw [ct (dt z1), cf (df (fun z2 => h0 ⟨z1, by omega⟩))]
     ·rw [cf (df z1)]
    rw [hz]
    rcases core (N := N) (out := out) hm (by omega) hcl hf hp hx hlt h0 (fun num3 den4 out5 piece7 at8 i9 t34 t35 t62 t63 m1_0 m1_1 m1_2 => Z53 N num3 den4 out5 piece7 at8 i9 t34 t35 t62 t63 m1_0 m1_1 m1_2 (fun num3 den4 out5 piece7 at8 i9 t34 t35 t62 t63 m1_0 m1_1 m1_2 => Z39L N k4 kr M num3 den4 out5 piece7 at8 i9 t34 t35 t62 t63 m1_0 m1_1 m1_2)) kr t34 t35 (m.1.toNat : Int) (j : Int) with hc | ⟨L', num', den', h1, h2, h3, h4, h5⟩
    ·exact Or.inl hc
    ·rw [h5]
     simp only [Z53]
     rw [w64_succ (by rw [maxLen_val]; omega)]
     exact next L' num' den' h1 h2 h3 h4
  ·rw [cf' (by rw [lk_eq]; exact df (by omega))]
   refine Or.inr ⟨L, num, den, hf, hp, fun k' hk' k hk => ?_, rfl⟩
   by_cases e : k' = p
   ·subst e; rw [hx]; exact hE2 k (by omega)
   ·exact hE1 k' (by omega) k hk
theorem middle (hN : 10 ≤ N) (hm : shapedK m = true) (hcl : Closed m.1.toNat (ent m) num0) (k2 : List Int → List Int → List Int → List Int → Int → Int → Int → Int → List Int → Option ρ) (kr : List Int → Option ρ) (t34 t35 : Int) : ∀ (M p : Nat) (L : List Nat) (num den : List Int), FInv m.1.toNat (ent m) s num0 L num den → p ≤ L.length → m.1.toNat - p < M →
  (∀ k', k' < p → ∀ k, k < m.1.toNat → Edge (ent m) L num den (L.getD k' 0) k) →
  (Z29L N k2 kr M num den out (ints L) (p : Int) t34 t35 m.1 m.2.1 m.2.2 = kr [] ∧ ¬ ∃ e, Good m.1.toNat (ent m) e) ∨
  (∃ L' num' den', FInv m.1.toNat (ent m) s num0 L' num' den' ∧ (∀ x ∈ L', ∀ k, k < m.1.toNat → Edge (ent m) L' num' den' x k) ∧
   Z29L N k2 kr M num den out (ints L) (p : Int) t34 t35 m.1 m.2.1 m.2.2 = k2 num' den' out (ints L') t34 t35 m.1 m.2.1 m.2.2) := by
 have hdim := shaped_dim hm
 obtain ⟨n, r, hn, hr, hn1, hn5, hnr, hr8, hl⟩ := dim_nat hdim
 intro M
 induction M with
 | zero => intro p _ _ _ _ _ h; omega
 | succ M ih =>
  intro p L num den hf hp hM hE
  have hle := hf.le
  simp only [Z29L, Z30, Z31]
  by_cases hlt : p < L.length
  ·rw [ct (dt (by rw [ints_len]; omega))]
   simp only [Z32, Z33, Z34, Z35]
   rw [ct (inB_nat (by rw [ints_len]; exact hlt))]
   simp only [Z36, Z37, Z38, Z39, Int.toNat_natCast, ints_getD, hf.nl]
   have hin := inner (ρ := ρ) (N := N) (out := out) hm hcl (fun num3 den4 out5 piece7 at8 t34 t35 m1_0 m1_1 m1_2 => Z54 N num3 den4 out5 piece7 at8 t34 t35 m1_0 m1_1 m1_2 (fun num3 den4 out5 piece7 at8 t34 t35 m1_0 m1_1 m1_2 => Z29L N k2 kr M num3 den4 out5 piece7 at8 t34 t35 m1_0 m1_1 m1_2)) kr t34 t35 N 0 L num den hf hlt rfl (by omega) (by omega) hE (fun k hk => by omega)
   rw [show ((0 : Nat) : Int) = 0 from rfl] at hin
   rcases hin with hc | ⟨L', num', den', h1, h2, h3, h4⟩
   ·exact Or.inl hc
   ·rw [h4]
    simp only [Z54]
    rw [w64_succ (by rw [maxLen_val]; omega)]
    exact ih (p + 1) L' num' den' h1 h2 (by omega) h3
  ·rw [cf (df (by rw [ints_len]; omega))]
   refine Or.inr ⟨L, num, den, hf, fun x hx k hk => ?_, rfl⟩
   obtain ⟨k', hk', e⟩ := mem_getD hx
   rw [← e]
   exact hE k' (by omega) k hk
theorem common (hf : FInv m.1.toNat (ent m) s num0 L num den) (h5 : m.1.toNat ≤ 5) {Q : Int} (q1 : 0 < Q) (q2 : Q ≤ 96059601) (q3 : ∀ x ∈ L, 0 < den.getD x 0 ∧ den.getD x 0 ∣ Q) (k6 : List Int → List Int → List Int → List Int → Int → Int → Int → Int → Int → List Int → Option ρ) (t34 t35 : Int) : ∀ (M k : Nat) (c : Int), k ≤ L.length → L.length - k < M → 0 < c → c ∣ Q → (∀ k', k' < k → den.getD (L.getD k' 0) 0 ∣ c) →
  ∃ c', 0 < c' ∧ c' ∣ Q ∧ (∀ x ∈ L, den.getD x 0 ∣ c') ∧
   Z61L N k6 M num den out (ints L) c t34 t35 ((ints L).length : Int) (k : Int) m.1 m.2.1 m.2.2 = k6 num den out (ints L) c' t34 t35 m.1 m.2.1 m.2.2 := by
 have hle := hf.le
 intro M
 induction M with
 | zero => intro k _ _ h; omega
 | succ M ih =>
  intro k c hk hM hc hcQ hd
  simp only [Z61L, Z62]
  by_cases hlt : k < L.length
  ·have hxm : L.getD k 0 ∈ L := getD_mem 0 hlt
   obtain ⟨d1, d2⟩ := q3 _ hxm
   have i1 : inB (k : Int) (ints L).length = true := inB_nat (by rw [ints_len]; exact hlt)
   have i2 : inB ((L.getD k 0 : Nat) : Int) den.length = true := inB_nat (by rw [hf.dl]; exact hf.lt _ hxm)
   obtain ⟨g1, g2, g3, g4, g5, g6, g7⟩ := lcm_step hc d1 hcQ d2 q1
   have b1 := Int.le_of_dvd q1 hcQ
   have b2 := Int.le_of_dvd q1 d2
   have b3 := Int.le_of_dvd q1 g5
   rw [ct (dt (by rw [ints_len]; omega)), ct i1]
   simp only [Int.toNat_natCast, ints_getD]
   rw [ct i2, ct i2, ct (show impl_gcd.P c (den.getD (L.getD k 0) 0) = true by
    simp only [impl_gcd.P, Bool.and_eq_true, decide_eq_true_eq]
    omega)]
   have eg : impl_gcd.g c (den.getD (L.getD k 0) 0) = (Int.gcd c (den.getD (L.getD k 0) 0) : Int) := rfl
   rw [ct (nt (by rw [eg]; omega)), eg, w64_id (n := Int.tdiv c _) (by omega) (by omega), w64_id (by omega) (by omega), w64_succ (by rw [maxLen_val]; omega)]
   refine ih (k + 1) _ hlt (by omega) g4 g5 (fun k' hk' => ?_)
   by_cases e : k' = k
   ·subst e; exact g7
   ·exact Int.dvd_trans (hd k' (by omega)) g6
  ·rw [cf (df (by rw [ints_len]; omega))]
   refine ⟨c, hc, hcQ, fun x hx => ?_, rfl⟩
   obtain ⟨k', hk', e⟩ := mem_getD hx
   rw [← e]
   exact hd k' (by omega)
structure O2 (n : Nat) (L : List Nat) (num den out0 : List Int) (c : Int) (k : Nat) (out : List Int) (g : Int) : Prop where
 len : out.length = n
 old : ∀ x, x < n → (∀ k', k' < k → x ≠ L.getD k' 0) → out.getD x 0 = out0.getD x 0
 val : ∀ k', k' < k → out.getD (L.getD k' 0) 0 * den.getD (L.getD k' 0) 0 = c * num.getD (L.getD k' 0) 0 ∧ 0 < out.getD (L.getD k' 0) 0 ∧ out.getD (L.getD k' 0) 0 ≤ 9227446944279201
 gcd : g = ((gcdL ((List.range k).map fun t => out.getD (L.getD t 0) 0) : Nat) : Int)
theorem O2.g_range {n : Nat} {out0 : List Int} {c g : Int} {k : Nat} (h : O2 n L num den out0 c k out g) : 0 ≤ g ∧ g ≤ 9227446944279201 ∧ (0 < k → 0 < g) := by
 have h0 : 0 ≤ g := by rw [h.gcd]; omega
 by_cases e : k = 0
 ·subst e
  have := h.gcd
  simp [gcdL] at this
  omega
 ·obtain ⟨_, a1, a2⟩ := h.val 0 (by omega)
  have hd : g ∣ out.getD (L.getD 0 0) 0 := by
   rw [h.gcd]
   exact gcdL_dvd (List.mem_map.2 ⟨0, List.mem_range.2 (by omega), rfl⟩)
  have := Int.le_of_dvd a1 hd
  refine ⟨h0, by omega, fun _ => ?_⟩
  rcases Int.lt_or_le 0 g with h' | h'
  ·exact h'
  ·have e : g = 0 := by omega
   rw [e] at hd
   have := Int.zero_dvd.1 hd
   omega
theorem outs (hf : FInv m.1.toNat (ent m) s num0 L num den) (h5 : m.1.toNat ≤ 5) {c : Int} (c1 : 0 < c) (c2 : c ≤ 96059601) (q3 : ∀ x ∈ L, 0 < num.getD x 0 ∧ num.getD x 0 ≤ 96059601 ∧ 0 < den.getD x 0 ∧ den.getD x 0 ∣ c) (out0 : List Int) (k8 : List Int → List Int → List Int → List Int → Int → Int → Int → Int → Int → List Int → Option ρ) (t34 t35 : Int) : ∀ (M k : Nat) (out : List Int) (g : Int), k ≤ L.length → L.length - k < M → O2 m.1.toNat L num den out0 c k out g →
  ∃ out' g', O2 m.1.toNat L num den out0 c L.length out' g' ∧
   Z69L N k8 M num den out (ints L) c g t34 t35 ((ints L).length : Int) (k : Int) m.1 m.2.1 m.2.2 = k8 num den out' (ints L) g' t34 t35 m.1 m.2.1 m.2.2 := by
 have hle := hf.le
 intro M
 induction M with
 | zero => intro k _ _ _ h; omega
 | succ M ih =>
  intro k out g hk hM ho
  simp only [Z69L, Z70]
  by_cases hlt : k < L.length
  ·have hxm : L.getD k 0 ∈ L := getD_mem 0 hlt
   have hxn := hf.lt _ hxm
   obtain ⟨d1, d2, d3, d4⟩ := q3 _ hxm
   have i1 : inB (k : Int) (ints L).length = true := inB_nat (by rw [ints_len]; exact hlt)
   have i2 : inB ((L.getD k 0 : Nat) : Int) den.length = true := inB_nat (by rw [hf.dl]; exact hxn)
   have i3 : inB ((L.getD k 0 : Nat) : Int) num.length = true := inB_nat (by rw [hf.nl]; exact hxn)
   have i4 : inB ((L.getD k 0 : Nat) : Int) out.length = true := inB_nat (by rw [ho.len]; exact hxn)
   have hxo : L.getD k 0 < out.length := by rw [ho.len]; exact hxn
   have hg := ho.g_range
   have t1 : Int.tdiv c (den.getD (L.getD k 0) 0) * den.getD (L.getD k 0) 0 = c := Int.tdiv_mul_cancel d4
   have t2 : 0 < Int.tdiv c (den.getD (L.getD k 0) 0) ∧ Int.tdiv c (den.getD (L.getD k 0) 0) ≤ c := by
    generalize Int.tdiv c (den.getD (L.getD k 0) 0) = t at t1 ⊢
    have : 0 < t := by
     rcases Int.lt_or_le 0 t with h' | h'
     ·exact h'
     ·have := Int.mul_nonpos_of_nonpos_of_nonneg h' (Int.le_of_lt d3); omega
    have := Int.mul_le_mul_of_nonneg_left (show (1 : Int) ≤ den.getD (L.getD k 0) 0 by omega) (Int.le_of_lt this)
    exact ⟨by omega, by omega⟩
   have t3 : 0 < Int.tdiv c (den.getD (L.getD k 0) 0) * num.getD (L.getD k 0) 0 := Int.mul_pos t2.1 d1
   have t4 : Int.tdiv c (den.getD (L.getD k 0) 0) * num.getD (L.getD k 0) 0 ≤ 96059601 * 96059601 := Int.mul_le_mul (by omega) d2 (by omega) (by omega)
   rw [ct (dt (by rw [ints_len]; omega)), ct i1]
   simp only [Int.toNat_natCast, ints_getD]
   rw [ct i2, ct (nt (by omega)), ct i3, ct i4]
   simp only [w64_id (show -9223372036854775808 ≤ Int.tdiv c (den.getD (L.getD k 0) 0) by omega) (by omega)]
   simp only [w64_id (show -9223372036854775808 ≤ Int.tdiv c (den.getD (L.getD k 0) 0) * num.getD (L.getD k 0) 0 by omega) (by omega)]
   generalize hv : Int.tdiv c (den.getD (L.getD k 0) 0) * num.getD (L.getD k 0) 0 = v at t3 t4 ⊢
   have hself : (out.set (L.getD k 0) v).getD (L.getD k 0) 0 = v := by rw [getD_put hxo, if_pos rfl]
   have hget : ∀ t, t < k → (out.set (L.getD k 0) v).getD (L.getD t 0) 0 = out.getD (L.getD t 0) 0 := fun t ht' => by
    rw [getD_put hxo, if_neg (fun e => by have := nodup_getD hf.nd hlt (by omega) e; omega)]
   rw [ct (inB_nat (by rw [List.length_set]; exact hxo)), hself, ct (show impl_gcd.P g v = true by
    simp only [impl_gcd.P, Bool.and_eq_true, decide_eq_true_eq]
    omega), w64_succ (by rw [maxLen_val]; omega)]
   refine ih (k + 1) _ _ hlt (by omega) ⟨by rw [List.length_set]; exact ho.len, ?_, ?_, ?_⟩
   ·intro x hx hall
    rw [getD_put hxo, if_neg (fun e => hall k (by omega) e.symm)]
    exact ho.old x hx (fun t ht' => hall t (by omega))
   ·intro t ht'
    by_cases e : t = k
    ·subst e
     rw [hself]
     refine ⟨?_, t3, by omega⟩
     rw [← hv]
     have e1 := t1
     grind
    ·rw [hget t (by omega)]
     exact ho.val t (by omega)
   ·rw [List.range_succ, List.map_append, List.map_cons, List.map_nil, hself]
    rw [show (List.range k).map (fun t => (out.set (L.getD k 0) v).getD (L.getD t 0) 0) = (List.range k).map (fun t => out.getD (L.getD t 0) 0) from List.map_congr_left (fun t ht' => hget t (List.mem_range.1 ht'))]
    rw [ho.gcd]
    exact gcd_snoc _ _ v (by omega) rfl
  ·have e : k = L.length := by omega
   subst e
   exact ⟨out, g, ho, by rw [cf (df (by rw [ints_len]; omega))]⟩
theorem divs (hf : FInv m.1.toNat (ent m) s num0 L num den) (h5 : m.1.toNat ≤ 5) {out2 : List Int} {g : Int} (hg : 0 < g) (hv : ∀ x ∈ L, 0 < out2.getD x 0 ∧ out2.getD x 0 ≤ 9227446944279201) (k10 : List Int → List Int → List Int → Int → Int → Int → Int → List Int → Option ρ) (t34 t35 : Int) : ∀ (M k : Nat) (d : List Int), k ≤ L.length → L.length - k < M → T3 m (L, []) out2 g k d →
  ∃ d', T3 m (L, []) out2 g L.length d' ∧ Z74L N k10 M num den d (ints L) g t34 t35 ((ints L).length : Int) (k : Int) m.1 m.2.1 m.2.2 = k10 num den d' t34 t35 m.1 m.2.1 m.2.2 := by
 have hle := hf.le
 intro M
 induction M with
 | zero => intro k _ _ h; omega
 | succ M ih =>
  intro k d hk hM ht
  simp only [Z74L, Z75]
  by_cases hlt : k < L.length
  ·have hxm : L.getD k 0 ∈ L := getD_mem 0 hlt
   have hxn := hf.lt _ hxm
   obtain ⟨v1, v2⟩ := hv _ hxm
   have hcur := ht.cur hf.nd hf.lt hlt
   have hdv : 0 ≤ Int.tdiv (out2.getD (L.getD k 0) 0) g ∧ Int.tdiv (out2.getD (L.getD k 0) 0) g ≤ 9227446944279201 := by
    rw [Int.tdiv_eq_ediv_of_nonneg (by omega)]
    refine ⟨Int.ediv_nonneg (by omega) (by omega), ?_⟩
    have := Int.ediv_le_self (a := out2.getD (L.getD k 0) 0) g (by omega)
    omega
   have i4 : inB ((L.getD k 0 : Nat) : Int) d.length = true := inB_nat (by rw [ht.len]; exact hxn)
   have hcur' : d.getD (L.getD k 0) 0 = out2.getD (L.getD k 0) 0 := hcur
   rw [ct (dt (by rw [ints_len]; omega)), ct (inB_nat (by rw [ints_len]; exact hlt))]
   simp only [Int.toNat_natCast, ints_getD]
   rw [ct i4, ct (nt (by omega)), ct i4, hcur', w64_id (by omega) (by omega), w64_succ (by rw [maxLen_val]; omega)]
   exact ih (k + 1) _ hlt (by omega) (ht.step hf.nd hf.lt hlt)
  ·have e : k = L.length := by omega
   subst e
   exact ⟨d, ht, by rw [cf (df (by rw [ints_len]; omega))]⟩
theorem outer (hN : 10 ≤ N) (hm : shapedK m = true) (kr : List Int → Option ρ) : ∀ (M i : Nat) (num den out : List Int), OInv m.1.toNat (ent m) num out → den.length = m.1.toNat → i ≤ m.1.toNat → (∀ x, x < i → num.getD x 0 ≠ 0) → m.1.toNat - i < M →
  Z10L N (fun out5 => Z77 N out5 kr) kr M num den out (m.1.toNat : Int) (i : Int) m.1 m.2.1 m.2.2 = kr (facK m) := by
 have hdim := shaped_dim hm
 obtain ⟨n, r, hn, hr, hn1, hn5, hnr, hr8, hl⟩ := dim_nat hdim
 intro M
 induction M with
 | zero => intro i _ _ _ _ _ _ _ h; omega
 | succ M ih =>
  intro i num den out hO hdl hi hpos hM
  simp only [Z10L, Z11, Z12, Z13, Z14]
  by_cases hlt : i < m.1.toNat
  ·rw [ct' (by rw [lk_eq]; exact dt (by omega))]
   simp only [Z15, Z16, Z17, Z18, Z19, Z20]
   rw [ct (inB_nat (by rw [hO.nl]; exact hlt)), Int.toNat_natCast]
   by_cases hz : num.getD i 0 = 0
   ·rw [cf (nf hz)]
    simp only [Z21, Z22]
    rw [ct (inB_nat (by rw [hO.nl]; exact hlt)), ct (inB_nat (by rw [hdl]; exact hlt)), Int.toNat_natCast]
    simp only [Z23, Z24, Z25, Z26, Z27, Z28, Z29]
    have hnl : i < num.length := by rw [hO.nl]; exact hlt
    have hdl' : i < den.length := by rw [hdl]; exact hlt
    have f0 : FInv m.1.toNat (ent m) i num [i] (num.set i 1) (den.set i 1) := by
     refine ⟨by rw [List.length_set]; exact hO.nl, by rw [List.length_set]; exact hdl, by simp, fun x hx => by rw [List.mem_singleton] at hx; omega, rfl, by simp, ?_, ?_, ?_, ?_⟩
     ·intro x hx hni
      rw [getD_put hnl, if_neg (fun e => hni (by simp [e]))]
     ·intro x hx
      rw [List.mem_singleton] at hx; subst hx; exact hz
     ·refine ⟨1, by omega, by simp, fun x hx => ?_⟩
      rw [List.mem_singleton] at hx
      subst hx
      rw [getD_put hnl, if_pos rfl, getD_put hdl', if_pos rfl]
      exact ⟨by omega, by simp, by omega, Int.dvd_refl _, by decide⟩
     ·intro e he x hx
      rw [List.mem_singleton] at hx
      subst hx
      rw [getD_put hnl, if_pos rfl, getD_put hdl', if_pos rfl]
    have hmid := middle (ρ := ρ) (out := out) hN hm hO.closed (fun num3 den4 out5 piece7 t34 t35 m1_0 m1_1 m1_2 => Z55 N num3 den4 out5 piece7 t34 t35 m1_0 m1_1 m1_2 (fun num3 den4 out5 t34 t35 m1_0 m1_1 m1_2 => Z76 N num3 den4 out5 t34 t35 m1_0 m1_1 m1_2 (fun num3 den4 out5 t34 t35 m1_0 m1_1 m1_2 => Z10L N (fun out5 => Z77 N out5 kr) kr M num3 den4 out5 t34 t35 m1_0 m1_1 m1_2))) kr (m.1.toNat : Int) (i : Int) N 0 [i] (num.set i 1) (den.set i 1) f0 (by omega) (by omega) (fun k' hk' => by omega)
    rw [show ((0 : Nat) : Int) = 0 from rfl, show ints [i] = [(i : Int)] from rfl] at hmid
    rcases hmid with ⟨h1, h2⟩ | ⟨L, num', den', hf, hE, h1⟩
    ·rw [h1, fac_none h2]
    ·rw [h1]
     have hle := hf.le
     obtain ⟨Q, q1, q2, q3⟩ := hf.frac
     have pw := pow4 (k := L.length - 1) (by omega)
     simp only [Z55, Z56, Z57, Z58, Z59, Z60, Z61]
     obtain ⟨c, c1, c2, c3, c4⟩ := common (ρ := ρ) (N := N) (out := out) (num := num') (m := m) hf (by omega) q1 (by omega) (fun x hx => ⟨(q3 x hx).2.2.1, (q3 x hx).2.2.2.1⟩) (fun num3 den4 out5 piece7 common16 t34 t35 m1_0 m1_1 m1_2 => Z63 N num3 den4 out5 piece7 common16 t34 t35 m1_0 m1_1 m1_2 (fun num3 den4 out5 t34 t35 m1_0 m1_1 m1_2 => Z76 N num3 den4 out5 t34 t35 m1_0 m1_1 m1_2 (fun num3 den4 out5 t34 t35 m1_0 m1_1 m1_2 => Z10L N (fun out5 => Z77 N out5 kr) kr M num3 den4 out5 t34 t35 m1_0 m1_1 m1_2))) (m.1.toNat : Int) (i : Int) N 0 1 (by omega) (by omega) (by omega) (Int.one_dvd _) (fun k' hk' => by omega)
     rw [show ((0 : Nat) : Int) = 0 from rfl] at c4
     rw [c4]
     have cQ := Int.le_of_dvd q1 c2
     simp only [Z63, Z64, Z65, Z66, Z67, Z68, Z69]
     obtain ⟨out2, g2, o1, o2⟩ := outs (ρ := ρ) (N := N) (num := num') (m := m) hf (by omega) c1 (by omega) (fun x hx => ⟨(q3 x hx).1, by have := (q3 x hx).2.1; omega, (q3 x hx).2.2.1, c3 x hx⟩) out (fun num3 den4 out5 piece7 g19 t34 t35 m1_0 m1_1 m1_2 => Z71 N num3 den4 out5 piece7 g19 t34 t35 m1_0 m1_1 m1_2 (fun num3 den4 out5 t34 t35 m1_0 m1_1 m1_2 => Z76 N num3 den4 out5 t34 t35 m1_0 m1_1 m1_2 (fun num3 den4 out5 t34 t35 m1_0 m1_1 m1_2 => Z10L N (fun out5 => Z77 N out5 kr) kr M num3 den4 out5 t34 t35 m1_0 m1_1 m1_2))) (m.1.toNat : Int) (i : Int) N 0 out 0 (by omega) (by omega) ⟨hO.ol, fun _ _ _ => rfl, fun k hk => by omega, rfl⟩
     rw [show ((0 : Nat) : Int) = 0 from rfl] at o2
     rw [o2]
     have hg2 := o1.g_range.2.2 hf.pos
     have hval : ∀ x ∈ L, out2.getD x 0 * den'.getD x 0 = c * num'.getD x 0 ∧ 0 < out2.getD x 0 ∧ out2.getD x 0 ≤ 9227446944279201 := by
      intro x hx
      obtain ⟨k, hk, e⟩ := mem_getD hx
      rw [← e]
      exact o1.val k hk
     simp only [Z71, Z72, Z73, Z74]
     obtain ⟨out3, p1, p2⟩ := divs (ρ := ρ) (N := N) (num := num') (m := m) hf (by omega) hg2 (fun x hx => (hval x hx).2) (fun num3 den4 out5 t34 t35 m1_0 m1_1 m1_2 => Z76 N num3 den4 out5 t34 t35 m1_0 m1_1 m1_2 (fun num3 den4 out5 t34 t35 m1_0 m1_1 m1_2 => Z10L N (fun out5 => Z77 N out5 kr) kr M num3 den4 out5 t34 t35 m1_0 m1_1 m1_2)) (m.1.toNat : Int) (i : Int) N 0 out2 (by omega) (by omega) ⟨o1.len, fun _ _ _ => rfl, fun k hk => by omega⟩
     rw [show ((0 : Nat) : Int) = 0 from rfl] at p2
     rw [p2]
     have hgl : g2 = ((gcdL (L.map fun x => out2.getD x 0) : Nat) : Int) := by
      rw [← range_getD L (fun x => out2.getD x 0)]
      exact o1.gcd
     obtain ⟨r1, r2, r3⟩ := hO.piece (out3 := out3) hf hE c1 hg2 (fun x hx => (hval x hx).1) hgl (fun x hx => by
      obtain ⟨k, hk, e⟩ := mem_getD hx
      have := p1.val k hk
      rw [← e]
      rw [show out3.getD (L.getD k 0) 0 = _ from this]
      refine Int.tdiv_mul_cancel ?_
      rw [hgl]
      exact gcdL_dvd (List.mem_map.2 ⟨L.getD k 0, getD_mem 0 hk, rfl⟩)) (fun x hx hni => by
      have hne : ∀ k', k' < L.length → x ≠ L.getD k' 0 := fun k' hk' e => hni (by rw [e]; exact getD_mem 0 hk')
      rw [p1.out x hx hne, o1.old x hx hne]) p1.len
     simp only [Z76]
     rw [w64_succ (by rw [maxLen_val]; omega)]
     exact ih (i + 1) num' den' out3 r1 hf.dl hlt (fun x hx => by
      by_cases e : x = i
      ·subst e; exact r2
      ·exact r3 x (by omega) (hpos x (by omega))) (by omega)
   ·rw [ct (nt hz)]
    simp only [Z76]
    rw [w64_succ (by rw [maxLen_val]; omega)]
    exact ih (i + 1) num den out hO hdl hlt (fun x hx => by
     by_cases e : x = i
     ·subst e; exact hz
     ·exact hpos x (by omega)) (by omega)
  ·rw [cf' (by rw [lk_eq]; exact df (by omega))]
   simp only [Z77]
   rw [hO.fac (fun x hx => hpos x (by omega)), ct' (by rw [hO.ol, Nat.blt_eq]; omega)]
end
theorem ok : Spec := fun m hb hp => ⟨10, fun N hN => by
 have hm : shapedK m = true := hp
 have hdim := shaped_dim hm
 obtain ⟨n, r, hn, hr, hn1, hn5, hnr, hr8, hl⟩ := dim_nat hdim
 have hz : ∀ x, (List.replicate m.1.toNat (0 : Int)).getD x 0 = 0 := fun x => by
  rw [List.getD_eq_getElem?_getD, List.getElem?_replicate]
  split <;> rfl
 have hc : (leB 0 m.1 && decide (m.1 < 1099511627776)) = true := by rw [leB_t (by omega), dt (by omega)]; rfl
 simp only [Z0, Z1, Z2, Z3]
 rw [ct hc, ct hc]
 have key : Z4 N (List.replicate m.1.toNat 0) (List.replicate m.1.toNat 0) m.1 m.2.1 m.2.2 (fun t2 => some ((), (t2, ()))) = some ((), (g m, ())) := by
  simp only [Z4, Z5]
  rw [ct hc]
  simp only [Z6, Z7, Z8, Z9, Z10, List.length_replicate]
  have := outer (ρ := Unit × List Int × Unit) hN hm (fun t2 => some ((), (t2, ()))) N 0 (List.replicate m.1.toNat 0) (List.replicate m.1.toNat 0) (List.replicate m.1.toNat 0) ⟨by simp, by simp, fun y hy h => absurd (hz y) h, fun j hj h => absurd (hz j) h⟩ (by simp) (by omega) (fun x hx => by omega) (by omega)
  exact this
 rw [key]
 simp only [bo, both_self]⟩
end impl_factors
end
end Go.Fw
namespace Go.Fw
section
variable {ρ : Type}
namespace impl_MatrixOk
def g (m : Int × Int × List Int) : Bool := shapedK m && !decide (facK m = [])
end impl_MatrixOk
namespace impl_MatrixOk
def Z0 {ρ : Type} (N : Nat) (a : MT) (kr : Bool → Option ρ) : Option ρ :=
 cond (lk N ((impl_shaped.g a)))
 (
  cond (lk N (impl_factors.P a)) (
   kr (lk N (!(decide ((impl_factors.g a).length = 0))))) none)
 (
  kr false)
def Spec : Prop := ∀  (v0 : MT), Ty.bd (.pair (.int .i64) (.pair (.int .i64) (.sl 0 (.int .i64)))) v0 → ∃ N0, ∀ N, N0 ≤ N → Z0 N v0 (fun v2 => some ((), (v2, ()))) = some ((), ((g v0), ()))
theorem ok : Spec := fun m hb => ⟨0, fun N hN => by
 simp only [Z0, lk_eq, g, impl_shaped.g, impl_factors.P, impl_factors.g]
 cases shapedK m
 ·rfl
 ·by_cases h : facK m = []
  ·rw [dt h, dt (by rw [h]; rfl)]; rfl
  ·rw [df h, df (fun e => h (List.length_eq_zero_iff.1 e))]; rfl⟩
end impl_MatrixOk
end
end Go.Fw
namespace Go.Fw
section
variable {ρ : Type}
namespace impl_IsAcyclic
def g (m : Int × Int × List Int) : Bool := impl_MatrixOk.g m && decide (leftL m = [])
end impl_IsAcyclic
namespace impl_IsAcyclic
def Z1 {ρ : Type} (N : Nat) (a : MT) (kn : I2 (LI → Option ρ)) : Option ρ :=
 kn a.1 a.2.1 a.2.2
def Z3 {ρ : Type} (N : Nat) (a b : Int) (c : LI) (kn : I2 (LI → Option ρ)) (kr : Bool → Option ρ) : Option ρ :=
 cond (!(lk N ((impl_MatrixOk.g (a, (b, c))))))
 (
  kr false)
 (
  kn a b c)
def Z5 {ρ : Type} (N : Nat) (a b : Int) (c : LI) (kn : I2 (LI → LI → Option ρ)) : Option ρ :=
 kn a b c ([] : List Int)
def Z8 {ρ : Type} (N : Nat) (a b : Int) (c d : LI) (kn : I3 (LI → LI → Option ρ)) : Option ρ :=
 kn 0 a b c d
def Z11 {ρ : Type} (N : Nat) (a b c : Int) (d e : LI) (kn : I3 (LI → LI → Option ρ)) (k0 : I2 (LI → LI → Option ρ)) : Option ρ :=
 cond (lk N (decide (a < b)))
 (
  kn (w64 (a + 1)) b c d (mAdd e a))
 (
  k0 b c d e)
def Z10L {ρ : Type} (N : Nat) (k0 : I2 (LI → LI → Option ρ)) : Nat → Int → Int → Int → LI → LI → Option ρ
 | 0, _, _, _, _, _ => none
 | M + 1, a, b, c, d, e => Z11 N a b c d e (fun a b c d e => Z10L N k0 M a b c d e) k0
def Z10 N a b c d e k0 := (Z10L N k0 N a b c d e : Option ρ)
def Z9 N a b c d e kn := (Z10 N a b c d e kn : Option ρ)
def Z7 N a b c d kn := (Z8 N a b c d (fun e a b c d => Z9 N e a b c d kn) : Option ρ)
def Z14 {ρ : Type} (N : Nat) (a b : Int) (c d : LI) (kn : I4 (LI → LI → Option ρ)) : Option ρ :=
 kn a 0 a b c d
def Z18 {ρ : Type} (N : Nat) (a b c d : Int) (e f : LI) (kn : I2 (Bool → I2 (LI → LI → Option ρ))) : Option ρ :=
 kn a b (lk N (decide (b < a))) c d e f
def Z20 {ρ : Type} (N : Nat) (b c : Int) (d : Bool) (e f : Int) (g a : LI) (kn : I4 (LI → LI → Option ρ)) (k2 : LI → Option ρ) : Option ρ :=
 cond (d)
 (
  kn b c e f g a)
 (
  k2 a)
def Z24 {ρ : Type} (N : Nat) (b c a d : Int) (e f : LI) (kn : I6 (LI → LI → Option ρ)) : Option ρ :=
 kn b c a 0 a d e f
def Z28 {ρ : Type} (N : Nat) (c d a b e f : Int) (g h : LI) (kn : I4 (Bool → I2 (LI → LI → Option ρ))) : Option ρ :=
 kn c d a b (lk N (decide (b < a))) e f g h
def Z30 {ρ : Type} (N : Nat) (a b g h : Int) (i : Bool) (c d : Int) (e f : LI) (kn : I6 (LI → LI → Option ρ)) (k4 : I4 (LI → LI → Option ρ)) : Option ρ :=
 cond (i)
 (
  kn a b g h c d e f)
 (
  k4 a b c d e f)
def Z34 {ρ : Type} (N : Nat) (b c d a e f : Int) (g h : LI) (kn : I7 (LI → LI → Option ρ)) : Option ρ :=
 kn a b c d a e f g h
def Z36 {ρ : Type} (N : Nat) (a b c d e f g : Int) (h i : LI) (kn : Int → Bool → I6 (LI → LI → Option ρ)) : Option ρ :=
 kn a false b c d e f g h i
def Z39 {ρ : Type} (N : Nat) (b : Int) (c : Bool) (d e f g a h : Int) (i j : LI) (kn : Int → Bool → I8 (LI → LI → Option ρ)) : Option ρ :=
 kn b c d e f g a 0 a h i j
def Z42 {ρ : Type} (N : Nat) (b : Int) (o : Bool) (h i j l m a c d : Int) (e f : LI) (kn : Int → Bool → I8 (LI → LI → Option ρ)) (k6 : Int → Bool → I6 (LI → LI → Option ρ)) : Option ρ :=
 cond (lk N (decide (a < m)))
 (
  cond (o)
  (
   kn b true h i j l m (w64 (a + 1)) c d e f)
  (
   cond (lk N (mHas f a))
   (
    cond (lk N (impl_Matrix_at.P (c, (d, e)) a b)) (
     kn b (lk N (decide (0 < (impl_Matrix_at.g (c, (d, e)) a b)))) h i j l m (w64 (a + 1)) c d e f) none)
   (
    kn b false h i j l m (w64 (a + 1)) c d e f)))
 (
  k6 b o h i j l c d e f)
def Z41L {ρ : Type} (N : Nat) (k6 : Int → Bool → I6 (LI → LI → Option ρ)) : Nat → Int → Bool → Int → Int → Int → Int → Int → Int → Int → Int → LI → LI → Option ρ
 | 0, _, _, _, _, _, _, _, _, _, _, _, _ => none
 | M + 1, a, b, c, d, e, f, g, h, i, j, l, m => Z42 N a b c d e f g h i j l m (fun a b c d e f g h i j l m => Z41L N k6 M a b c d e f g h i j l m) k6
def Z41 N a b c d e f g h i j l m k6 := (Z41L N k6 N a b c d e f g h i j l m : Option ρ)
def Z40 N a b c d e f g h i j l m kn := (Z41 N a b c d e f g h i j l m kn : Option ρ)
def Z38 N a b c d e f g h i j kn := (Z39 N a b c d e f g h i j (fun a b c d e f l m g h i j => Z40 N a b c d e f l m g h i j kn) : Option ρ)
def Z43 {ρ : Type} (N : Nat) (i : Int) (j : Bool) (a b c d e f : Int) (g h : LI) (kn : I6 (LI → LI → Option ρ)) : Option ρ :=
 cond (!(j))
 (
  kn a b c d e f g (mDel h i))
 (
  kn a b c d e f g h)
def Z37 N a b c d e f g h i j kn := (Z38 N a b c d e f g h i j (fun a b c d e f g h i j => Z43 N a b c d e f g h i j kn) : Option ρ)
def Z35 N a b c d e f g h i kn := (Z36 N a b c d e f g h i (fun a j b c d e f g h i => Z37 N a j b c d e f g h i kn) : Option ρ)
def Z33 N a b c d e f g h kn := (Z34 N a b c d e f g h (fun i a b c d e f g h => Z35 N i a b c d e f g h kn) : Option ρ)
def Z32 N a b c d e f g h kn := (Z33 N a b c d e f g h kn : Option ρ)
def Z44 {ρ : Type} (N : Nat) (a b c d e f : Int) (g h : LI) (kn : I6 (LI → LI → Option ρ)) : Option ρ :=
 kn a b c (w64 (d + 1)) e f g h
def Z31 N a b c d e f g h kn := (Z32 N a b c d e f g h (fun a b c d e f g h => Z44 N a b c d e f g h kn) : Option ρ)
def Z29 N a b c d i e f g h kn k4 := (Z30 N a b c d i e f g h (fun a b c d e f g h => Z31 N a b c d e f g h kn) k4 : Option ρ)
def Z27 N a b c d e f g h kn k4 := (Z28 N a b c d e f g h (fun a b c d i e f g h => Z29 N a b c d i e f g h kn k4) : Option ρ)
def Z26L {ρ : Type} (N : Nat) (k4 : I4 (LI → LI → Option ρ)) : Nat → Int → Int → Int → Int → Int → Int → LI → LI → Option ρ
 | 0, _, _, _, _, _, _, _, _ => none
 | M + 1, a, b, c, d, e, f, g, h => Z27 N a b c d e f g h (fun a b c d e f g h => Z26L N k4 M a b c d e f g h) k4
def Z26 N a b c d e f g h k4 := (Z26L N k4 N a b c d e f g h : Option ρ)
def Z25 N a b c d e f g h kn := (Z26 N a b c d e f g h kn : Option ρ)
def Z23 N a b c d e f kn := (Z24 N a b c d e f (fun a b g h c d e f => Z25 N a b g h c d e f kn) : Option ρ)
def Z22 N a b c d e f kn := (Z23 N a b c d e f kn : Option ρ)
def Z45 {ρ : Type} (N : Nat) (a b c d : Int) (e f : LI) (kn : I4 (LI → LI → Option ρ)) : Option ρ :=
 kn a (w64 (b + 1)) c d e f
def Z21 N a b c d e f kn := (Z22 N a b c d e f (fun a b c d e f => Z45 N a b c d e f kn) : Option ρ)
def Z19 N a b g c d e f kn k2 := (Z20 N a b g c d e f (fun a b c d e f => Z21 N a b c d e f kn) k2 : Option ρ)
def Z17 N a b c d e f kn k2 := (Z18 N a b c d e f (fun a b g c d e f => Z19 N a b g c d e f kn k2) : Option ρ)
def Z16L {ρ : Type} (N : Nat) (k2 : LI → Option ρ) : Nat → Int → Int → Int → Int → LI → LI → Option ρ
 | 0, _, _, _, _, _, _ => none
 | M + 1, a, b, c, d, e, f => Z17 N a b c d e f (fun a b c d e f => Z16L N k2 M a b c d e f) k2
def Z16 N a b c d e f k2 := (Z16L N k2 N a b c d e f : Option ρ)
def Z15 N a b c d e f kn := (Z16 N a b c d e f kn : Option ρ)
def Z13 N a b c d kn := (Z14 N a b c d (fun e f a b c d => Z15 N e f a b c d kn) : Option ρ)
def Z46 {ρ : Type} (N : Nat) (a : LI) (kr : Bool → Option ρ) : Option ρ :=
 kr (lk N (decide ((a.length : Int) = 0)))
def Z12 N b c d a kr := (Z13 N b c d a (fun a => Z46 N a kr) : Option ρ)
def Z6 N a b c d kr := (Z7 N a b c d (fun a b c d => Z12 N a b c d kr) : Option ρ)
def Z4 N a b c kr := (Z5 N a b c (fun a b c d => Z6 N a b c d kr) : Option ρ)
def Z2 N a b c kr := (Z3 N a b c (fun a b c => Z4 N a b c kr) kr : Option ρ)
def Z0 N a kr := (Z1 N a (fun b c d => Z2 N b c d kr) : Option ρ)
def Spec : Prop := ∀  (v0 : MT), Ty.bd (.pair (.int .i64) (.pair (.int .i64) (.sl 0 (.int .i64)))) v0 → ∃ N0, ∀ N, N0 ≤ N → Z0 N v0 (fun v2 => some ((), (v2, ()))) = some ((), ((g v0), ()))
section
variable {ρ : Type} {N : Nat} {m : Int × Int × List Int}
theorem inner (hd : dimK m = true) {v : Nat} (hv : v < m.1.toNat) (a b c d : Int) (L : List Int) (k6 : Int → Bool → Int → Int → Int → Int → Int → Int → List Int → List Int → Option ρ) : ∀ (M j : Nat) (led : Bool), j ≤ m.1.toNat → m.1.toNat - j < M →
  Z41L N k6 M (v : Int) led a b c d m.1 (j : Int) m.1 m.2.1 m.2.2 L = k6 (v : Int) (led || ((List.range m.1.toNat).drop j).any fun i => mHas L (i : Int) && edgeK m i v) a b c d m.1 m.2.1 m.2.2 L := by
 obtain ⟨n, r, hn, hr, _, hn5, hnr, _, _⟩ := dim_nat hd
 intro M
 induction M with
 | zero => intro j _ _ h; omega
 | succ M ih =>
  intro j led hj hM
  simp only [Z41L, Z1, Z3, Z5, Z8, Z11, Z10, Z9, Z7, Z14, Z18, Z20, Z24, Z28, Z30, Z34, Z36, Z39, Z42, Z41, Z40, Z38, Z43, Z37, Z35, Z33, Z32, Z44, Z31, Z29, Z27, Z26, Z25, Z23, Z22, Z45, Z21, Z19, Z17, Z16, Z15, Z13, Z46, Z12, Z6, Z4, Z2, Z0]
  by_cases h : j < m.1.toNat
  ·have e1 : impl_Matrix_at.P (m.1, (m.2.1, m.2.2)) (j : Int) (v : Int) = true := at_ok hd (by omega) hv
   have e2 : impl_Matrix_at.g (m.1, (m.2.1, m.2.2)) (j : Int) (v : Int) = ent m j v := atK_nat (by omega) j v
   rw [ct (dt (by omega)), ct e1, e2, w64_succ (by rw [maxLen_val]; omega), ih (j + 1) _ h (by omega), ih (j + 1) _ h (by omega), ih (j + 1) _ h (by omega), range_drop h, List.any_cons]
   simp only [lk_eq]
   show _ = k6 (v : Int) (led || (mHas L (j : Int) && decide (0 < ent m j v) || _)) a b c d m.1 m.2.1 m.2.2 L
   cases led
   ·cases mHas L (j : Int)
    ·rfl
    ·simp
   ·rfl
  ·rw [cf (df (by omega)), List.drop_of_length_le (by simp; omega)]
   simp
theorem row (hd : dimK m = true) (a b : Int) (k4 : Int → Int → Int → Int → List Int → List Int → Option ρ) (hN : m.1.toNat < N) : ∀ (M j : Nat) (L : List Int), j ≤ m.1.toNat → m.1.toNat - j < M →
  Z26L N k4 M a b m.1 (j : Int) m.1 m.2.1 m.2.2 L = k4 a b m.1 m.2.1 m.2.2 (((List.range m.1.toNat).drop j).foldl (visL m) L) := by
 obtain ⟨n, r, hn, hr, _, hn5, hnr, _, _⟩ := dim_nat hd
 intro M
 induction M with
 | zero => intro j _ _ h; omega
 | succ M ih =>
  intro j L hj hM
  simp only [Z26L, Z1, Z3, Z5, Z8, Z11, Z10, Z9, Z7, Z14, Z18, Z20, Z24, Z28, Z30, Z34, Z36, Z39, Z42, Z41, Z40, Z38, Z43, Z37, Z35, Z33, Z32, Z44, Z31, Z29, Z27, Z26, Z25, Z23, Z22, Z45, Z21, Z19, Z17, Z16, Z15, Z13, Z46, Z12, Z6, Z4, Z2, Z0]
  by_cases h : j < m.1.toNat
  ·have hin := fun (k : Int → Bool → Int → Int → Int → Int → Int → Int → List Int → List Int → Option ρ) => inner (N := N) hd h a b m.1 (j : Int) L k N 0 false (by omega) (by omega)
   simp only [show ((0 : Nat) : Int) = 0 from rfl, List.drop_zero, Bool.false_or] at hin
   rw [ct' (by rw [lk_eq]; exact dt (by omega)), hin, w64_succ (by rw [maxLen_val]; omega), ih (j + 1) _ h (by omega), ih (j + 1) _ h (by omega), range_drop h, List.foldl_cons]
   show _ = k4 a b m.1 m.2.1 m.2.2 (((List.range m.1.toNat).drop (j + 1)).foldl (visL m) (cond (ledL m L j) L (mDel L (j : Int))))
   show cond (!(ledL m L j)) _ _ = _
   cases ledL m L j <;> rfl
  ·rw [cf' (by rw [lk_eq]; exact df (by omega)), List.drop_of_length_le (by simp; omega)]; rfl
theorem rounds (hd : dimK m = true) (k2 : List Int → Option ρ) (hN : m.1.toNat < N) : ∀ (M j : Nat) (L : List Int), j ≤ m.1.toNat → m.1.toNat - j < M →
  Z16L N k2 M m.1 (j : Int) m.1 m.2.1 m.2.2 L = k2 (times (fun L => (List.range m.1.toNat).foldl (visL m) L) (m.1.toNat - j) L) := by
 obtain ⟨n, r, hn, hr, _, hn5, hnr, _, _⟩ := dim_nat hd
 intro M
 induction M with
 | zero => intro j _ _ h; omega
 | succ M ih =>
  intro j L hj hM
  simp only [Z16L, Z1, Z3, Z5, Z8, Z11, Z10, Z9, Z7, Z14, Z18, Z20, Z24, Z28, Z30, Z34, Z36, Z39, Z42, Z41, Z40, Z38, Z43, Z37, Z35, Z33, Z32, Z44, Z31, Z29, Z27, Z26, Z25, Z23, Z22, Z45, Z21, Z19, Z17, Z16, Z15, Z13, Z46, Z12, Z6, Z4, Z2, Z0]
  by_cases h : j < m.1.toNat
  ·have hin := fun (k : Int → Int → Int → Int → List Int → List Int → Option ρ) => row (N := N) hd m.1 (j : Int) k hN N 0 L (by omega) (by omega)
   simp only [show ((0 : Nat) : Int) = 0 from rfl, List.drop_zero] at hin
   rw [ct' (by rw [lk_eq]; exact dt (by omega)), hin, w64_succ (by rw [maxLen_val]; omega), ih (j + 1) _ h (by omega), show m.1.toNat - j = (m.1.toNat - (j + 1)) + 1 by omega]
   rfl
  ·rw [cf' (by rw [lk_eq]; exact df (by omega)), show m.1.toNat - j = 0 by omega]; rfl
theorem fill (hd : dimK m = true) (k0 : Int → Int → List Int → List Int → Option ρ) : ∀ (M j : Nat), j ≤ m.1.toNat → m.1.toNat - j < M →
  Z10L N k0 M (j : Int) m.1 m.2.1 m.2.2 ((List.range j).map fun (i : Nat) => (i : Int)) = k0 m.1 m.2.1 m.2.2 ((List.range m.1.toNat).map fun (i : Nat) => (i : Int)) := by
 obtain ⟨n, r, hn, hr, _, hn5, hnr, _, _⟩ := dim_nat hd
 intro M
 induction M with
 | zero => intro j _ h; omega
 | succ M ih =>
  intro j hj hM
  simp only [Z10L, Z1, Z3, Z5, Z8, Z11, Z10, Z9, Z7, Z14, Z18, Z20, Z24, Z28, Z30, Z34, Z36, Z39, Z42, Z41, Z40, Z38, Z43, Z37, Z35, Z33, Z32, Z44, Z31, Z29, Z27, Z26, Z25, Z23, Z22, Z45, Z21, Z19, Z17, Z16, Z15, Z13, Z46, Z12, Z6, Z4, Z2, Z0]
  by_cases h : j < m.1.toNat
  ·have e1 : mAdd ((List.range j).map fun (i : Nat) => (i : Int)) (j : Int) = (List.range (j + 1)).map fun (i : Nat) => (i : Int) := by
    have : mHas ((List.range j).map fun (i : Nat) => (i : Int)) (j : Int) = false := by
     unfold mHas
     refine df fun hm => ?_
     obtain ⟨x, hx, e⟩ := List.mem_map.1 hm
     have := List.mem_range.1 hx
     omega
    unfold mAdd
    rw [this, List.range_succ, List.map_append]
    rfl
   rw [ct (dt (by omega)), e1, w64_succ (by rw [maxLen_val]; omega), ih (j + 1) h (by omega)]
  ·rw [cf (df (by omega)), show j = m.1.toNat by omega]
end
theorem ok : Spec := fun m hb => ⟨6, fun N hN => by
 simp only [Z1, Z3, Z5, Z8, Z11, Z10, Z9, Z7, Z14, Z18, Z20, Z24, Z28, Z30, Z34, Z36, Z39, Z42, Z41, Z40, Z38, Z43, Z37, Z35, Z33, Z32, Z44, Z31, Z29, Z27, Z26, Z25, Z23, Z22, Z45, Z21, Z19, Z17, Z16, Z15, Z13, Z46, Z12, Z6, Z4, Z2, Z0, lk_eq, g]
 cases h : impl_MatrixOk.g m
 ·rfl
 have hd : dimK m = true := by
  simp only [impl_MatrixOk.g, shapedK, Bool.and_eq_true] at h
  exact h.1.1
 obtain ⟨n, r, hn, hr, _, hn5, hnr, _, _⟩ := dim_nat hd
 have h1 := fun (k0 : Int → Int → List Int → List Int → Option (Unit × Bool × Unit)) => fill (N := N) hd k0 N 0 (by omega) (by omega)
 have h2 := fun (k2 : List Int → Option (Unit × Bool × Unit)) (L : List Int) => rounds (N := N) hd k2 (by omega) N 0 L (by omega) (by omega)
 simp only [show ((0 : Nat) : Int) = 0 from rfl, List.range_zero, List.map_nil, Nat.sub_zero] at h1 h2
 rw [h1, h2]
 show some ((), (decide (((leftL m).length : Int) = 0), ())) = _
 have : decide (((leftL m).length : Int) = 0) = decide (leftL m = []) := by
  by_cases e : leftL m = []
  ·rw [dt e, e]; rfl
  ·rw [df e, df (fun h => e (List.length_eq_zero_iff.1 (by omega)))]
 rw [this]
 rfl⟩
end impl_IsAcyclic
end
end Go.Fw
namespace Go.Fw
section
variable {ρ : Type}
namespace laws_eqIntS
def g (a b : List Int) : Bool := decide (a = b)
end laws_eqIntS
namespace laws_eqIntS
def Z1 {ρ : Type} (N : Nat) (a b : LI) (kn : LI → LI → Option ρ) : Option ρ :=
 kn a b
def Z3 {ρ : Type} (N : Nat) (a b : LI) (kn : LI → LI → Option ρ) (kr : Bool → Option ρ) : Option ρ :=
 cond (lk N (!(decide ((a.length : Int) = (b.length : Int)))))
 (
  kr false)
 (
  kn a b)
def Z6 {ρ : Type} (N : Nat) (a b : LI) (kn : LI → LI → Int → Option ρ) : Option ρ :=
 kn a b 0
def Z9 {ρ : Type} (N : Nat) (b c : LI) (a : Int) (kn : LI → LI → Int → Option ρ) (k0 : Option ρ) (kr : Bool → Option ρ) : Option ρ :=
 cond (lk N (decide (a < (b.length : Int))))
 (
  cond (lk N (inB a b.length)) (
   cond (lk N (inB a c.length)) (
    cond (lk N (!(decide ((b.getD a.toNat 0) = (c.getD a.toNat 0)))))
    (
     kr false)
    (
     kn b c (w64 (a + 1)))) none) none)
 (
  k0)
def Z8L {ρ : Type} (N : Nat) (k0 : Option ρ) (kr : Bool → Option ρ) : Nat → LI → LI → Int → Option ρ
 | 0, _, _, _ => none
 | M + 1, a, b, c => Z9 N a b c (fun a b c => Z8L N k0 kr M a b c) k0 kr
def Z8 N a b c k0 kr := (Z8L N k0 kr N a b c : Option ρ)
def Z7 N a b c kn kr := (Z8 N a b c kn kr : Option ρ)
def Z5 N a b kn kr := (Z6 N a b (fun a b c => Z7 N a b c kn kr) : Option ρ)
def Z10 {ρ : Type} (N : Nat)  (kr : Bool → Option ρ) : Option ρ :=
 kr true
def Z4 N a b kr := (Z5 N a b (Z10 N kr) kr : Option ρ)
def Z2 N a b kr := (Z3 N a b (fun a b => Z4 N a b kr) kr : Option ρ)
def Z0 N a b kr := (Z1 N a b (fun a b => Z2 N a b kr) : Option ρ)
def Spec : Prop := ∀  (v0 v1 : LI), Ty.bd (.sl 0 (.int .i64)) v0 → Ty.bd (.sl 0 (.int .i64)) v1 → ∃ N0, ∀ N, N0 ≤ N → Z0 N v0 v1 (fun v4 => some ((), (v4, ()))) = some ((), ((g v0 v1), ()))
theorem loop {ρ : Type} (N : Nat) (k0 : Option ρ) (kr : Bool → Option ρ) (a b : List Int) (hl : a.length = b.length) (ha : a.length ≤ maxLen) : ∀ (M j : Nat), j ≤ a.length → a.length - j < M →
  Z8L N k0 kr M a b (j : Int) = if a.drop j = b.drop j then k0 else kr false := by
 intro M
 induction M with
 | zero => intro j _ h; omega
 | succ M ih =>
  intro j hj hM
  simp only [Z8L, Z9]
  by_cases h : j < a.length
  ·rw [ct (dt (by omega)), ct (inB_nat h), ct (inB_nat (by omega)), Int.toNat_natCast, w64_succ (by omega), ih (j + 1) h (by omega), drop_getD 0 h, drop_getD (l := b) (j := j) 0 (by omega)]
   by_cases e : a.getD j 0 = b.getD j 0
   ·rw [cf (nf e), e]
    simp only [List.cons.injEq, true_and]
   ·rw [ct (nt e), if_neg (by simp only [List.cons.injEq]; exact fun h => e h.1)]
  ·rw [cf (df (by omega)), if_pos (by rw [List.drop_of_length_le (by omega), List.drop_of_length_le (by omega)])]
theorem ok : Spec := fun a b ha hb => ⟨a.length + 1, fun N hN => by
 simp only [Z1, Z3, Z6, Z9, Z8, Z7, Z5, Z10, Z4, Z2, Z0]
 by_cases hl : a.length = b.length
 ·rw [cf (nf (by omega))]
  rw [show (0 : Int) = ((0 : Nat) : Int) from rfl, loop _ _ _ a b hl ha.1 N 0 (by omega) (by omega)]
  by_cases e : a = b <;> simp [e, g]
 ·rw [ct (nt (by omega))]
  have : a ≠ b := fun e => hl (by rw [e])
  simp [g, this]⟩
end laws_eqIntS
end
end Go.Fw
namespace Go.Fw
section
variable {ρ : Type}
namespace laws_eqMatrix
def g (a b : Int × Int × List Int) : Bool := decide (a = b)
end laws_eqMatrix
namespace laws_eqMatrix
def Z0 {ρ : Type} (N : Nat) (a b : MT) (kr : Bool → Option ρ) : Option ρ :=
 cond (lk N (!(decide (a.1 = b.1))))
 (
  kr false)
 (
  cond (lk N (!(decide (a.2.1 = b.2.1))))
  (
   kr false)
  (
   cond (!(lk N ((laws_eqIntS.g a.2.2 b.2.2))))
   (
    kr false)
   (
    kr true)))
def Spec : Prop := ∀  (v0 v1 : MT), Ty.bd (.pair (.int .i64) (.pair (.int .i64) (.sl 0 (.int .i64)))) v0 → Ty.bd (.pair (.int .i64) (.pair (.int .i64) (.sl 0 (.int .i64)))) v1 → ∃ N0, ∀ N, N0 ≤ N → Z0 N v0 v1 (fun v4 => some ((), (v4, ()))) = some ((), ((g v0 v1), ()))
theorem ok : Spec := fun a b ha hb => ⟨0, fun N hN => by
 obtain ⟨a1, a2, a3⟩ := a
 obtain ⟨b1, b2, b3⟩ := b
 simp only [Z0, lk_eq, g, laws_eqIntS.g, Prod.mk.injEq]
 by_cases h1 : a1 = b1 <;> by_cases h2 : a2 = b2 <;> by_cases h3 : a3 = b3 <;> simp [h1, h2, h3]⟩
end laws_eqMatrix
end
end Go.Fw
namespace Go.Fw
section
variable {ρ : Type}
namespace laws_FnExactIsAcyclic
def g (_ : Int × Int × List Int) : Bool := true
end laws_FnExactIsAcyclic
namespace laws_FnExactIsAcyclic
def Z0 {ρ : Type} (N : Nat) (a : MT) (kr : Bool → Option ρ) : Option ρ :=
 cond (lk N (decide ((laws_szMatrix.g a 1048576) < 0)))
 (
  kr true)
 (
  cond (lk N (laws_toMatrix.P a)) (
   cond (lk N (laws_toMatrix.P a)) (
    cond (lk N (!(((lk N ((impl_IsAcyclic.g (laws_toMatrix.g a)))) == (lk N ((spec_IsAcyclic.g (laws_toMatrix.g a))))))))
    (
     kr false)
    (
     cond (lk N (laws_toMatrix.P a)) (
      cond (!(lk N ((laws_eqMatrix.g (laws_toMatrix.g a) (laws_toMatrix.g a)))))
      (
       kr false)
      (
       kr true)) none)) none) none)
def Spec : Prop := ∀  (v0 : MT), Ty.bd (.pair (.int .i64) (.pair (.int .i64) (.sl 0 (.int .i64)))) v0 → ∃ N0, ∀ N, N0 ≤ N → Z0 N v0 (fun v2 => some ((), (v2, ()))) = some ((), ((g v0), ()))
theorem same (m : Int × Int × List Int) : impl_IsAcyclic.g m = spec_IsAcyclic.g m := by
 have he : impl_MatrixOk.g m = spec_MatrixOk.g m := by
  unfold impl_MatrixOk.g spec_MatrixOk.g
  by_cases h : facK m = []
  ·rw [dt h]; simp
  ·rw [df h]
   cases hs : shapedK m
   ·simp [sizesK, hs]
   ·rw [fac_sizes hs h]
 unfold impl_IsAcyclic.g spec_IsAcyclic.g
 rw [he]
 congr 1
 rw [Bool.eq_iff_iff, decide_eq_true_iff, leftL_iff, ← (goneG_iff m).2, List.all_eq_true]
 exact ⟨fun h x hx => h x (by simpa using hx), fun h x hx => h x (by simpa using hx)⟩
theorem ok : Spec := fun m hb => ⟨0, fun N hN => by
 by_cases hl : laws_szMatrix.g m 1048576 < 0
 ·simp only [Z0]
  rw [ct (dt hl)]
  rfl
 have hP := szMat_P m hb.2.2.1 hl
 simp only [Z0, lk_eq, laws_toMatrix.g, hP, same m, laws_eqMatrix.g, df hl, dt (rfl : m = _)]
 cases spec_IsAcyclic.g m <;> rfl⟩
end laws_FnExactIsAcyclic
end
end Go.Fw
