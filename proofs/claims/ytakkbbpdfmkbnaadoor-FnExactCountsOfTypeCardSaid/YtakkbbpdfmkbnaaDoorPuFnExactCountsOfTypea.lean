/- The plain part: what the functions compute, in lists and numbers. Nothing is assumed. -/
import Derived.Test.YtakkbbpdfmkbnaaDoorFwc
import Derived.Lib.SplitLaws
import Derived.Lib.ItoaLen
set_option linter.unusedVariables false
namespace Go.Fw
def lexLt : List Int → List Int → Bool
  | [], [] => false
  | [], _ :: _ => true
  | _ :: _, [] => false
  | x :: xs, y :: ys => if x = y then lexLt xs ys else decide (x < y)
def lexCmp : List Int → List Int → Int
  | [], [] => 0
  | [], _ :: _ => -1
  | _ :: _, [] => 1
  | x :: xs, y :: ys => if x = y then lexCmp xs ys else if x < y then -1 else 1
theorem lexCmp_le : ∀ a b : List Int, decide (lexCmp a b ≤ 0) = !(lexLt b a)
  | [], [] => rfl
  | [], _ :: _ => rfl
  | _ :: _, [] => rfl
  | x :: xs, y :: ys => by
    rw [lexCmp, lexLt]
    by_cases h : x = y
    · rw [if_pos h, if_pos h.symm, lexCmp_le xs ys]
    · rw [if_neg h, if_neg (show ¬ y = x from fun e => h e.symm)]
      by_cases h2 : x < y
      · rw [if_pos h2, df (show ¬ y < x by omega)]; rfl
      · rw [if_neg h2, dt (show y < x by omega)]; rfl
theorem lexCmp_lt : ∀ a b : List Int, decide (lexCmp a b < 0) = lexLt a b
  | [], [] => rfl
  | [], _ :: _ => rfl
  | _ :: _, [] => rfl
  | x :: xs, y :: ys => by
    rw [lexCmp, lexLt]
    by_cases h : x = y
    · rw [if_pos h, if_pos h, lexCmp_lt xs ys]
    · rw [if_neg h, if_neg h]
      by_cases h2 : x < y
      · rw [if_pos h2, dt h2]; rfl
      · rw [if_neg h2, df h2]; rfl
def inK (n lo hi : Int) : Bool := decide (lo ≤ n) && decide (n ≤ hi)
def expK (vars : Int) (e : List Int) : Bool := decide ((e.length : Int) = vars) && e.all fun x => inK x (-20) 20
def coefK (c : Int) : Bool := !(decide (c = 0)) && inK c (-1000000) 1000000
def prevE (l : List (List Int × Int)) : Nat → Option (List Int)
  | 0 => none
  | j + 1 => some (l.getD j ([], 0)).1
def belowK : Option (List Int) → List Int → Bool
  | none, _ => true
  | some p, e => lexLt e p
def termsK (vars : Int) : List (List Int × Int) → Option (List Int) → Bool
  | [], _ => true
  | t :: ts, p => expK vars t.1 && (coefK t.2 && (belowK p t.1 && termsK vars ts (some t.1)))
def lokK (f : Int × List (List Int × Int)) : Bool := inK f.1 1 8 && (decide (f.2.length ≤ 600) && termsK f.1 f.2 none)
end Go.Fw
namespace Go.Fw
def upto {α : Type} (n j : Nat) (F G : Nat → α) : List α := (List.range n).map fun i => if i < j then F i else G i
section
variable {α : Type} {n j : Nat} {F G : Nat → α}
theorem upto_len : (upto n j F G).length = n := by simp [upto]
theorem map_getD {i : Nat} (h : i < n) (d : α) : ((List.range n).map F).getD i d = F i := by
  rw [List.getD_eq_getElem?_getD, List.getElem?_map, List.getElem?_range h]
  rfl
theorem upto_get {i : Nat} (h : i < n) (d : α) : (upto n j F G).getD i d = if i < j then F i else G i := map_getD h d
theorem upto_set (h : j < n) : (upto n j F G).set j (F j) = upto n (j + 1) F G := by
  apply List.ext_getElem?
  intro i
  by_cases hi : i < n
  · by_cases e : j = i
    · subst e
      rw [List.getElem?_set_self (by rw [upto_len]; exact h)]
      simp [upto, List.getElem?_map, List.getElem?_range h]
    · rw [List.getElem?_set_ne e]
      simp only [upto, List.getElem?_map, List.getElem?_range hi, Option.map_some]
      by_cases h1 : i < j
      · rw [if_pos h1, if_pos (by omega)]
      · rw [if_neg h1, if_neg (by omega)]
  · rw [List.getElem?_eq_none (by rw [List.length_set, upto_len]; omega), List.getElem?_eq_none (by rw [upto_len]; omega)]
theorem upto_zero : upto n 0 F G = (List.range n).map G := by simp [upto]
theorem upto_full : upto n n F G = (List.range n).map F := by
  unfold upto
  apply List.map_congr_left
  intro i hi
  rw [if_pos (List.mem_range.1 hi)]
theorem list_map {l : List α} (d : α) (h : l.length = n) : (List.range n).map (fun i => l.getD i d) = l := by
  apply List.ext_getElem?
  intro i
  by_cases hi : i < n
  · rw [List.getElem?_map, List.getElem?_range hi, Option.map_some, List.getD_eq_getElem?_getD, List.getElem?_eq_getElem (by omega), Option.getD_some]
  · rw [List.getElem?_eq_none (by simp; omega), List.getElem?_eq_none (by omega)]
end
end Go.Fw
namespace Go.Fw
def partsK (p : UInt8 → Bool) : List UInt8 → List (List UInt8)
  | [] => [[]]
  | b :: l => if p b = true then [] :: partsK p l else match partsK p l with
    | h :: t => (b :: h) :: t
    | [] => [[b]]
theorem parts_ne (p : UInt8 → Bool) : ∀ l, partsK p l ≠ []
  | [] => by simp [partsK]
  | b :: l => by
    rw [partsK]
    split
    · simp
    · split <;> simp
def glue (a : List UInt8) : List (List UInt8) → List (List UInt8)
  | h :: t => (a ++ h) :: t
  | [] => [a]
theorem glue_nil {q : List (List UInt8)} (h : q ≠ []) : glue [] q = q := by
  cases q with
  | nil => exact absurd rfl h
  | cons x xs => rfl
theorem glue_sep {p : UInt8 → Bool} {b : UInt8} (h : p b = true) (a l : List UInt8) : glue a (partsK p (b :: l)) = a :: partsK p l := by
  rw [partsK, if_pos h]
  simp [glue]
theorem glue_go {p : UInt8 → Bool} {b : UInt8} (h : p b = false) (a l : List UInt8) : glue a (partsK p (b :: l)) = glue (a ++ [b]) (partsK p l) := by
  rw [partsK, if_neg (by simp [h])]
  have := parts_ne p l
  cases hq : partsK p l with
  | nil => exact absurd hq this
  | cons x xs => simp [glue]
theorem splitK_parts (c : UInt8) : ∀ l : List UInt8, Lib.splitK [c] 0 (l.count c) l = partsK (fun b => b == c) l
  | [] => rfl
  | b :: l => by
    have ih := splitK_parts c l
    rw [partsK]
    by_cases h : b = c
    · subst h
      have hi : Lib.index (b :: l) [b] = 0 := by unfold Lib.index; simp
      rw [List.count_cons_self, Lib.splitK, if_neg (by rw [hi]; decide), if_pos (by simp), hi, ← ih]
      rfl
    · have hp : ([c] : List UInt8).isPrefixOf (b :: l) = false := by simp [List.isPrefixOf]; exact fun e => h e.symm
      have hi : Lib.index (b :: l) [c] = if Lib.index l [c] == -1 then -1 else Lib.index l [c] + 1 := by
        conv => lhs; unfold Lib.index
        rw [hp]
        simp
      rw [List.count_cons_of_ne h, if_neg (by simpa using h), ← ih]
      cases hk : l.count c with
      | zero => rfl
      | succ k =>
        rw [Lib.splitK, Lib.splitK, hi]
        by_cases hm : (Lib.index l [c] == -1) = true
        · rw [if_pos hm, if_pos (by decide), if_pos hm]
        · have hge := Lib.index_ge l [c]
          have hne : Lib.index l [c] ≠ -1 := fun e => hm (beq_iff_eq.2 e)
          obtain ⟨i, hx⟩ := Int.eq_ofNat_of_zero_le (show 0 ≤ Lib.index l [c] by omega)
          rw [if_neg hm, hx, if_neg (by simp; omega), if_neg (by simp)]
          have e : ((i : Int) + 1).toNat = i + 1 := by omega
          simp only [e, Int.toNat_natCast, Nat.add_zero, List.length_singleton, List.take_succ_cons, List.drop_succ_cons]
def baOf (l : List UInt8) : ByteArray := ⟨l.toArray⟩
theorem baOf_data (s : ByteArray) : baOf s.data.toList = s := by simp [baOf]
theorem split_one (s : ByteArray) (c : UInt8) : Lib.splitB ⟨#[c]⟩ 0 (Lib.countB s ⟨#[c]⟩) s = (partsK (fun b => b == c) s.data.toList).map baOf := by
  have h1 : Lib.countB s ⟨#[c]⟩ = s.data.toList.count c := Lib.count_one c _
  have h2 := Lib.splitB_data ⟨#[c]⟩ 0 (s.data.toList.count c) s
  rw [splitK_parts] at h2
  rw [h1, ← h2, List.map_map]
  conv => lhs; rw [← List.map_id (Lib.splitB _ _ _ _)]
  exact List.map_congr_left fun x _ => (baOf_data x).symm
theorem parts_len (p : UInt8 → Bool) : ∀ l, (partsK p l).length ≤ l.length + 1
  | [] => by simp [partsK]
  | b :: l => by
    have := parts_len p l
    rw [partsK]
    split
    · simp; omega
    · split
      · rename_i hq
        rw [hq] at this
        simp at this ⊢
        omega
      · simp
end Go.Fw
namespace Go.Fw
def atP (m : Int × Int × List Int) (i j : Int) : Bool := decide (0 ≤ i) && (decide (0 ≤ j) && (decide (0 ≤ m.1) && decide (i * m.1 + j < (m.2.2.length : Int))))
def atK (m : Int × Int × List Int) (i j : Int) : Int := m.2.2.getD (i * m.1 + j).toNat 0
theorem at_index {m : Int × Int × List Int} {i j : Int} (hl : m.2.2.length ≤ maxLen) (h : atP m i j = true) : w64 (w64 (i * m.1) + j) = i * m.1 + j ∧ 0 ≤ i * m.1 + j ∧ i * m.1 + j < (m.2.2.length : Int) := by
  simp only [atP, Bool.and_eq_true, decide_eq_true_eq] at h
  obtain ⟨h1, h2, h3, h4⟩ := h
  have h5 : 0 ≤ i * m.1 := Int.mul_nonneg h1 h3
  rw [maxLen_val] at hl
  have e : w64 (i * m.1) = i * m.1 := w64_id (by omega) (by omega)
  rw [e, w64_id (by omega) (by omega)]
  exact ⟨rfl, by omega, h4⟩
def ent (m : Int × Int × List Int) (i j : Nat) : Int := m.2.2.getD (i * m.1.toNat + j) 0
theorem atK_nat {m : Int × Int × List Int} (h : 0 ≤ m.1) (i j : Nat) : atK m (i : Int) (j : Int) = ent m i j := by
  unfold atK ent
  congr 1
  obtain ⟨n, hn⟩ := Int.eq_ofNat_of_zero_le h
  rw [hn]
  norm_cast
def dimK (m : Int × Int × List Int) : Bool := inK m.1 1 5 && (inK m.2.1 m.1 8 && decide ((m.2.2.length : Int) = m.1 * m.2.1))
def entK (l : List Int) : Bool := l.all fun x => inK x (-99) 99
def shapedK (m : Int × Int × List Int) : Bool := dimK m && entK m.2.2
def signK (a b : Int) : Bool := (decide (0 < a) == decide (b < 0)) && (decide (a = 0) == decide (b = 0))
def sizesK (m : Int × Int × List Int) : Bool := shapedK m && (List.range m.1.toNat).all fun i => (List.range m.1.toNat).all fun j => signK (ent m i j) (ent m j i)
theorem inK_iff {n lo hi : Int} : inK n lo hi = true ↔ lo ≤ n ∧ n ≤ hi := by simp [inK]
theorem dim_nat {m : Int × Int × List Int} (h : dimK m = true) : ∃ n r : Nat, m.1 = (n : Int) ∧ m.2.1 = (r : Int) ∧ 1 ≤ n ∧ n ≤ 5 ∧ n ≤ r ∧ r ≤ 8 ∧ m.2.2.length = r * n := by
  simp only [dimK, Bool.and_eq_true, inK_iff, decide_eq_true_eq] at h
  obtain ⟨⟨h1, h2⟩, ⟨h3, h4⟩, h5⟩ := h
  obtain ⟨n, hn⟩ := Int.eq_ofNat_of_zero_le (show 0 ≤ m.1 by omega)
  obtain ⟨r, hr⟩ := Int.eq_ofNat_of_zero_le (show 0 ≤ m.2.1 by omega)
  refine ⟨n, r, hn, hr, by omega, by omega, by omega, by omega, ?_⟩
  rw [hn, hr, Int.mul_comm] at h5
  exact_mod_cast h5
theorem ent_lt {n r i j : Nat} (hi : i < r) (hj : j < n) : i * n + j < r * n := by
  have := Nat.mul_le_mul_right n (show i + 1 ≤ r from hi)
  rw [Nat.add_mul] at this
  omega
theorem at_ok {m : Int × Int × List Int} (h : dimK m = true) {i j : Nat} (hi : i < m.2.1.toNat) (hj : j < m.1.toNat) : atP m (i : Int) (j : Int) = true := by
  obtain ⟨n, r, hn, hr, _, _, _, _, hl⟩ := dim_nat h
  have := ent_lt (n := n) (r := r) (i := i) (j := j) (by omega) (by omega)
  simp only [atP, Bool.and_eq_true, decide_eq_true_eq, hn, hl]
  refine ⟨by omega, by omega, by omega, ?_⟩
  exact_mod_cast this
theorem all_bound {l : List Int} (h : entK l = true) (i : Nat) : -99 ≤ l.getD i 0 ∧ l.getD i 0 ≤ 99 := by
  by_cases hi : i < l.length
  · have := (List.all_eq_true.1 h) _ (getD_mem 0 hi)
    exact inK_iff.1 this
  · rw [List.getD_eq_getElem?_getD, List.getElem?_eq_none (by omega), Option.getD_none]; omega
theorem range_drop {j n : Nat} (h : j < n) : (List.range n).drop j = j :: (List.range n).drop (j + 1) := by
  rw [drop_getD 0 (by simpa using h), List.getD_eq_getElem?_getD, List.getElem?_range h, Option.getD_some]
end Go.Fw
namespace Go.Fw
def binK (n : Int) : Nat → Int → Nat → Int
  | 0, x, _ => x
  | m + 1, x, i => binK n m (w64 (Int.tdiv (w64 (x * w64 (n - (i : Int)))) ((i + 1 : Nat) : Int))) (i + 1)
def binC (n k : Int) : Int := binK n k.toNat 1 0
def cntA (n : Int) : Int × Int × Bool := (w64 (Int.tdiv (w64 (n * w64 (n + 3))) 2), w64 (Int.tdiv (binC (w64 (w64 (2 * n) + 2)) (w64 (n + 1))) (w64 (n + 2))), true)
def cntB (n : Int) : Int × Int × Bool := (w64 (n * w64 (n + 1)), binC (w64 (2 * n)) n, true)
def cntD (n : Int) : Int × Int × Bool := (w64 (n * n), w64 (Int.tdiv (w64 (w64 (w64 (3 * n) - 2) * binC (w64 (w64 (2 * n) - 2)) (w64 (n - 1)))) n), true)
def cntK (letter n : Int) : Int × Int × Bool :=
  cond (decide (letter = 65) && inK n 1 5) (cntA n)
  (cond ((decide (letter = 66) && inK n 2 5) || (decide (letter = 67) && inK n 3 5)) (cntB n)
  (cond (decide (letter = 68) && inK n 4 5) (cntD n)
  (cond (decide (letter = 70) && decide (n = 4)) (28, 105, true)
  (cond (decide (letter = 71) && decide (n = 2)) (8, 8, true) (0, 0, false)))))
theorem cnt_range {letter n : Int} (h : (cntK letter n).2.2 = true) : 1 ≤ n ∧ n ≤ 5 := by
  unfold cntK at h
  cases h1 : decide (letter = 65) && inK n 1 5
  · rw [h1, cond_false] at h
    cases h2 : (decide (letter = 66) && inK n 2 5) || (decide (letter = 67) && inK n 3 5)
    · rw [h2, cond_false] at h
      cases h3 : decide (letter = 68) && inK n 4 5
      · rw [h3, cond_false] at h
        cases h4 : decide (letter = 70) && decide (n = 4)
        · rw [h4, cond_false] at h
          cases h5 : decide (letter = 71) && decide (n = 2)
          · rw [h5, cond_false] at h
            cases h
          · simp only [Bool.and_eq_true, decide_eq_true_eq] at h5
            omega
        · simp only [Bool.and_eq_true, decide_eq_true_eq] at h4
          omega
      · simp only [Bool.and_eq_true, decide_eq_true_eq, inK_iff] at h3
        omega
    · simp only [Bool.or_eq_true, Bool.and_eq_true, decide_eq_true_eq, inK_iff] at h2
      omega
  · simp only [Bool.and_eq_true, decide_eq_true_eq, inK_iff] at h1
    omega
def stepK (w : ByteArray) : Option (Int × Int × Int) :=
  cond (decide (w.size = 2) && (cntK (bt w 0) (bt w 1 - 48)).2.2) (some ((cntK (bt w 0) (bt w 1 - 48)).1, (cntK (bt w 0) (bt w 1 - 48)).2.1, bt w 1 - 48)) none
theorem step_range {w : ByteArray} {a b n : Int} (h : stepK w = some (a, b, n)) : 1 ≤ n ∧ n ≤ 5 := by
  unfold stepK at h
  cases h1 : decide (w.size = 2) && (cntK (bt w 0) (bt w 1 - 48)).2.2
  · rw [h1] at h; cases h
  · rw [h1] at h
    simp only [cond_true, Option.some.injEq, Prod.mk.injEq] at h
    simp only [Bool.and_eq_true] at h1
    have := cnt_range h1.2
    omega
def ctI : List ByteArray → Int → Int → Int → Option (Int × Int)
  | [], s, c, _ => some (s, c)
  | w :: ws, s, c, r => match stepK w with
    | none => none
    | some (a, b, n) => if 5 < r + n then none else ctI ws (w64 (s + a)) (w64 (c * b)) (r + n)
def ctS : Nat → List ByteArray → Int → Int → Int → Option (Int × Int × Int)
  | 0, _, s, c, r => some (s, c, r)
  | _ + 1, [], s, c, r => some (s, c, r)
  | k + 1, w :: ws, s, c, r => match stepK w with
    | none => none
    | some (a, b, n) => ctS k ws (w64 (s + a)) (w64 (c * b)) (r + n)
def endS : Option (Int × Int × Int) → Option (Int × Int)
  | some (s, c, r) => if 5 < r then none else some (s, c)
  | none => none
theorem ctS_big : ∀ (k : Nat) (ws : List ByteArray) (s c r : Int), 5 < r → endS (ctS k ws s c r) = none
  | 0, ws, s, c, r, h => by simp [ctS, endS, h]
  | k + 1, [], s, c, r, h => by simp [ctS, endS, h]
  | k + 1, w :: ws, s, c, r, h => by
    rw [ctS]
    cases hs : stepK w with
    | none => rfl
    | some q =>
      obtain ⟨a, b, n⟩ := q
      have := step_range hs
      exact ctS_big k ws _ _ _ (by omega)
theorem ct_same : ∀ (k : Nat) (ws : List ByteArray) (s c r : Int), r ≤ 5 → 6 ≤ r + k → ctI ws s c r = endS (ctS k ws s c r)
  | 0, ws, s, c, r, h1, h2 => by omega
  | k + 1, [], s, c, r, h1, h2 => by
    have : ¬ 5 < r := by omega
    simp [ctS, ctI, endS, this]
  | k + 1, w :: ws, s, c, r, h1, h2 => by
    rw [ctS, ctI]
    cases hs : stepK w with
    | none => rfl
    | some q =>
      obtain ⟨a, b, n⟩ := q
      have := step_range hs
      simp only
      by_cases h : 5 < r + n
      · rw [if_pos h, ctS_big k ws _ _ _ h]
      · rw [if_neg h]
        exact ct_same k ws _ _ _ (by omega) (by omega)
theorem ctS_rank : ∀ (k : Nat) (ws : List ByteArray) (s c r : Int) {q : Int × Int × Int}, ctS k ws s c r = some q → q.2.2 ≤ r + 5 * k
  | 0, ws, s, c, r, q, h => by
    injection h with h
    subst h
    show r ≤ _
    omega
  | k + 1, [], s, c, r, q, h => by
    injection h with h
    subst h
    show r ≤ _
    omega
  | k + 1, w :: ws, s, c, r, q, h => by
    rw [ctS] at h
    cases hs : stepK w with
    | none => rw [hs] at h; cases h
    | some p =>
      obtain ⟨a, b, n⟩ := p
      rw [hs] at h
      have := step_range hs
      have := ctS_rank k ws _ _ _ h
      omega
def ansK : Option (Int × Int) → Int × Int × Bool
  | some (s, c) => (s, c, true)
  | none => (0, 0, false)
end Go.Fw
namespace Go.Fw
noncomputable def itoaB (n : Int) : ByteArray := ⟨(Lib.itoa n).toArray⟩
noncomputable def lsd (u : Nat) : List Int := (Lib.decDigits u).reverse.map fun b => (b.toNat : Int)
theorem u8_dig {t : Nat} (h : t < 10) : ((UInt8.ofNat (48 + t)).toNat : Int) = 48 + (t : Int) := by
  rw [UInt8.toNat_ofNat']
  omega
theorem lsd_small {u : Nat} (h : u < 10) : lsd u = [48 + (u : Int)] := by
  rw [lsd, Lib.decDigits, dif_pos h]
  simp only [List.reverse_cons, List.reverse_nil, List.nil_append, List.map_cons, List.map_nil]
  rw [u8_dig h]
theorem lsd_big {u : Nat} (h : ¬ u < 10) : lsd u = (48 + ((u % 10 : Nat) : Int)) :: lsd (u / 10) := by
  rw [lsd, Lib.decDigits, dif_neg h, List.reverse_append]
  simp only [List.reverse_cons, List.reverse_nil, List.nil_append, List.singleton_append, List.map_cons]
  rw [u8_dig (Nat.mod_lt _ (by omega))]
  rfl
theorem nums_of_bytes (l : List UInt8) : strOfNums (l.map fun b => (b.toNat : Int)) = ⟨l.toArray⟩ := by
  unfold strOfNums
  rw [List.map_map]
  congr 2
  conv => rhs; rw [← List.map_id l]
  apply List.map_congr_left
  intro b _
  simp
theorem nums_lsd (u : Nat) : strOfNums (lsd u).reverse = ⟨(Lib.decDigits u).toArray⟩ := by
  rw [lsd, ← List.map_reverse, List.reverse_reverse, nums_of_bytes]
theorem nums_neg (u : Nat) : strOfNums (45 :: (lsd u).reverse) = ⟨(45 :: Lib.decDigits u).toArray⟩ := by
  rw [lsd, ← List.map_reverse, List.reverse_reverse]
  exact nums_of_bytes (45 :: Lib.decDigits u)
theorem tmod_nat (k : Int) : Int.tmod k 10 = if k < 0 then -((k.natAbs % 10 : Nat) : Int) else ((k.natAbs % 10 : Nat) : Int) := by
  split
  · rename_i h
    obtain ⟨u, rfl⟩ : ∃ u : Nat, k = -(u : Int) := ⟨k.natAbs, by omega⟩
    rw [Int.neg_tmod, Int.natAbs_neg, Int.natAbs_natCast]
    rfl
  · rename_i h
    obtain ⟨u, rfl⟩ : ∃ u : Nat, k = (u : Int) := ⟨k.toNat, by omega⟩
    rw [Int.natAbs_natCast]
    rfl
theorem tdiv_nat (k : Int) : Int.tdiv k 10 = if k < 0 then -((k.natAbs / 10 : Nat) : Int) else ((k.natAbs / 10 : Nat) : Int) := by
  split
  · rename_i h
    obtain ⟨u, rfl⟩ : ∃ u : Nat, k = -(u : Int) := ⟨k.natAbs, by omega⟩
    rw [Int.neg_tdiv, Int.natAbs_neg, Int.natAbs_natCast]
    rfl
  · rename_i h
    obtain ⟨u, rfl⟩ : ∃ u : Nat, k = (u : Int) := ⟨k.toNat, by omega⟩
    rw [Int.natAbs_natCast]
    rfl
theorem w8_id {n : Int} (h0 : 0 ≤ n) (h1 : n < 256) : w8 n = n := by
  unfold w8
  rw [IntKind.wrap_u8]
  omega
theorem dig_pos {k : Int} (h : ¬ Int.tmod k 10 < 0) : w8 (w64 (48 + Int.tmod k 10)) = 48 + ((k.natAbs % 10 : Nat) : Int) := by
  have hm : k.natAbs % 10 < 10 := Nat.mod_lt _ (by omega)
  have e : Int.tmod k 10 = ((k.natAbs % 10 : Nat) : Int) := by
    rw [tmod_nat] at h ⊢
    split
    · rename_i hk
      rw [if_pos hk] at h
      omega
    · rfl
  rw [e, w64_id (by omega) (by omega), w8_id (by omega) (by omega)]
theorem dig_neg {k : Int} (h : Int.tmod k 10 < 0) : w8 (w64 (48 + w64 (0 - Int.tmod k 10))) = 48 + ((k.natAbs % 10 : Nat) : Int) := by
  have hm : k.natAbs % 10 < 10 := Nat.mod_lt _ (by omega)
  have e : Int.tmod k 10 = -((k.natAbs % 10 : Nat) : Int) := by
    rw [tmod_nat] at h ⊢
    split
    · rfl
    · rename_i hk
      rw [if_neg hk] at h
      omega
  have e1 : w64 (0 - -((k.natAbs % 10 : Nat) : Int)) = ((k.natAbs % 10 : Nat) : Int) := by rw [w64_id (by omega) (by omega)]; omega
  rw [e, e1, w64_id (by omega) (by omega), w8_id (by omega) (by omega)]
theorem natAbs_tdiv (k : Int) : (Int.tdiv k 10).natAbs = k.natAbs / 10 := by
  rw [tdiv_nat]
  split <;> omega
end Go.Fw
namespace Go.Fw
def prtB (s : ByteArray) : List ByteArray := (partsK (fun b => b == 32) s.data.toList).map baOf
theorem prt_int (s : ByteArray) : (partsK (fun b => decide ((b.toNat : Int) = 32)) s.data.toList).map baOf = prtB s := by
  have e : (fun b : UInt8 => decide ((b.toNat : Int) = 32)) = fun b => b == 32 := by
    funext b
    rw [Bool.eq_iff_iff, decide_eq_true_eq, beq_iff_eq]
    constructor
    · intro h
      exact UInt8.toNat_inj.1 (by rw [show (32 : UInt8).toNat = 32 from rfl]; omega)
    · intro h
      subst h
      rfl
  unfold prtB
  rw [e]
theorem bt_range (s : ByteArray) (i : Int) : 0 ≤ bt s i ∧ bt s i < 256 := by
  unfold bt
  have := UInt8.toNat_lt (s.data.getD i.toNat 0)
  omega
theorem prt_len (s : ByteArray) : (prtB s).length ≤ s.size + 1 := by
  unfold prtB
  rw [List.length_map, Lib.size_eq]
  exact parts_len _ _
theorem step_none {w : ByteArray} (h : w.size ≠ 2 ∨ bt w 1 < 49 ∨ 53 < bt w 1) : stepK w = none := by
  unfold stepK
  cases h1 : decide (w.size = 2) && (cntK (bt w 0) (bt w 1 - 48)).2.2
  · rfl
  · simp only [Bool.and_eq_true, decide_eq_true_eq] at h1
    have := cnt_range h1.2
    omega
end Go.Fw
set_option linter.unusedSimpArgs false
set_option maxRecDepth 100000
namespace Go.Fw
noncomputable section
variable {ρ : Type}
namespace spec_l1Split
def P (s : ByteArray) (_ : Int) : Bool := decide (s.size ≤ 1048576)
def g (s : ByteArray) (by_ : Int) : List ByteArray := (partsK (fun b => decide ((b.toNat : Int) = by_)) s.data.toList).map baOf
end spec_l1Split
namespace spec_l1Split
def Z1 {ρ : Type} (N : Nat) (v0 : ByteArray) (v1 : Int) (kn : ByteArray → Int → Option ρ) : Option ρ :=
 kn v0 v1
def Z3 {ρ : Type} (N : Nat) (v0 : ByteArray) (v1 : Int) (kn : List ByteArray → ByteArray → Int → Option ρ) : Option ρ :=
 kn ([] : List ByteArray) v0 v1
def Z5 {ρ : Type} (N : Nat) (v5 : List ByteArray) (v0 : ByteArray) (v1 : Int) (kn : List ByteArray → ByteArray → I2 (Option ρ)) : Option ρ :=
 kn v5 v0 v1 0
def Z8 {ρ : Type} (N : Nat) (v5 : List ByteArray) (v0 : ByteArray) (v1 v6 : Int) (kn : List ByteArray → ByteArray → I3 (Option ρ)) : Option ρ :=
 kn v5 v0 v1 v6 0
def Z11 {ρ : Type} (N : Nat) (v5 : List ByteArray) (v0 : ByteArray) (v1 v6 v7 : Int) (kn : List ByteArray → ByteArray → I3 (Option ρ)) (k0 : List ByteArray → Option ρ) : Option ρ :=
 cond (lk N (decide (v7 ≤ (v0.size : Int))))
 (
  cond (lk N (decide (v7 = (v0.size : Int))))
  (
   cond (lk N (leB 0 v6 && (leB v6 v7 && leB v7 v0.size))) (
    cond (lk N (Nat.blt (v5.length + ([(v0.extract v6.toNat v7.toNat)] : List ByteArray).length) 1099511627776)) (
     kn (v5 ++ ([(v0.extract v6.toNat v7.toNat)] : List ByteArray)) v0 v1 (w64 (v7 + 1)) (w64 (v7 + 1))) none) none)
  (
   cond (lk N (decide (0 ≤ v7) && decide (v7 < (v0.size : Int)))) (
    cond (lk N (decide ((bt v0 v7) = v1)))
    (
     cond (lk N (leB 0 v6 && (leB v6 v7 && leB v7 v0.size))) (
      cond (lk N (Nat.blt (v5.length + ([(v0.extract v6.toNat v7.toNat)] : List ByteArray).length) 1099511627776)) (
       kn (v5 ++ ([(v0.extract v6.toNat v7.toNat)] : List ByteArray)) v0 v1 (w64 (v7 + 1)) (w64 (v7 + 1))) none) none)
    (
     kn v5 v0 v1 v6 (w64 (v7 + 1)))) none))
 (
  k0 v5)
def Z10L {ρ : Type} (N : Nat) (k0 : List ByteArray → Option ρ) : Nat → List ByteArray → ByteArray → Int → Int → Int → Option ρ
  | 0, _, _, _, _, _ => none
  | M + 1, v5, v0, v1, v6, v7 => Z11 N v5 v0 v1 v6 v7 (fun v5 v0 v1 v6 v7 => Z10L N k0 M v5 v0 v1 v6 v7) k0
def Z10 N v5 v0 v1 v6 v7 k0 := (Z10L N k0 N v5 v0 v1 v6 v7 : Option ρ)
def Z9 N v5 v0 v1 v6 v7 kn := (Z10 N v5 v0 v1 v6 v7 kn : Option ρ)
def Z7 N v5 v0 v1 v6 kn := (Z8 N v5 v0 v1 v6 (fun v5 v0 v1 v6 v7 => Z9 N v5 v0 v1 v6 v7 kn) : Option ρ)
def Z12 {ρ : Type} (N : Nat) (v5 : List ByteArray) (kr : List ByteArray → Option ρ) : Option ρ :=
 kr v5
def Z6 N v5 v0 v1 v6 kr := (Z7 N v5 v0 v1 v6 (fun v5 => Z12 N v5 kr) : Option ρ)
def Z4 N v5 v0 v1 kr := (Z5 N v5 v0 v1 (fun v5 v0 v1 v6 => Z6 N v5 v0 v1 v6 kr) : Option ρ)
def Z2 N v0 v1 kr := (Z3 N v0 v1 (fun v5 v0 v1 => Z4 N v5 v0 v1 kr) : Option ρ)
def Z0 N v0 v1 kr := (Z1 N v0 v1 (fun v0 v1 => Z2 N v0 v1 kr) : Option ρ)
def Spec : Prop := ∀  (v0 : ByteArray) (v1 : Int), P v0 v1 = true → ∃ N0, ∀ N, N0 ≤ N → Z0 N v0 v1 (fun v4 => some ((), (v4, ()))) = some ((), ((g v0 v1), ()))
theorem loop {ρ : Type} {N : Nat} {s : ByteArray} (hs : s.size ≤ 1048576) (by_ : Int) (k0 : List ByteArray → Option ρ) : ∀ (M i fr : Nat) (out : List ByteArray), fr ≤ i → i ≤ s.size → out.length + (s.size - i) ≤ 1048577 → s.size + 1 - i < M →
    Z10L N k0 M out s by_ (fr : Int) (i : Int) = k0 (out ++ (glue ((s.data.toList.drop fr).take (i - fr)) (partsK (fun b => decide ((b.toNat : Int) = by_)) (s.data.toList.drop i))).map baOf) := by
  have hsz := Lib.size_eq s
  intro M
  induction M with
  | zero => intro i fr out _ _ _ h; omega
  | succ M ih =>
    intro i fr out hf hi ho hM
    have hpiece : ∀ j : Nat, s.extract fr j = baOf ((s.data.toList.drop fr).take (j - fr)) := fun j => by rw [← Lib.extract_data, baOf_data]
    have hc : (leB 0 (fr : Int) && (leB (fr : Int) (i : Int) && leB (i : Int) s.size)) = true := by rw [leB_t (by omega), leB_t (by omega), leB_t (by omega)]; rfl
    have hb : ∀ x : ByteArray, Nat.blt (out.length + ([x] : List ByteArray).length) 1099511627776 = true := fun x => Nat.ble_eq_true_of_le (by simp; omega)
    simp only [Z10L, Z11]
    rw [ct (dt (by omega))]
    by_cases h : i = s.size
    · rw [ct (dt (by omega)), ct hc, ct (hb _), Int.toNat_natCast, Int.toNat_natCast, hpiece, w64_succ (by rw [maxLen_val]; omega)]
      obtain ⟨M, rfl⟩ : ∃ m, M = m + 1 := ⟨M - 1, by omega⟩
      simp only [Z10L, Z11]
      rw [cf (df (by omega)), List.drop_of_length_le (i := i) (by omega)]
      simp [partsK, glue]
    · have hlt : i < s.data.toList.length := by omega
      have hd : s.data.toList.drop i = s.data.toList[i] :: s.data.toList.drop (i + 1) := List.drop_eq_getElem_cons hlt
      have hbt : bt s (i : Int) = (s.data.toList[i].toNat : Int) := by
        unfold bt
        rw [Int.toNat_natCast, Array.getD_eq_getD_getElem?, Array.getElem?_eq_getElem (by simpa using hlt), Option.getD_some]
        simp
      rw [cf (df (by omega)), ct (show (decide (0 ≤ (i : Int)) && decide ((i : Int) < (s.size : Int))) = true by rw [dt (by omega), dt (by omega)]; rfl), hbt, hd]
      by_cases hsep : (s.data.toList[i].toNat : Int) = by_
      · rw [ct (dt hsep), ct hc, ct (hb _), Int.toNat_natCast, Int.toNat_natCast, hpiece, w64_succ (by rw [maxLen_val]; omega), glue_sep (by simpa using hsep)]
        rw [ih (i + 1) (i + 1) _ (Nat.le_refl _) (by omega) (by simp; omega) (by omega), Nat.sub_self, List.take_zero, glue_nil (parts_ne _ _)]
        simp
      · rw [cf (df hsep), w64_succ (by rw [maxLen_val]; omega), glue_go (by simpa using hsep), ih (i + 1) fr _ (by omega) (by omega) (by omega) (by omega)]
        congr 4
        obtain ⟨d, rfl⟩ : ∃ d, i = fr + d := ⟨i - fr, by omega⟩
        rw [show fr + d + 1 - fr = d + 1 by omega, show fr + d - fr = d by omega, List.take_add_one, List.getElem?_drop, List.getElem?_eq_getElem hlt]
        rfl
theorem ok : Spec := fun s by_ hp => ⟨s.size + 3, fun N hN => by
  have hs : s.size ≤ 1048576 := of_decide_eq_true hp
  simp only [Z1, Z3, Z5, Z8, Z11, Z10, Z9, Z7, Z12, Z6, Z4, Z2, Z0]
  refine (loop hs by_ _ N 0 0 [] (Nat.le_refl _) (Nat.zero_le _) (by simp; omega) (by omega)).trans ?_
  rw [Nat.sub_self, List.take_zero, List.drop_zero, glue_nil (parts_ne _ _), List.nil_append]
  rfl⟩
end spec_l1Split
end
end Go.Fw
namespace Go.Fw
noncomputable section
variable {ρ : Type}
namespace spec_l1In
def g (n low high : Int) : Bool := inK n low high
end spec_l1In
namespace spec_l1In
def Z0 {ρ : Type} (N : Nat) (v0 v1 v2 : Int) (kr : Bool → Option ρ) : Option ρ :=
 cond (lk N (decide (v1 ≤ v0)))
 (
  kr (lk N (decide (v0 ≤ v2))))
 (
  kr false)
def Spec : Prop := ∀  (v0 v1 v2 : Int), ∃ N0, ∀ N, N0 ≤ N → Z0 N v0 v1 v2 (fun v6 => some ((), (v6, ()))) = some ((), ((g v0 v1 v2), ()))
theorem ok : Spec := fun n low high => ⟨0, fun N hN => by
  simp only [Z0, lk_eq, g, inK]
  cases decide (low ≤ n) <;> rfl⟩
end spec_l1In
end
end Go.Fw
namespace Go.Fw
noncomputable section
variable {ρ : Type}
namespace spec_l3Binomial
def P (_ k : Int) : Bool := decide (k ≤ 1000)
def g (n k : Int) : Int := binC n k
end spec_l3Binomial
namespace spec_l3Binomial
def Z1 {ρ : Type} (N : Nat) (v0 v1 : Int) (kn : I2 (Option ρ)) : Option ρ :=
 kn v0 v1
def Z3 {ρ : Type} (N : Nat) (v0 v1 : Int) (kn : I3 (Option ρ)) : Option ρ :=
 kn v0 v1 1
def Z6 {ρ : Type} (N : Nat) (v0 v1 v5 : Int) (kn : I4 (Option ρ)) : Option ρ :=
 kn v0 v1 v5 0
def Z9 {ρ : Type} (N : Nat) (v0 v1 v5 v6 : Int) (kn : I4 (Option ρ)) (k0 : Int → Option ρ) : Option ρ :=
 cond (lk N (decide (v6 < v1)))
 (
  cond (lk N (!(decide ((w64 (v6 + 1)) = 0)))) (
   kn v0 v1 (w64 (Int.tdiv (w64 (v5 * (w64 (v0 - v6)))) (w64 (v6 + 1)))) (w64 (v6 + 1))) none)
 (
  k0 v5)
def Z8L {ρ : Type} (N : Nat) (k0 : Int → Option ρ) : Nat → Int → Int → Int → Int → Option ρ
  | 0, _, _, _, _ => none
  | M + 1, v0, v1, v5, v6 => Z9 N v0 v1 v5 v6 (fun v0 v1 v5 v6 => Z8L N k0 M v0 v1 v5 v6) k0
def Z8 N v0 v1 v5 v6 k0 := (Z8L N k0 N v0 v1 v5 v6 : Option ρ)
def Z7 N v0 v1 v5 v6 kn := (Z8 N v0 v1 v5 v6 kn : Option ρ)
def Z5 N v0 v1 v5 kn := (Z6 N v0 v1 v5 (fun v0 v1 v5 v6 => Z7 N v0 v1 v5 v6 kn) : Option ρ)
def Z10 {ρ : Type} (N : Nat) (v5 : Int) (kr : Int → Option ρ) : Option ρ :=
 kr v5
def Z4 N v0 v1 v5 kr := (Z5 N v0 v1 v5 (fun v5 => Z10 N v5 kr) : Option ρ)
def Z2 N v0 v1 kr := (Z3 N v0 v1 (fun v0 v1 v5 => Z4 N v0 v1 v5 kr) : Option ρ)
def Z0 N v0 v1 kr := (Z1 N v0 v1 (fun v0 v1 => Z2 N v0 v1 kr) : Option ρ)
def Spec : Prop := ∀  (v0 v1 : Int), P v0 v1 = true → ∃ N0, ∀ N, N0 ≤ N → Z0 N v0 v1 (fun v4 => some ((), (v4, ()))) = some ((), ((g v0 v1), ()))
theorem loop {ρ : Type} {N : Nat} (k0 : Int → Option ρ) (n : Int) {k : Int} (hk : k ≤ 1000) : ∀ (M i : Nat) (x : Int), (i : Int) ≤ max k 0 → k.toNat - i < M → Z8L N k0 M n k x (i : Int) = k0 (binK n (k.toNat - i) x i) := by
  intro M
  induction M with
  | zero => intro i x _ h; omega
  | succ M ih =>
    intro i x hi hM
    simp only [Z8L, Z9]
    by_cases h : (i : Int) < k
    · have e : w64 ((i : Int) + 1) = ((i + 1 : Nat) : Int) := w64_succ (by rw [maxLen_val]; omega)
      rw [ct (dt h), e, ct (nt (by omega)), ih (i + 1) _ (by omega) (by omega)]
      obtain ⟨m, hm⟩ : ∃ m, k.toNat - i = m + 1 := ⟨k.toNat - i - 1, by omega⟩
      rw [hm, binK, show k.toNat - (i + 1) = m by omega]
    · rw [cf (df h), show k.toNat - i = 0 by omega]
      rfl
theorem ok : Spec := fun n k hp => ⟨2000, fun N hN => by
  have hk : k ≤ 1000 := of_decide_eq_true hp
  simp only [Z1, Z3, Z6, Z9, Z8, Z7, Z5, Z10, Z4, Z2, Z0]
  exact loop (fun x5 => some ((), (x5, ()))) n hk N 0 1 (by omega) (by omega)⟩
end spec_l3Binomial
end
end Go.Fw
namespace Go.Fw
noncomputable section
variable {ρ : Type}
namespace spec_l3Counts
def g (letter n : Int) : Int × Int × Bool := cntK letter n
end spec_l3Counts
namespace spec_l3Counts
def Z1 {ρ : Type} (N : Nat) (v0 v1 : Int) (kn : I2 (Option ρ)) : Option ρ :=
 kn v0 v1
def Z5 {ρ : Type} (N : Nat) (v0 v1 : Int) (kn : I2 (Bool → Option ρ)) : Option ρ :=
 cond (lk N (decide (v0 = 65)))
 (
  kn v0 v1 (lk N ((spec_l1In.g v1 1 5))))
 (
  kn v0 v1 false)
def Z7 {ρ : Type} (N : Nat) (v0 v1 : Int) (v7 : Bool) (kr : I2 (Bool → Option ρ)) : Option ρ :=
 cond (lk N (true)) (
  cond (lk N (spec_l3Binomial.P (w64 ((w64 (2 * v1)) + 2)) (w64 (v1 + 1)))) (
   cond (lk N (!(decide ((w64 (v1 + 2)) = 0)))) (
    kr (w64 (Int.tdiv (w64 (v1 * (w64 (v1 + 3)))) 2)) (w64 (Int.tdiv (spec_l3Binomial.g (w64 ((w64 (2 * v1)) + 2)) (w64 (v1 + 1))) (w64 (v1 + 2)))) true) none) none) none
def Z9 {ρ : Type} (N : Nat) (v0 v1 : Int) (v7 : Bool) (kn : I2 (Bool → Option ρ)) : Option ρ :=
 cond (lk N (decide (v0 = 66)))
 (
  cond (lk N ((spec_l1In.g v1 2 5)))
  (
   kn v0 v1 true)
  (
   cond (lk N (decide (v0 = 67)))
   (
    kn v0 v1 (lk N ((spec_l1In.g v1 3 5))))
   (
    kn v0 v1 false)))
 (
  cond (lk N (decide (v0 = 67)))
  (
   kn v0 v1 (lk N ((spec_l1In.g v1 3 5))))
  (
   kn v0 v1 false))
def Z11 {ρ : Type} (N : Nat) (v0 v1 : Int) (v28 : Bool) (kr : I2 (Bool → Option ρ)) : Option ρ :=
 cond (lk N (spec_l3Binomial.P (w64 (2 * v1)) v1)) (
  kr (w64 (v1 * (w64 (v1 + 1)))) (spec_l3Binomial.g (w64 (2 * v1)) v1) true) none
def Z13 {ρ : Type} (N : Nat) (v0 v1 : Int) (v28 : Bool) (kn : I2 (Bool → Option ρ)) : Option ρ :=
 cond (lk N (decide (v0 = 68)))
 (
  kn v0 v1 (lk N ((spec_l1In.g v1 4 5))))
 (
  kn v0 v1 false)
def Z14 {ρ : Type} (N : Nat) (v0 v1 : Int) (v51 : Bool) (kn : Option ρ) (kr : I2 (Bool → Option ρ)) : Option ρ :=
 cond (v51)
 (
  cond (lk N (spec_l3Binomial.P (w64 ((w64 (2 * v1)) - 2)) (w64 (v1 - 1)))) (
   cond (lk N (!(decide (v1 = 0)))) (
    kr (w64 (v1 * v1)) (w64 (Int.tdiv (w64 ((w64 ((w64 (3 * v1)) - 2)) * (spec_l3Binomial.g (w64 ((w64 (2 * v1)) - 2)) (w64 (v1 - 1))))) v1)) true) none) none)
 (
  cond (lk N (decide (v0 = 70)))
  (
   cond (lk N (decide (v1 = 4)))
   (
    kr 28 105 true)
   (
    cond (lk N (decide (v0 = 71)))
    (
     cond (lk N (decide (v1 = 2)))
     (
      kr 8 8 true)
     (
      kn))
    (
     kn)))
  (
   cond (lk N (decide (v0 = 71)))
   (
    cond (lk N (decide (v1 = 2)))
    (
     kr 8 8 true)
    (
     kn))
   (
    kn)))
def Z12 N v0 v1 v28 kn kr := (Z13 N v0 v1 v28 (fun v0 v1 v51 => Z14 N v0 v1 v51 kn kr) : Option ρ)
def Z10 N v0 v1 v28 kn kr := (cond (v28) (Z11 N v0 v1 v28 kr) (Z12 N v0 v1 v28 kn kr) : Option ρ)
def Z8 N v0 v1 v7 kn kr := (Z9 N v0 v1 v7 (fun v0 v1 v28 => Z10 N v0 v1 v28 kn kr) : Option ρ)
def Z6 N v0 v1 v7 kn kr := (cond (v7) (Z7 N v0 v1 v7 kr) (Z8 N v0 v1 v7 kn kr) : Option ρ)
def Z4 N v0 v1 kn kr := (Z5 N v0 v1 (fun v0 v1 v7 => Z6 N v0 v1 v7 kn kr) : Option ρ)
def Z3 N v0 v1 kn kr := (Z4 N v0 v1 kn kr : Option ρ)
def Z15 {ρ : Type} (N : Nat)  (kr : I2 (Bool → Option ρ)) : Option ρ :=
 kr 0 0 false
def Z2 N v0 v1 kr := (Z3 N v0 v1 (Z15 N kr) kr : Option ρ)
def Z0 N v0 v1 kr := (Z1 N v0 v1 (fun v0 v1 => Z2 N v0 v1 kr) : Option ρ)
def Spec : Prop := ∀  (v0 v1 : Int), ∃ N0, ∀ N, N0 ≤ N → Z0 N v0 v1 (fun v4 v5 v6 => some ((), (v4, (v5, (v6, ()))))) = some ((), ((g v0 v1).1, ((g v0 v1).2.1, ((g v0 v1).2.2, ()))))
theorem ok : Spec := fun letter n => ⟨0, fun N hN => by
  have eA : inK n 1 5 = true → lk N (spec_l3Binomial.P (w64 (w64 (2 * n) + 2)) (w64 (n + 1))) = true ∧ decide (w64 (n + 2) = 0) = false := fun h => by
    rw [inK_iff] at h
    rw [lk_eq, spec_l3Binomial.P, w64_id (by omega) (by omega), w64_id (by omega) (by omega)]
    exact ⟨dt (by omega), df (by omega)⟩
  have eB : inK n 2 5 = true ∨ inK n 3 5 = true → lk N (spec_l3Binomial.P (w64 (2 * n)) n) = true := fun h => by
    rw [inK_iff, inK_iff] at h
    rw [lk_eq]
    exact dt (by omega)
  have eD : inK n 4 5 = true → lk N (spec_l3Binomial.P (w64 (w64 (2 * n) - 2)) (w64 (n - 1))) = true ∧ decide (n = 0) = false := fun h => by
    rw [inK_iff] at h
    rw [lk_eq, spec_l3Binomial.P, w64_id (n := n - 1) (by omega) (by omega)]
    exact ⟨dt (by omega), df (by omega)⟩
  simp only [Z1, Z5, Z7, Z9, Z11, Z13, Z14, Z12, Z10, Z8, Z6, Z4, Z3, Z15, Z2, Z0, spec_l1In.g, g, cntK, spec_l3Binomial.g]
  by_cases h65 : letter = 65
  · subst h65
    cases h1 : inK n 1 5
    · simp [lk_eq]
    · obtain ⟨a, b⟩ := eA h1
      simp only [lk_eq] at a
      simp [lk_eq, a, b, cntA]
  by_cases h66 : letter = 66
  · subst h66
    cases h1 : inK n 2 5
    · simp [lk_eq]
    · have a := eB (.inl h1)
      simp only [lk_eq] at a
      simp [lk_eq, a, cntB]
  by_cases h67 : letter = 67
  · subst h67
    cases h1 : inK n 3 5
    · simp [lk_eq]
    · have a := eB (.inr h1)
      simp only [lk_eq] at a
      simp [lk_eq, a, cntB]
  by_cases h68 : letter = 68
  · subst h68
    cases h1 : inK n 4 5
    · simp [lk_eq]
    · obtain ⟨a, b⟩ := eD h1
      simp only [lk_eq] at a
      simp [lk_eq, a, b, cntD]
  by_cases h70 : letter = 70
  · subst h70
    by_cases h1 : n = 4 <;> simp [lk_eq, h1]
  by_cases h71 : letter = 71
  · subst h71
    by_cases h1 : n = 2 <;> simp [lk_eq, h1]
  simp [lk_eq, h65, h66, h67, h68, h70, h71]⟩
end spec_l3Counts
end
end Go.Fw
namespace Go.Fw
noncomputable section
variable {ρ : Type}
namespace spec_CountsOfType
def P (s : ByteArray) : Bool := decide (s.size ≤ 1048576)
def g (s : ByteArray) : Int × Int × Bool := ansK (endS (ctS 6 (prtB s) 0 1 0))
end spec_CountsOfType
namespace spec_CountsOfType
def Z1 {ρ : Type} (N : Nat) (v0 : ByteArray) (kn : ByteArray → Option ρ) : Option ρ :=
 kn v0
def Z3 {ρ : Type} (N : Nat) (v0 : ByteArray) (kn : List ByteArray → Option ρ) : Option ρ :=
 cond (lk N (spec_l1Split.P v0 32)) (
  kn (spec_l1Split.g v0 32)) none
def Z5 {ρ : Type} (N : Nat) (v5 : List ByteArray) (kn : List ByteArray → Int → Option ρ) : Option ρ :=
 kn v5 0
def Z7 {ρ : Type} (N : Nat) (v5 : List ByteArray) (v6 : Int) (kn : List ByteArray → I2 (Option ρ)) : Option ρ :=
 kn v5 v6 1
def Z9 {ρ : Type} (N : Nat) (v5 : List ByteArray) (v6 v7 : Int) (kn : List ByteArray → I3 (Option ρ)) : Option ρ :=
 kn v5 v6 v7 0
def Z12 {ρ : Type} (N : Nat) (v5 : List ByteArray) (v6 v7 v8 : Int) (kn : List ByteArray → I4 (Option ρ)) : Option ρ :=
 kn v5 v6 v7 v8 0
def Z15 {ρ : Type} (N : Nat) (v5 : List ByteArray) (v6 v7 v8 v9 : Int) (kn : List ByteArray → I4 (Option ρ)) (k0 : I3 (Option ρ)) (kr : I2 (Bool → Option ρ)) : Option ρ :=
 cond (lk N (decide (v9 < (v5.length : Int))))
 (
  cond (lk N (decide (v9 ≤ 5)))
  (
   cond (lk N (inB v9 v5.length)) (
    cond (lk N (!(decide (((v5.getD v9.toNat ByteArray.empty).size : Int) = 2))))
    (
     kr 0 0 false)
    (
     cond (lk N (inB v9 v5.length)) (
      cond (lk N (decide (0 ≤ 0) && decide (0 < ((v5.getD v9.toNat ByteArray.empty).size : Int)))) (
       cond (lk N (inB v9 v5.length)) (
        cond (lk N (decide (0 ≤ 1) && decide (1 < ((v5.getD v9.toNat ByteArray.empty).size : Int)))) (
         cond (!(lk N ((spec_l3Counts.g (bt (v5.getD v9.toNat ByteArray.empty) 0) (w64 ((w64 ((bt (v5.getD v9.toNat ByteArray.empty) 1))) - 48))).2.2)))
         (
          kr 0 0 false)
         (
          cond (lk N (inB v9 v5.length)) (
           cond (lk N (decide (0 ≤ 1) && decide (1 < ((v5.getD v9.toNat ByteArray.empty).size : Int)))) (
            kn v5 (w64 (v6 + (spec_l3Counts.g (bt (v5.getD v9.toNat ByteArray.empty) 0) (w64 ((w64 ((bt (v5.getD v9.toNat ByteArray.empty) 1))) - 48))).1)) (w64 (v7 * (spec_l3Counts.g (bt (v5.getD v9.toNat ByteArray.empty) 0) (w64 ((w64 ((bt (v5.getD v9.toNat ByteArray.empty) 1))) - 48))).2.1)) (w64 ((w64 (v8 + (w64 ((bt (v5.getD v9.toNat ByteArray.empty) 1))))) - 48)) (w64 (v9 + 1))) none) none)) none) none) none) none)) none)
  (
   k0 v6 v7 v8))
 (
  k0 v6 v7 v8)
def Z14L {ρ : Type} (N : Nat) (k0 : I3 (Option ρ)) (kr : I2 (Bool → Option ρ)) : Nat → List ByteArray → Int → Int → Int → Int → Option ρ
  | 0, _, _, _, _, _ => none
  | M + 1, v5, v6, v7, v8, v9 => Z15 N v5 v6 v7 v8 v9 (fun v5 v6 v7 v8 v9 => Z14L N k0 kr M v5 v6 v7 v8 v9) k0 kr
def Z14 N v5 v6 v7 v8 v9 k0 kr := (Z14L N k0 kr N v5 v6 v7 v8 v9 : Option ρ)
def Z13 N v5 v6 v7 v8 v9 kn kr := (Z14 N v5 v6 v7 v8 v9 kn kr : Option ρ)
def Z11 N v5 v6 v7 v8 kn kr := (Z12 N v5 v6 v7 v8 (fun v5 v6 v7 v8 v9 => Z13 N v5 v6 v7 v8 v9 kn kr) : Option ρ)
def Z16 {ρ : Type} (N : Nat) (v6 v7 v8 : Int) (kr : I2 (Bool → Option ρ)) : Option ρ :=
 cond (lk N (decide (5 < v8)))
 (
  kr 0 0 false)
 (
  kr v6 v7 true)
def Z10 N v5 v6 v7 v8 kr := (Z11 N v5 v6 v7 v8 (fun v6 v7 v8 => Z16 N v6 v7 v8 kr) kr : Option ρ)
def Z8 N v5 v6 v7 kr := (Z9 N v5 v6 v7 (fun v5 v6 v7 v8 => Z10 N v5 v6 v7 v8 kr) : Option ρ)
def Z6 N v5 v6 kr := (Z7 N v5 v6 (fun v5 v6 v7 => Z8 N v5 v6 v7 kr) : Option ρ)
def Z4 N v5 kr := (Z5 N v5 (fun v5 v6 => Z6 N v5 v6 kr) : Option ρ)
def Z2 N v0 kr := (Z3 N v0 (fun v5 => Z4 N v5 kr) : Option ρ)
def Z0 N v0 kr := (Z1 N v0 (fun v0 => Z2 N v0 kr) : Option ρ)
def Spec : Prop := ∀  (v0 : ByteArray), P v0 = true → ∃ N0, ∀ N, N0 ≤ N → Z0 N v0 (fun v2 v3 v4 => some ((), (v2, (v3, (v4, ()))))) = some ((), ((g v0).1, ((g v0).2.1, ((g v0).2.2, ()))))
theorem loop {ρ : Type} {N : Nat} (k0 : Int → Int → Int → Option ρ) (kr : Int → Int → Bool → Option ρ) {ps : List ByteArray} (hps : ps.length ≤ 2000000) : ∀ (M i : Nat) (v c r : Int), i ≤ ps.length → i ≤ 6 → 0 ≤ r → r ≤ 5 * i → 6 - i < M →
    Z14L N k0 kr M ps v c r (i : Int) = match ctS (6 - i) (ps.drop i) v c r with | some q => k0 q.1 q.2.1 q.2.2 | none => kr 0 0 false := by
  intro M
  induction M with
  | zero => intro i v c r _ _ _ _ h; omega
  | succ M ih =>
    intro i v c r hi h6 h0 hr hM
    simp only [Z14L, Z15]
    by_cases h : i < ps.length
    · by_cases h5 : i ≤ 5
      · obtain ⟨k, hk⟩ : ∃ k, 6 - i = k + 1 := ⟨6 - i - 1, by omega⟩
        have hb0 := bt_range (ps.getD i ByteArray.empty) 0
        have hb1 := bt_range (ps.getD i ByteArray.empty) 1
        have hdef : ps.getD i ByteArray.empty = ps.getD i ByteArray.empty := rfl
        rw [ct (dt (by omega)), ct (dt (by omega)), ct (inB_nat h), Int.toNat_natCast, hk, drop_getD (l := ps) ByteArray.empty h, ctS]
        by_cases hs : (ps.getD i ByteArray.empty).size = 2
        · have e1 : (decide ((0 : Nat) ≤ 1) && decide ((1 : Int) < ((ps.getD i ByteArray.empty).size : Int))) = true := by rw [hs]; rfl
          have e0 : (decide ((0 : Nat) ≤ 0) && decide ((0 : Int) < ((ps.getD i ByteArray.empty).size : Int))) = true := by rw [hs]; rfl
          have en : w64 (w64 (bt (ps.getD i ByteArray.empty) 1) - 48) = bt (ps.getD i ByteArray.empty) 1 - 48 := by
            rw [w64_id (n := bt (ps.getD i ByteArray.empty) 1) (by omega) (by omega), w64_id (by omega) (by omega)]
          rw [cf (nf (by omega)), ct (inB_nat h), ct e0, ct (inB_nat h), ct e1, en]
          have hg : spec_l3Counts.g (bt (ps.getD i ByteArray.empty) 0) (bt (ps.getD i ByteArray.empty) 1 - 48) = cntK (bt (ps.getD i ByteArray.empty) 0) (bt (ps.getD i ByteArray.empty) 1 - 48) := rfl
          rw [hg]
          unfold stepK
          rw [dt hs, Bool.true_and]
          cases hok : (cntK (bt (ps.getD i ByteArray.empty) 0) (bt (ps.getD i ByteArray.empty) 1 - 48)).2.2
          · rw [lk_eq]
            rfl
          · have hrg := cnt_range hok
            have er : w64 (w64 (r + w64 (bt (ps.getD i ByteArray.empty) 1)) - 48) = r + (bt (ps.getD i ByteArray.empty) 1 - 48) := by
              rw [w64_id (n := bt (ps.getD i ByteArray.empty) 1) (by omega) (by omega), w64_id (n := r + bt (ps.getD i ByteArray.empty) 1) (by omega) (by omega), w64_id (by omega) (by omega)]
              omega
            rw [lk_eq, cf' (show (!true) = false from rfl), ct (inB_nat h), ct e1, er, w64_succ (by rw [maxLen_val]; omega), ih (i + 1) _ _ _ h (by omega) (by omega) (by omega) (by omega), show 6 - (i + 1) = k by omega]
            rfl
        · have hst : stepK (ps.getD i ByteArray.empty) = none := step_none (.inl hs)
          rw [ct (nt (by omega)), hst]
      · have : 6 - i = 0 := by omega
        rw [ct (dt (by omega)), cf (df (by omega)), this]
        rfl
    · rw [cf (df (by omega)), List.drop_of_length_le (by omega)]
      cases 6 - i <;> rfl
theorem ok : Spec := fun s hp => ⟨100, fun N hN => by
  have hs : s.size ≤ 1048576 := of_decide_eq_true hp
  have h1 : spec_l1Split.P s 32 = true := hp
  have h2 : spec_l1Split.g s 32 = prtB s := prt_int s
  have hl := prt_len s
  simp only [Z0, Z1, Z2, Z3]
  rw [ct h1, h2]
  simp only [Z4, Z5, Z6, Z7, Z8, Z9, Z10, Z11, Z12, Z13, Z14]
  refine (loop _ _ (ps := prtB s) (by omega) N 0 0 1 0 (Nat.zero_le _) (by omega) (by omega) (by omega) (by omega)).trans ?_
  rw [Nat.sub_zero, List.drop_zero, g]
  cases hq : ctS 6 (prtB s) 0 1 0 with
  | none => rfl
  | some q =>
    obtain ⟨v, c, r⟩ := q
    simp only [Z16, endS]
    by_cases hr : 5 < r
    · rw [ct (dt hr), if_pos hr]
      rfl
    · rw [cf (df hr), if_neg hr]
      rfl⟩
end spec_CountsOfType
end
end Go.Fw
namespace Go.Fw
noncomputable section
variable {ρ : Type}
namespace strings_Split
noncomputable def g (s sep : ByteArray) : List ByteArray := Lib.splitB sep 0 (Lib.countB s sep) s
def P (s sep : ByteArray) : Bool := Nat.blt s.size 4294967281 && Nat.ble 1 sep.size
end strings_Split
namespace strings_Split
theorem ok : True := trivial
end strings_Split
end
end Go.Fw
namespace Go.Fw
noncomputable section
variable {ρ : Type}
namespace impl_choose
def P (k _ : Int) : Bool := decide (k ≤ 1000)
def g (k n : Int) : Int := binC n k
end impl_choose
namespace impl_choose
def Z1 {ρ : Type} (N : Nat) (v0 v1 : Int) (kn : I2 (Option ρ)) : Option ρ :=
 kn v0 v1
def Z3 {ρ : Type} (N : Nat) (v0 v1 : Int) (kn : I3 (Option ρ)) : Option ρ :=
 kn v0 v1 1
def Z6 {ρ : Type} (N : Nat) (v0 v1 v5 : Int) (kn : I4 (Option ρ)) : Option ρ :=
 kn v0 v1 v5 0
def Z9 {ρ : Type} (N : Nat) (v0 v1 v5 v6 : Int) (kn : I4 (Option ρ)) (k0 : Int → Option ρ) : Option ρ :=
 cond (lk N (decide (v6 < v0)))
 (
  cond (lk N (!(decide ((w64 (v6 + 1)) = 0)))) (
   kn v0 v1 (w64 (Int.tdiv (w64 (v5 * (w64 (v1 - v6)))) (w64 (v6 + 1)))) (w64 (v6 + 1))) none)
 (
  k0 v5)
def Z8L {ρ : Type} (N : Nat) (k0 : Int → Option ρ) : Nat → Int → Int → Int → Int → Option ρ
  | 0, _, _, _, _ => none
  | M + 1, v0, v1, v5, v6 => Z9 N v0 v1 v5 v6 (fun v0 v1 v5 v6 => Z8L N k0 M v0 v1 v5 v6) k0
def Z8 N v0 v1 v5 v6 k0 := (Z8L N k0 N v0 v1 v5 v6 : Option ρ)
def Z7 N v0 v1 v5 v6 kn := (Z8 N v0 v1 v5 v6 kn : Option ρ)
def Z5 N v0 v1 v5 kn := (Z6 N v0 v1 v5 (fun v0 v1 v5 v6 => Z7 N v0 v1 v5 v6 kn) : Option ρ)
def Z10 {ρ : Type} (N : Nat) (v5 : Int) (kr : Int → Option ρ) : Option ρ :=
 kr v5
def Z4 N v0 v1 v5 kr := (Z5 N v0 v1 v5 (fun v5 => Z10 N v5 kr) : Option ρ)
def Z2 N v0 v1 kr := (Z3 N v0 v1 (fun v0 v1 v5 => Z4 N v0 v1 v5 kr) : Option ρ)
def Z0 N v0 v1 kr := (Z1 N v0 v1 (fun v0 v1 => Z2 N v0 v1 kr) : Option ρ)
def Spec : Prop := ∀  (v0 v1 : Int), P v0 v1 = true → ∃ N0, ∀ N, N0 ≤ N → Z0 N v0 v1 (fun v4 => some ((), (v4, ()))) = some ((), ((g v0 v1), ()))
theorem loop {ρ : Type} {N : Nat} (k0 : Int → Option ρ) (n : Int) {k : Int} (hk : k ≤ 1000) : ∀ (M i : Nat) (x : Int), (i : Int) ≤ max k 0 → k.toNat - i < M → Z8L N k0 M k n x (i : Int) = k0 (binK n (k.toNat - i) x i) := by
  intro M
  induction M with
  | zero => intro i x _ h; omega
  | succ M ih =>
    intro i x hi hM
    simp only [Z8L, Z9]
    by_cases h : (i : Int) < k
    · have e : w64 ((i : Int) + 1) = ((i + 1 : Nat) : Int) := w64_succ (by rw [maxLen_val]; omega)
      rw [ct (dt h), e, ct (nt (by omega)), ih (i + 1) _ (by omega) (by omega)]
      obtain ⟨m, hm⟩ : ∃ m, k.toNat - i = m + 1 := ⟨k.toNat - i - 1, by omega⟩
      rw [hm, binK, show k.toNat - (i + 1) = m by omega]
    · rw [cf (df h), show k.toNat - i = 0 by omega]
      rfl
theorem ok : Spec := fun k n hp => ⟨2000, fun N hN => by
  have hk : k ≤ 1000 := of_decide_eq_true hp
  simp only [Z1, Z3, Z6, Z9, Z8, Z7, Z5, Z10, Z4, Z2, Z0]
  exact loop (fun x5 => some ((), (x5, ()))) n hk N 0 1 (by omega) (by omega)⟩
end impl_choose
end
end Go.Fw
namespace Go.Fw
noncomputable section
variable {ρ : Type}
namespace impl_countsOf
def P (_ n : Int) : Bool := inK n 1 5
def g (letter n : Int) : Int × Int × Bool := cntK letter n
end impl_countsOf
namespace impl_countsOf
def Z1 {ρ : Type} (N : Nat) (v0 v1 : Int) (kn : I2 (Option ρ)) : Option ρ :=
 kn v0 v1
def Z5 {ρ : Type} (N : Nat) (v0 v1 : Int) (kn : I2 (Bool → Option ρ)) : Option ρ :=
 kn v0 v1 (lk N (decide (v0 = 65)))
def Z7 {ρ : Type} (N : Nat) (v0 v1 : Int) (v7 : Bool) (kr : I2 (Bool → Option ρ)) : Option ρ :=
 cond (lk N (true)) (
  cond (lk N (impl_choose.P (w64 (v1 + 1)) (w64 ((w64 (2 * v1)) + 2)))) (
   cond (lk N (!(decide ((w64 (v1 + 2)) = 0)))) (
    kr (w64 (Int.tdiv (w64 (v1 * (w64 (v1 + 3)))) 2)) (w64 (Int.tdiv (impl_choose.g (w64 (v1 + 1)) (w64 ((w64 (2 * v1)) + 2))) (w64 (v1 + 2)))) true) none) none) none
def Z9 {ρ : Type} (N : Nat) (v0 v1 : Int) (v7 : Bool) (kn : I2 (Bool → Option ρ)) : Option ρ :=
 cond (lk N (decide (v0 = 66)))
 (
  cond (lk N (decide (2 ≤ v1)))
  (
   kn v0 v1 (lk N (decide (2 ≤ v1))))
  (
   cond (lk N (decide (v0 = 67)))
   (
    kn v0 v1 (lk N (decide (3 ≤ v1))))
   (
    kn v0 v1 false)))
 (
  cond (lk N (decide (v0 = 67)))
  (
   kn v0 v1 (lk N (decide (3 ≤ v1))))
  (
   kn v0 v1 false))
def Z11 {ρ : Type} (N : Nat) (v0 v1 : Int) (v24 : Bool) (kr : I2 (Bool → Option ρ)) : Option ρ :=
 cond (lk N (impl_choose.P v1 (w64 (2 * v1)))) (
  kr (w64 (v1 * (w64 (v1 + 1)))) (impl_choose.g v1 (w64 (2 * v1))) true) none
def Z13 {ρ : Type} (N : Nat) (v0 v1 : Int) (v24 : Bool) (kn : I2 (Bool → Option ρ)) : Option ρ :=
 cond (lk N (decide (v0 = 68)))
 (
  kn v0 v1 (lk N (decide (4 ≤ v1))))
 (
  kn v0 v1 false)
def Z14 {ρ : Type} (N : Nat) (v0 v1 : Int) (v45 : Bool) (kn : Option ρ) (kr : I2 (Bool → Option ρ)) : Option ρ :=
 cond (v45)
 (
  cond (lk N (impl_choose.P (w64 (v1 - 1)) (w64 ((w64 (2 * v1)) - 2)))) (
   cond (lk N (!(decide (v1 = 0)))) (
    kr (w64 (v1 * v1)) (w64 (Int.tdiv (w64 ((w64 ((w64 (3 * v1)) - 2)) * (impl_choose.g (w64 (v1 - 1)) (w64 ((w64 (2 * v1)) - 2))))) v1)) true) none) none)
 (
  cond (lk N (decide (v0 = 70)))
  (
   cond (lk N (decide (v1 = 4)))
   (
    kr 28 105 true)
   (
    cond (lk N (decide (v0 = 71)))
    (
     cond (lk N (decide (v1 = 2)))
     (
      kr 8 8 true)
     (
      kn))
    (
     kn)))
  (
   cond (lk N (decide (v0 = 71)))
   (
    cond (lk N (decide (v1 = 2)))
    (
     kr 8 8 true)
    (
     kn))
   (
    kn)))
def Z12 N v0 v1 v24 kn kr := (Z13 N v0 v1 v24 (fun v0 v1 v45 => Z14 N v0 v1 v45 kn kr) : Option ρ)
def Z10 N v0 v1 v24 kn kr := (cond (v24) (Z11 N v0 v1 v24 kr) (Z12 N v0 v1 v24 kn kr) : Option ρ)
def Z8 N v0 v1 v7 kn kr := (Z9 N v0 v1 v7 (fun v0 v1 v24 => Z10 N v0 v1 v24 kn kr) : Option ρ)
def Z6 N v0 v1 v7 kn kr := (cond (v7) (Z7 N v0 v1 v7 kr) (Z8 N v0 v1 v7 kn kr) : Option ρ)
def Z4 N v0 v1 kn kr := (Z5 N v0 v1 (fun v0 v1 v7 => Z6 N v0 v1 v7 kn kr) : Option ρ)
def Z3 N v0 v1 kn kr := (Z4 N v0 v1 kn kr : Option ρ)
def Z15 {ρ : Type} (N : Nat)  (kr : I2 (Bool → Option ρ)) : Option ρ :=
 kr 0 0 false
def Z2 N v0 v1 kr := (Z3 N v0 v1 (Z15 N kr) kr : Option ρ)
def Z0 N v0 v1 kr := (Z1 N v0 v1 (fun v0 v1 => Z2 N v0 v1 kr) : Option ρ)
def Spec : Prop := ∀  (v0 v1 : Int), P v0 v1 = true → ∃ N0, ∀ N, N0 ≤ N → Z0 N v0 v1 (fun v4 v5 v6 => some ((), (v4, (v5, (v6, ()))))) = some ((), ((g v0 v1).1, ((g v0 v1).2.1, ((g v0 v1).2.2, ()))))
theorem ok : Spec := fun letter n hp => ⟨0, fun N hN => by
  have hn : inK n 1 5 = true := hp
  have hn' := inK_iff.1 hn
  have e2 : decide (2 ≤ n) = inK n 2 5 := by rw [inK, dt (show n ≤ 5 by omega), Bool.and_true]
  have e3 : decide (3 ≤ n) = inK n 3 5 := by rw [inK, dt (show n ≤ 5 by omega), Bool.and_true]
  have e4 : decide (4 ≤ n) = inK n 4 5 := by rw [inK, dt (show n ≤ 5 by omega), Bool.and_true]
  have eA : inK n 1 5 = true → lk N (impl_choose.P (w64 (n + 1)) (w64 (w64 (2 * n) + 2))) = true ∧ decide (w64 (n + 2) = 0) = false := fun h => by
    rw [inK_iff] at h
    rw [lk_eq, impl_choose.P, w64_id (by omega) (by omega), w64_id (by omega) (by omega)]
    exact ⟨dt (by omega), df (by omega)⟩
  have eB : inK n 2 5 = true ∨ inK n 3 5 = true → lk N (impl_choose.P n (w64 (2 * n))) = true := fun h => by
    rw [inK_iff, inK_iff] at h
    rw [lk_eq]
    exact dt (by omega)
  have eD : inK n 4 5 = true → lk N (impl_choose.P (w64 (n - 1)) (w64 (w64 (2 * n) - 2))) = true ∧ decide (n = 0) = false := fun h => by
    rw [inK_iff] at h
    rw [lk_eq, impl_choose.P, w64_id (n := n - 1) (by omega) (by omega)]
    exact ⟨dt (by omega), df (by omega)⟩
  simp only [Z1, Z5, Z7, Z9, Z11, Z13, Z14, Z12, Z10, Z8, Z6, Z4, Z3, Z15, Z2, Z0, g, cntK, impl_choose.g, e2, e3, e4, hn]
  by_cases h65 : letter = 65
  · subst h65
    obtain ⟨a, b⟩ := eA hn
    simp only [lk_eq] at a
    simp [lk_eq, a, b, cntA]
  by_cases h66 : letter = 66
  · subst h66
    cases h1 : inK n 2 5
    · simp [lk_eq]
    · have a := eB (.inl h1)
      simp only [lk_eq] at a
      simp [lk_eq, a, cntB]
  by_cases h67 : letter = 67
  · subst h67
    cases h1 : inK n 3 5
    · simp [lk_eq]
    · have a := eB (.inr h1)
      simp only [lk_eq] at a
      simp [lk_eq, a, cntB]
  by_cases h68 : letter = 68
  · subst h68
    cases h1 : inK n 4 5
    · simp [lk_eq]
    · obtain ⟨a, b⟩ := eD h1
      simp only [lk_eq] at a
      simp [lk_eq, a, b, cntD]
  by_cases h70 : letter = 70
  · subst h70
    by_cases h1 : n = 4 <;> simp [lk_eq, h1]
  by_cases h71 : letter = 71
  · subst h71
    by_cases h1 : n = 2 <;> simp [lk_eq, h1]
  simp [lk_eq, h65, h66, h67, h68, h70, h71]⟩
end impl_countsOf
end
end Go.Fw
namespace Go.Fw
noncomputable section
variable {ρ : Type}
namespace impl_CountsOfType
def P (s : ByteArray) : Bool := decide (s.size ≤ 1048576)
def g (s : ByteArray) : Int × Int × Bool := ansK (ctI (prtB s) 0 1 0)
end impl_CountsOfType
namespace impl_CountsOfType
def Z1 {ρ : Type} (N : Nat) (v0 : ByteArray) (kn : ByteArray → Option ρ) : Option ρ :=
 kn v0
def Z3 {ρ : Type} (N : Nat) (v0 : ByteArray) (kn : ByteArray → I3 (Option ρ)) : Option ρ :=
 kn v0 0 1 0
def Z6 {ρ : Type} (N : Nat) (v0 : ByteArray) (v5 v6 v7 : Int) (kn : List ByteArray → I5 (Option ρ)) : Option ρ :=
 cond (lk N (strings_Split.P v0 (⟨#[32]⟩ : ByteArray))) (
  kn (strings_Split.g v0 (⟨#[32]⟩ : ByteArray)) v5 v6 v7 ((strings_Split.g v0 (⟨#[32]⟩ : ByteArray)).length : Int) 0) none
def Z9 {ρ : Type} (N : Nat) (v15 : List ByteArray) (v5 v6 v7 v16 v17 : Int) (kn : List ByteArray → I5 (Option ρ)) (k0 : I2 (Option ρ)) (kr : I2 (Bool → Option ρ)) : Option ρ :=
 cond (lk N (decide (v17 < v16)))
 (
  cond (lk N (inB v17 v15.length)) (
   cond (lk N (!(decide (((v15.getD v17.toNat ByteArray.empty).size : Int) = 2))))
   (
    kr 0 0 false)
   (
    cond (lk N (decide (0 ≤ 1) && decide (1 < ((v15.getD v17.toNat ByteArray.empty).size : Int)))) (
     cond (lk N (decide ((bt (v15.getD v17.toNat ByteArray.empty) 1) < 49)))
     (
      kr 0 0 false)
     (
      cond (lk N (decide (0 ≤ 1) && decide (1 < ((v15.getD v17.toNat ByteArray.empty).size : Int)))) (
       cond (lk N (decide (53 < (bt (v15.getD v17.toNat ByteArray.empty) 1))))
       (
        kr 0 0 false)
       (
        cond (lk N (decide (0 ≤ 1) && decide (1 < ((v15.getD v17.toNat ByteArray.empty).size : Int)))) (
         cond (lk N (decide (0 ≤ 0) && decide (0 < ((v15.getD v17.toNat ByteArray.empty).size : Int)))) (
          cond (lk N (impl_countsOf.P (bt (v15.getD v17.toNat ByteArray.empty) 0) (w64 ((w8 ((bt (v15.getD v17.toNat ByteArray.empty) 1) - 48)))))) (
           cond (!(lk N ((impl_countsOf.g (bt (v15.getD v17.toNat ByteArray.empty) 0) (w64 ((w8 ((bt (v15.getD v17.toNat ByteArray.empty) 1) - 48))))).2.2)))
           (
            kr 0 0 false)
           (
            cond (lk N (decide (5 < (w64 (v7 + (w64 ((w8 ((bt (v15.getD v17.toNat ByteArray.empty) 1) - 48)))))))))
            (
             kr 0 0 false)
            (
             kn v15 (w64 (v5 + (impl_countsOf.g (bt (v15.getD v17.toNat ByteArray.empty) 0) (w64 ((w8 ((bt (v15.getD v17.toNat ByteArray.empty) 1) - 48))))).1)) (w64 (v6 * (impl_countsOf.g (bt (v15.getD v17.toNat ByteArray.empty) 0) (w64 ((w8 ((bt (v15.getD v17.toNat ByteArray.empty) 1) - 48))))).2.1)) (w64 (v7 + (w64 ((w8 ((bt (v15.getD v17.toNat ByteArray.empty) 1) - 48)))))) v16 (w64 (v17 + 1))))) none) none) none)) none)) none)) none)
 (
  k0 v5 v6)
def Z8L {ρ : Type} (N : Nat) (k0 : I2 (Option ρ)) (kr : I2 (Bool → Option ρ)) : Nat → List ByteArray → Int → Int → Int → Int → Int → Option ρ
  | 0, _, _, _, _, _, _ => none
  | M + 1, v15, v5, v6, v7, v16, v17 => Z9 N v15 v5 v6 v7 v16 v17 (fun v15 v5 v6 v7 v16 v17 => Z8L N k0 kr M v15 v5 v6 v7 v16 v17) k0 kr
def Z8 N v15 v5 v6 v7 v16 v17 k0 kr := (Z8L N k0 kr N v15 v5 v6 v7 v16 v17 : Option ρ)
def Z7 N v15 v5 v6 v7 v16 v17 kn kr := (Z8 N v15 v5 v6 v7 v16 v17 kn kr : Option ρ)
def Z5 N v0 v5 v6 v7 kn kr := (Z6 N v0 v5 v6 v7 (fun v15 v5 v6 v7 v16 v17 => Z7 N v15 v5 v6 v7 v16 v17 kn kr) : Option ρ)
def Z10 {ρ : Type} (N : Nat) (v5 v6 : Int) (kr : I2 (Bool → Option ρ)) : Option ρ :=
 kr v5 v6 true
def Z4 N v0 v5 v6 v7 kr := (Z5 N v0 v5 v6 v7 (fun v5 v6 => Z10 N v5 v6 kr) kr : Option ρ)
def Z2 N v0 kr := (Z3 N v0 (fun v0 v5 v6 v7 => Z4 N v0 v5 v6 v7 kr) : Option ρ)
def Z0 N v0 kr := (Z1 N v0 (fun v0 => Z2 N v0 kr) : Option ρ)
def Spec : Prop := ∀  (v0 : ByteArray), P v0 = true → ∃ N0, ∀ N, N0 ≤ N → Z0 N v0 (fun v2 v3 v4 => some ((), (v2, (v3, (v4, ()))))) = some ((), ((g v0).1, ((g v0).2.1, ((g v0).2.2, ()))))
theorem loop {ρ : Type} {N : Nat} (k0 : Int → Int → Option ρ) (kr : Int → Int → Bool → Option ρ) {ps : List ByteArray} (hps : ps.length ≤ 2000000) : ∀ (M i : Nat) (v c r : Int), i ≤ ps.length → 0 ≤ r → r ≤ 5 → ps.length - i < M →
    Z8L N k0 kr M ps v c r (ps.length : Int) (i : Int) = match ctI (ps.drop i) v c r with | some q => k0 q.1 q.2 | none => kr 0 0 false := by
  intro M
  induction M with
  | zero => intro i v c r _ _ _ h; omega
  | succ M ih =>
    intro i v c r hi h0 hr hM
    simp only [Z8L, Z9]
    by_cases h : i < ps.length
    · have hb0 := bt_range (ps.getD i ByteArray.empty) 0
      have hb1 := bt_range (ps.getD i ByteArray.empty) 1
      rw [ct (dt (by omega)), ct (inB_nat h), Int.toNat_natCast, drop_getD (l := ps) ByteArray.empty h, ctI]
      by_cases hs : (ps.getD i ByteArray.empty).size = 2
      · have e1 : (decide ((0 : Nat) ≤ 1) && decide ((1 : Int) < ((ps.getD i ByteArray.empty).size : Int))) = true := by rw [hs]; rfl
        have e0 : (decide ((0 : Nat) ≤ 0) && decide ((0 : Int) < ((ps.getD i ByteArray.empty).size : Int))) = true := by rw [hs]; rfl
        rw [cf (nf (by omega)), ct e1]
        by_cases hlo : bt (ps.getD i ByteArray.empty) 1 < 49
        · rw [ct (dt hlo), step_none (.inr (.inl hlo))]
        rw [cf (df hlo), ct e1]
        by_cases hhi : 53 < bt (ps.getD i ByteArray.empty) 1
        · rw [ct (dt hhi), step_none (.inr (.inr hhi))]
        have en : w64 (w8 (bt (ps.getD i ByteArray.empty) 1 - 48)) = bt (ps.getD i ByteArray.empty) 1 - 48 := by
          rw [w8_id (by omega) (by omega), w64_id (by omega) (by omega)]
        have hP : impl_countsOf.P (bt (ps.getD i ByteArray.empty) 0) (bt (ps.getD i ByteArray.empty) 1 - 48) = true := inK_iff.2 ⟨by omega, by omega⟩
        have hg : impl_countsOf.g (bt (ps.getD i ByteArray.empty) 0) (bt (ps.getD i ByteArray.empty) 1 - 48) = cntK (bt (ps.getD i ByteArray.empty) 0) (bt (ps.getD i ByteArray.empty) 1 - 48) := rfl
        rw [cf (df hhi), ct e1, ct e0, en, ct hP, hg, w64_id (n := r + (bt (ps.getD i ByteArray.empty) 1 - 48)) (by omega) (by omega)]
        unfold stepK
        rw [dt hs, Bool.true_and]
        cases hok : (cntK (bt (ps.getD i ByteArray.empty) 0) (bt (ps.getD i ByteArray.empty) 1 - 48)).2.2
        · rw [lk_eq]
          rfl
        · rw [lk_eq, cf' (show (!true) = false from rfl), cond_true]
          simp only
          by_cases hbig : 5 < r + (bt (ps.getD i ByteArray.empty) 1 - 48)
          · rw [ct (dt hbig), if_pos hbig]
          · rw [cf (df hbig), if_neg hbig, w64_succ (by rw [maxLen_val]; omega), ih (i + 1) _ _ _ h (by omega) (by omega) (by omega)]
      · rw [ct (nt (by omega)), step_none (.inl hs)]
    · rw [cf (df (by omega)), List.drop_of_length_le (by omega)]
      rfl
theorem ok : Spec := fun s hp => ⟨s.size + 100, fun N hN => by
  have hs : s.size ≤ 1048576 := of_decide_eq_true hp
  have h1 : strings_Split.P s ⟨#[32]⟩ = true := by
    simp only [strings_Split.P, Bool.and_eq_true]
    exact ⟨Nat.ble_eq_true_of_le (by omega), rfl⟩
  have h2 : strings_Split.g s ⟨#[32]⟩ = prtB s := split_one s 32
  have hl := prt_len s
  simp only [Z0, Z1, Z2, Z3, Z4, Z5, Z6]
  rw [ct h1, h2]
  simp only [Z7, Z8, Z10]
  refine (loop _ _ (ps := prtB s) (by omega) N 0 0 1 0 (Nat.zero_le _) (by omega) (by omega) (by omega)).trans ?_
  rw [List.drop_zero, g]
  cases hq : ctI (prtB s) 0 1 0 with
  | none => rfl
  | some q => rfl⟩
end impl_CountsOfType
end
end Go.Fw
namespace Go.Fw
noncomputable section
variable {ρ : Type}
namespace laws_FnExactCountsOfType
def g (_ : ByteArray) : Bool := true
end laws_FnExactCountsOfType
namespace laws_FnExactCountsOfType
def Z0 {ρ : Type} (N : Nat) (v0 : ByteArray) (kr : Bool → Option ρ) : Option ρ :=
 cond (lk N (decide (1048576 < (v0.size : Int))))
 (
  kr true)
 (
  cond (lk N (spec_CountsOfType.P v0)) (
   cond (lk N (impl_CountsOfType.P v0)) (
    cond (lk N (!(decide ((impl_CountsOfType.g v0).1 = (spec_CountsOfType.g v0).1))))
    (
     kr false)
    (
     cond (lk N (!(decide ((impl_CountsOfType.g v0).2.1 = (spec_CountsOfType.g v0).2.1))))
     (
      kr false)
     (
      cond (lk N (!(((lk N ((impl_CountsOfType.g v0).2.2)) == (lk N ((spec_CountsOfType.g v0).2.2))))))
      (
       kr false)
      (
       kr true)))) none) none)
def Spec : Prop := ∀  (v0 : ByteArray), ∃ N0, ∀ N, N0 ≤ N → Z0 N v0 (fun v2 => some ((), (v2, ()))) = some ((), ((g v0), ()))
theorem ok : Spec := fun s => ⟨0, fun N hN => by
  by_cases h0 : (1048576 : Int) < s.size
  · simp only [Z0]
    rw [ct (dt h0)]
    rfl
  have hP : spec_CountsOfType.P s = true := dt (by omega)
  have hQ : impl_CountsOfType.P s = true := dt (by omega)
  have he : impl_CountsOfType.g s = spec_CountsOfType.g s := by
    unfold impl_CountsOfType.g spec_CountsOfType.g
    rw [ct_same 6 _ _ _ _ (by omega) (by omega)]
  simp only [Z0, lk_eq, df h0, hP, hQ, he, g, decide_true, Bool.not_true, cond_true, cond_false]
  cases (spec_CountsOfType.g s).2.2 <;> rfl⟩
end laws_FnExactCountsOfType
end
end Go.Fw
