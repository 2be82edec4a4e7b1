/- The plain part: what the functions compute, in lists and numbers. Nothing is assumed. -/
import Derived.Test.YtkjnhmjfdfiklaaDoorFwc
import Derived.Lib.SplitLaws
import Derived.Lib.ItoaLen
import Derived.Lib.AtoiAll
import Derived.Lib.Join
set_option linter.unusedVariables false
namespace Go.Fw
def lexLt : List Int → List Int → Bool
  | [], [] => false
  | [], _ :: _ => true
  | _ :: _, [] => false
  | x :: xs, y :: ys => if x = y then lexLt xs ys else decide (x < y)
def lexCmp : List Int → List Int → Int
  | [], [] => 0
  | [], _ :: _ => -1
  | _ :: _, [] => 1
  | x :: xs, y :: ys => if x = y then lexCmp xs ys else if x < y then -1 else 1
theorem lexCmp_le : ∀ a b : List Int, decide (lexCmp a b ≤ 0) = !(lexLt b a)
  | [], [] => rfl
  | [], _ :: _ => rfl
  | _ :: _, [] => rfl
  | x :: xs, y :: ys => by
    rw [lexCmp, lexLt]
    by_cases h : x = y
    · rw [if_pos h, if_pos h.symm, lexCmp_le xs ys]
    · rw [if_neg h, if_neg (show ¬ y = x from fun e => h e.symm)]
      by_cases h2 : x < y
      · rw [if_pos h2, df (show ¬ y < x by omega)]; rfl
      · rw [if_neg h2, dt (show y < x by omega)]; rfl
theorem lexCmp_lt : ∀ a b : List Int, decide (lexCmp a b < 0) = lexLt a b
  | [], [] => rfl
  | [], _ :: _ => rfl
  | _ :: _, [] => rfl
  | x :: xs, y :: ys => by
    rw [lexCmp, lexLt]
    by_cases h : x = y
    · rw [if_pos h, if_pos h, lexCmp_lt xs ys]
    · rw [if_neg h, if_neg h]
      by_cases h2 : x < y
      · rw [if_pos h2, dt h2]; rfl
      · rw [if_neg h2, df h2]; rfl
def inK (n lo hi : Int) : Bool := decide (lo ≤ n) && decide (n ≤ hi)
def expK (vars : Int) (e : List Int) : Bool := decide ((e.length : Int) = vars) && e.all fun x => inK x (-20) 20
def coefK (c : Int) : Bool := !(decide (c = 0)) && inK c (-1000000) 1000000
def prevE (l : List (List Int × Int)) : Nat → Option (List Int)
  | 0 => none
  | j + 1 => some (l.getD j ([], 0)).1
def belowK : Option (List Int) → List Int → Bool
  | none, _ => true
  | some p, e => lexLt e p
def termsK (vars : Int) : List (List Int × Int) → Option (List Int) → Bool
  | [], _ => true
  | t :: ts, p => expK vars t.1 && (coefK t.2 && (belowK p t.1 && termsK vars ts (some t.1)))
def lokK (f : Int × List (List Int × Int)) : Bool := inK f.1 1 8 && (decide (f.2.length ≤ 600) && termsK f.1 f.2 none)
end Go.Fw
namespace Go.Fw
def upto {α : Type} (n j : Nat) (F G : Nat → α) : List α := (List.range n).map fun i => if i < j then F i else G i
section
variable {α : Type} {n j : Nat} {F G : Nat → α}
theorem upto_len : (upto n j F G).length = n := by simp [upto]
theorem map_getD {i : Nat} (h : i < n) (d : α) : ((List.range n).map F).getD i d = F i := by
  rw [List.getD_eq_getElem?_getD, List.getElem?_map, List.getElem?_range h]
  rfl
theorem upto_get {i : Nat} (h : i < n) (d : α) : (upto n j F G).getD i d = if i < j then F i else G i := map_getD h d
theorem upto_set (h : j < n) : (upto n j F G).set j (F j) = upto n (j + 1) F G := by
  apply List.ext_getElem?
  intro i
  by_cases hi : i < n
  · by_cases e : j = i
    · subst e
      rw [List.getElem?_set_self (by rw [upto_len]; exact h)]
      simp [upto, List.getElem?_map, List.getElem?_range h]
    · rw [List.getElem?_set_ne e]
      simp only [upto, List.getElem?_map, List.getElem?_range hi, Option.map_some]
      by_cases h1 : i < j
      · rw [if_pos h1, if_pos (by omega)]
      · rw [if_neg h1, if_neg (by omega)]
  · rw [List.getElem?_eq_none (by rw [List.length_set, upto_len]; omega), List.getElem?_eq_none (by rw [upto_len]; omega)]
theorem upto_zero : upto n 0 F G = (List.range n).map G := by simp [upto]
theorem upto_full : upto n n F G = (List.range n).map F := by
  unfold upto
  apply List.map_congr_left
  intro i hi
  rw [if_pos (List.mem_range.1 hi)]
theorem list_map {l : List α} (d : α) (h : l.length = n) : (List.range n).map (fun i => l.getD i d) = l := by
  apply List.ext_getElem?
  intro i
  by_cases hi : i < n
  · rw [List.getElem?_map, List.getElem?_range hi, Option.map_some, List.getD_eq_getElem?_getD, List.getElem?_eq_getElem (by omega), Option.getD_some]
  · rw [List.getElem?_eq_none (by simp; omega), List.getElem?_eq_none (by omega)]
end
end Go.Fw
namespace Go.Fw
def partsK (p : UInt8 → Bool) : List UInt8 → List (List UInt8)
  | [] => [[]]
  | b :: l => if p b = true then [] :: partsK p l else match partsK p l with
    | h :: t => (b :: h) :: t
    | [] => [[b]]
theorem parts_ne (p : UInt8 → Bool) : ∀ l, partsK p l ≠ []
  | [] => by simp [partsK]
  | b :: l => by
    rw [partsK]
    split
    · simp
    · split <;> simp
def glue (a : List UInt8) : List (List UInt8) → List (List UInt8)
  | h :: t => (a ++ h) :: t
  | [] => [a]
theorem glue_nil {q : List (List UInt8)} (h : q ≠ []) : glue [] q = q := by
  cases q with
  | nil => exact absurd rfl h
  | cons x xs => rfl
theorem glue_sep {p : UInt8 → Bool} {b : UInt8} (h : p b = true) (a l : List UInt8) : glue a (partsK p (b :: l)) = a :: partsK p l := by
  rw [partsK, if_pos h]
  simp [glue]
theorem glue_go {p : UInt8 → Bool} {b : UInt8} (h : p b = false) (a l : List UInt8) : glue a (partsK p (b :: l)) = glue (a ++ [b]) (partsK p l) := by
  rw [partsK, if_neg (by simp [h])]
  have := parts_ne p l
  cases hq : partsK p l with
  | nil => exact absurd hq this
  | cons x xs => simp [glue]
theorem splitK_parts (c : UInt8) : ∀ l : List UInt8, Lib.splitK [c] 0 (l.count c) l = partsK (fun b => b == c) l
  | [] => rfl
  | b :: l => by
    have ih := splitK_parts c l
    rw [partsK]
    by_cases h : b = c
    · subst h
      have hi : Lib.index (b :: l) [b] = 0 := by unfold Lib.index; simp
      rw [List.count_cons_self, Lib.splitK, if_neg (by rw [hi]; decide), if_pos (by simp), hi, ← ih]
      rfl
    · have hp : ([c] : List UInt8).isPrefixOf (b :: l) = false := by simp [List.isPrefixOf]; exact fun e => h e.symm
      have hi : Lib.index (b :: l) [c] = if Lib.index l [c] == -1 then -1 else Lib.index l [c] + 1 := by
        conv => lhs; unfold Lib.index
        rw [hp]
        simp
      rw [List.count_cons_of_ne h, if_neg (by simpa using h), ← ih]
      cases hk : l.count c with
      | zero => rfl
      | succ k =>
        rw [Lib.splitK, Lib.splitK, hi]
        by_cases hm : (Lib.index l [c] == -1) = true
        · rw [if_pos hm, if_pos (by decide), if_pos hm]
        · have hge := Lib.index_ge l [c]
          have hne : Lib.index l [c] ≠ -1 := fun e => hm (beq_iff_eq.2 e)
          obtain ⟨i, hx⟩ := Int.eq_ofNat_of_zero_le (show 0 ≤ Lib.index l [c] by omega)
          rw [if_neg hm, hx, if_neg (by simp; omega), if_neg (by simp)]
          have e : ((i : Int) + 1).toNat = i + 1 := by omega
          simp only [e, Int.toNat_natCast, Nat.add_zero, List.length_singleton, List.take_succ_cons, List.drop_succ_cons]
def baOf (l : List UInt8) : ByteArray := ⟨l.toArray⟩
theorem baOf_data (s : ByteArray) : baOf s.data.toList = s := by simp [baOf]
theorem split_one (s : ByteArray) (c : UInt8) : Lib.splitB ⟨#[c]⟩ 0 (Lib.countB s ⟨#[c]⟩) s = (partsK (fun b => b == c) s.data.toList).map baOf := by
  have h1 : Lib.countB s ⟨#[c]⟩ = s.data.toList.count c := Lib.count_one c _
  have h2 := Lib.splitB_data ⟨#[c]⟩ 0 (s.data.toList.count c) s
  rw [splitK_parts] at h2
  rw [h1, ← h2, List.map_map]
  conv => lhs; rw [← List.map_id (Lib.splitB _ _ _ _)]
  exact List.map_congr_left fun x _ => (baOf_data x).symm
theorem parts_len (p : UInt8 → Bool) : ∀ l, (partsK p l).length ≤ l.length + 1
  | [] => by simp [partsK]
  | b :: l => by
    have := parts_len p l
    rw [partsK]
    split
    · simp; omega
    · split
      · rename_i hq
        rw [hq] at this
        simp at this ⊢
        omega
      · simp
end Go.Fw
namespace Go.Fw
noncomputable def itoaB (n : Int) : ByteArray := ⟨(Lib.itoa n).toArray⟩
noncomputable def lsd (u : Nat) : List Int := (Lib.decDigits u).reverse.map fun b => (b.toNat : Int)
theorem u8_dig {t : Nat} (h : t < 10) : ((UInt8.ofNat (48 + t)).toNat : Int) = 48 + (t : Int) := by
  rw [UInt8.toNat_ofNat']
  omega
theorem lsd_small {u : Nat} (h : u < 10) : lsd u = [48 + (u : Int)] := by
  rw [lsd, Lib.decDigits, dif_pos h]
  simp only [List.reverse_cons, List.reverse_nil, List.nil_append, List.map_cons, List.map_nil]
  rw [u8_dig h]
theorem lsd_big {u : Nat} (h : ¬ u < 10) : lsd u = (48 + ((u % 10 : Nat) : Int)) :: lsd (u / 10) := by
  rw [lsd, Lib.decDigits, dif_neg h, List.reverse_append]
  simp only [List.reverse_cons, List.reverse_nil, List.nil_append, List.singleton_append, List.map_cons]
  rw [u8_dig (Nat.mod_lt _ (by omega))]
  rfl
theorem nums_of_bytes (l : List UInt8) : strOfNums (l.map fun b => (b.toNat : Int)) = ⟨l.toArray⟩ := by
  unfold strOfNums
  rw [List.map_map]
  congr 2
  conv => rhs; rw [← List.map_id l]
  apply List.map_congr_left
  intro b _
  simp
theorem nums_lsd (u : Nat) : strOfNums (lsd u).reverse = ⟨(Lib.decDigits u).toArray⟩ := by
  rw [lsd, ← List.map_reverse, List.reverse_reverse, nums_of_bytes]
theorem nums_neg (u : Nat) : strOfNums (45 :: (lsd u).reverse) = ⟨(45 :: Lib.decDigits u).toArray⟩ := by
  rw [lsd, ← List.map_reverse, List.reverse_reverse]
  exact nums_of_bytes (45 :: Lib.decDigits u)
theorem tmod_nat (k : Int) : Int.tmod k 10 = if k < 0 then -((k.natAbs % 10 : Nat) : Int) else ((k.natAbs % 10 : Nat) : Int) := by
  split
  · rename_i h
    obtain ⟨u, rfl⟩ : ∃ u : Nat, k = -(u : Int) := ⟨k.natAbs, by omega⟩
    rw [Int.neg_tmod, Int.natAbs_neg, Int.natAbs_natCast]
    rfl
  · rename_i h
    obtain ⟨u, rfl⟩ : ∃ u : Nat, k = (u : Int) := ⟨k.toNat, by omega⟩
    rw [Int.natAbs_natCast]
    rfl
theorem tdiv_nat (k : Int) : Int.tdiv k 10 = if k < 0 then -((k.natAbs / 10 : Nat) : Int) else ((k.natAbs / 10 : Nat) : Int) := by
  split
  · rename_i h
    obtain ⟨u, rfl⟩ : ∃ u : Nat, k = -(u : Int) := ⟨k.natAbs, by omega⟩
    rw [Int.neg_tdiv, Int.natAbs_neg, Int.natAbs_natCast]
    rfl
  · rename_i h
    obtain ⟨u, rfl⟩ : ∃ u : Nat, k = (u : Int) := ⟨k.toNat, by omega⟩
    rw [Int.natAbs_natCast]
    rfl
theorem w8_id {n : Int} (h0 : 0 ≤ n) (h1 : n < 256) : w8 n = n := by
  unfold w8
  rw [IntKind.wrap_u8]
  omega
theorem dig_pos {k : Int} (h : ¬ Int.tmod k 10 < 0) : w8 (w64 (48 + Int.tmod k 10)) = 48 + ((k.natAbs % 10 : Nat) : Int) := by
  have hm : k.natAbs % 10 < 10 := Nat.mod_lt _ (by omega)
  have e : Int.tmod k 10 = ((k.natAbs % 10 : Nat) : Int) := by
    rw [tmod_nat] at h ⊢
    split
    · rename_i hk
      rw [if_pos hk] at h
      omega
    · rfl
  rw [e, w64_id (by omega) (by omega), w8_id (by omega) (by omega)]
theorem dig_neg {k : Int} (h : Int.tmod k 10 < 0) : w8 (w64 (48 + w64 (0 - Int.tmod k 10))) = 48 + ((k.natAbs % 10 : Nat) : Int) := by
  have hm : k.natAbs % 10 < 10 := Nat.mod_lt _ (by omega)
  have e : Int.tmod k 10 = -((k.natAbs % 10 : Nat) : Int) := by
    rw [tmod_nat] at h ⊢
    split
    · rfl
    · rename_i hk
      rw [if_neg hk] at h
      omega
  have e1 : w64 (0 - -((k.natAbs % 10 : Nat) : Int)) = ((k.natAbs % 10 : Nat) : Int) := by rw [w64_id (by omega) (by omega)]; omega
  rw [e, e1, w64_id (by omega) (by omega), w8_id (by omega) (by omega)]
theorem natAbs_tdiv (k : Int) : (Int.tdiv k 10).natAbs = k.natAbs / 10 := by
  rw [tdiv_nat]
  split <;> omega
end Go.Fw
namespace Go.Fw
def atoiW (s : ByteArray) : Int × Bool := match Lib.atoiAll s.data.toList with
  | .ok n => (n, false)
  | .range => (Lib.atoiSat s.data.toList, true)
  | _ => (0, true)
end Go.Fw
namespace Go.Fw
theorem ba_app (a b : List UInt8) : (⟨a.toArray⟩ : ByteArray) ++ ⟨b.toArray⟩ = ⟨(a ++ b).toArray⟩ := by
  apply ByteArray.ext
  simp
theorem itoaB_data (n : Int) : (itoaB n).data.toList = Lib.itoa n := by simp [itoaB]
theorem itoaB_size {n : Int} (h : i64P n = true) : (itoaB n).size ≤ 21 := by
  simp only [i64P, Bool.and_eq_true, decide_eq_true_eq] at h
  have := Lib.itoa_length_le n h.1 h.2
  show (Lib.itoa n).toArray.size ≤ 21
  simpa using this
noncomputable def itoasL (l : List Int) : List UInt8 := Lib.join (l.map Lib.itoa) [32]
noncomputable def itoasB (l : List Int) : ByteArray := ⟨(itoasL l).toArray⟩
theorem itoas_snoc {l : List Int} (h : l ≠ []) (n : Int) : itoasL (l ++ [n]) = itoasL l ++ [32] ++ Lib.itoa n := by
  unfold itoasL Lib.join
  cases l with
  | nil => exact absurd rfl h
  | cons x xs =>
    rw [List.map_append, List.map_cons, List.map_cons, List.map_nil]
    induction xs generalizing x with
    | nil => simp [List.intercalate, List.intersperse]
    | cons y ys ih =>
      have := ih y (by simp)
      simp only [List.map_cons, List.cons_append, List.intercalate, List.intersperse, List.flatten_cons, List.append_assoc] at this ⊢
      rw [this]
theorem itoas_one (n : Int) : itoasL [n] = Lib.itoa n := by simp [itoasL, Lib.join, List.intercalate]
theorem itoas_nil : itoasL [] = [] := rfl
theorem itoas_len {l : List Int} (h : l.all i64P = true) : (itoasL l).length ≤ 22 * l.length := by
  have key : ∀ j, j ≤ l.length → (itoasL (l.take j)).length ≤ 22 * j := by
    intro j
    induction j with
    | zero => intro _; simp [itoas_nil]
    | succ j ih =>
      intro hj
      have h2 : i64P (l.getD j 0) = true := List.all_eq_true.1 h _ (getD_mem 0 hj)
      have hn : (Lib.itoa (l.getD j 0)).length ≤ 21 := by
        simp only [i64P, Bool.and_eq_true, decide_eq_true_eq] at h2
        exact Lib.itoa_length_le _ h2.1 h2.2
      have := ih (by omega)
      rw [← take_getD 0 hj]
      by_cases he : l.take j = []
      · rw [he, List.nil_append, itoas_one]
        omega
      · rw [itoas_snoc he]
        simp only [List.length_append, List.length_cons, List.length_nil]
        omega
  have := key l.length (Nat.le_refl _)
  rwa [List.take_length] at this
def rowP (l : List Int) : Bool := decide (l.length ≤ 2097152) && l.all i64P
end Go.Fw
namespace Go.Fw
theorem join_snoc {xs : List (List UInt8)} (h : xs ≠ []) (x sep : List UInt8) : Lib.join (xs ++ [x]) sep = Lib.join xs sep ++ sep ++ x := by
  cases xs with
  | nil => exact absurd rfl h
  | cons y ys =>
    rw [List.cons_append, Lib.join_cons, Lib.join_cons]
    simp [Lib.joinTail, List.append_assoc]
theorem join_len {B : Nat} {sep : List UInt8} : ∀ {xs : List (List UInt8)}, (∀ x ∈ xs, x.length ≤ B) → (Lib.join xs sep).length ≤ (B + sep.length) * xs.length
  | [], _ => by simp [Lib.join_nil]
  | y :: ys, h => by
    have hy := h y (List.mem_cons_self ..)
    have ht : ∀ (zs : List (List UInt8)), (∀ z ∈ zs, z.length ≤ B) → (Lib.joinTail sep zs).length ≤ (B + sep.length) * zs.length := by
      intro zs
      induction zs with
      | nil => intro _; simp [Lib.joinTail]
      | cons z zs ih =>
        intro hz
        have h1 := hz z (List.mem_cons_self ..)
        have h2 := ih fun x hx => hz x (List.mem_cons_of_mem _ hx)
        have e : (Lib.joinTail sep (z :: zs)).length = sep.length + z.length + (Lib.joinTail sep zs).length := by simp [Lib.joinTail, List.length_append]; omega
        rw [e, List.length_cons, Nat.mul_succ]
        omega
    have := ht ys fun x hx => h x (List.mem_cons_of_mem _ hx)
    rw [Lib.join_cons, List.length_append, List.length_cons, Nat.mul_succ]
    omega
noncomputable def txt (l : List UInt8) : ByteArray := ⟨l.toArray⟩
theorem txt_size (l : List UInt8) : (txt l).size = l.length := by simp [txt, ByteArray.size]
theorem txt_data (l : List UInt8) : (txt l).data.toList = l := by simp [txt]
theorem txt_app (a b : List UInt8) : txt a ++ txt b = txt (a ++ b) := ba_app a b
theorem itoasB_txt (l : List Int) : itoasB l = txt (itoasL l) := rfl
theorem itoaB_txt (n : Int) : itoaB n = txt (Lib.itoa n) := rfl
theorem map_txt (xs : List (List UInt8)) : (xs.map txt).map (·.data.toList) = xs := by
  rw [List.map_map]
  conv => rhs; rw [← List.map_id xs]
  exact List.map_congr_left fun x _ => txt_data x
end Go.Fw
namespace Go.Fw
def atP (m : Int × Int × List Int) (i j : Int) : Bool := decide (0 ≤ i) && (decide (0 ≤ j) && (decide (0 ≤ m.1) && decide (i * m.1 + j < (m.2.2.length : Int))))
def atK (m : Int × Int × List Int) (i j : Int) : Int := m.2.2.getD (i * m.1 + j).toNat 0
theorem at_index {m : Int × Int × List Int} {i j : Int} (hl : m.2.2.length ≤ maxLen) (h : atP m i j = true) : w64 (w64 (i * m.1) + j) = i * m.1 + j ∧ 0 ≤ i * m.1 + j ∧ i * m.1 + j < (m.2.2.length : Int) := by
  simp only [atP, Bool.and_eq_true, decide_eq_true_eq] at h
  obtain ⟨h1, h2, h3, h4⟩ := h
  have h5 : 0 ≤ i * m.1 := Int.mul_nonneg h1 h3
  rw [maxLen_val] at hl
  have e : w64 (i * m.1) = i * m.1 := w64_id (by omega) (by omega)
  rw [e, w64_id (by omega) (by omega)]
  exact ⟨rfl, by omega, h4⟩
def ent (m : Int × Int × List Int) (i j : Nat) : Int := m.2.2.getD (i * m.1.toNat + j) 0
theorem atK_nat {m : Int × Int × List Int} (h : 0 ≤ m.1) (i j : Nat) : atK m (i : Int) (j : Int) = ent m i j := by
  unfold atK ent
  congr 1
  obtain ⟨n, hn⟩ := Int.eq_ofNat_of_zero_le h
  rw [hn]
  norm_cast
def dimK (m : Int × Int × List Int) : Bool := inK m.1 1 5 && (inK m.2.1 m.1 8 && decide ((m.2.2.length : Int) = m.1 * m.2.1))
def entK (l : List Int) : Bool := l.all fun x => inK x (-99) 99
def shapedK (m : Int × Int × List Int) : Bool := dimK m && entK m.2.2
def signK (a b : Int) : Bool := (decide (0 < a) == decide (b < 0)) && (decide (a = 0) == decide (b = 0))
def sizesK (m : Int × Int × List Int) : Bool := shapedK m && (List.range m.1.toNat).all fun i => (List.range m.1.toNat).all fun j => signK (ent m i j) (ent m j i)
theorem inK_iff {n lo hi : Int} : inK n lo hi = true ↔ lo ≤ n ∧ n ≤ hi := by simp [inK]
theorem dim_nat {m : Int × Int × List Int} (h : dimK m = true) : ∃ n r : Nat, m.1 = (n : Int) ∧ m.2.1 = (r : Int) ∧ 1 ≤ n ∧ n ≤ 5 ∧ n ≤ r ∧ r ≤ 8 ∧ m.2.2.length = r * n := by
  simp only [dimK, Bool.and_eq_true, inK_iff, decide_eq_true_eq] at h
  obtain ⟨⟨h1, h2⟩, ⟨h3, h4⟩, h5⟩ := h
  obtain ⟨n, hn⟩ := Int.eq_ofNat_of_zero_le (show 0 ≤ m.1 by omega)
  obtain ⟨r, hr⟩ := Int.eq_ofNat_of_zero_le (show 0 ≤ m.2.1 by omega)
  refine ⟨n, r, hn, hr, by omega, by omega, by omega, by omega, ?_⟩
  rw [hn, hr, Int.mul_comm] at h5
  exact_mod_cast h5
theorem ent_lt {n r i j : Nat} (hi : i < r) (hj : j < n) : i * n + j < r * n := by
  have := Nat.mul_le_mul_right n (show i + 1 ≤ r from hi)
  rw [Nat.add_mul] at this
  omega
theorem at_ok {m : Int × Int × List Int} (h : dimK m = true) {i j : Nat} (hi : i < m.2.1.toNat) (hj : j < m.1.toNat) : atP m (i : Int) (j : Int) = true := by
  obtain ⟨n, r, hn, hr, _, _, _, _, hl⟩ := dim_nat h
  have := ent_lt (n := n) (r := r) (i := i) (j := j) (by omega) (by omega)
  simp only [atP, Bool.and_eq_true, decide_eq_true_eq, hn, hl]
  refine ⟨by omega, by omega, by omega, ?_⟩
  exact_mod_cast this
theorem all_bound {l : List Int} (h : entK l = true) (i : Nat) : -99 ≤ l.getD i 0 ∧ l.getD i 0 ≤ 99 := by
  by_cases hi : i < l.length
  · have := (List.all_eq_true.1 h) _ (getD_mem 0 hi)
    exact inK_iff.1 this
  · rw [List.getD_eq_getElem?_getD, List.getElem?_eq_none (by omega), Option.getD_none]; omega
theorem range_drop {j n : Nat} (h : j < n) : (List.range n).drop j = j :: (List.range n).drop (j + 1) := by
  rw [drop_getD 0 (by simpa using h), List.getD_eq_getElem?_getD, List.getElem?_range h, Option.getD_some]
end Go.Fw
namespace Go.Fw
def binK (n : Int) : Nat → Int → Nat → Int
  | 0, x, _ => x
  | m + 1, x, i => binK n m (w64 (Int.tdiv (w64 (x * w64 (n - (i : Int)))) ((i + 1 : Nat) : Int))) (i + 1)
def binC (n k : Int) : Int := binK n k.toNat 1 0
def cntA (n : Int) : Int × Int × Bool := (w64 (Int.tdiv (w64 (n * w64 (n + 3))) 2), w64 (Int.tdiv (binC (w64 (w64 (2 * n) + 2)) (w64 (n + 1))) (w64 (n + 2))), true)
def cntB (n : Int) : Int × Int × Bool := (w64 (n * w64 (n + 1)), binC (w64 (2 * n)) n, true)
def cntD (n : Int) : Int × Int × Bool := (w64 (n * n), w64 (Int.tdiv (w64 (w64 (w64 (3 * n) - 2) * binC (w64 (w64 (2 * n) - 2)) (w64 (n - 1)))) n), true)
def cntK (letter n : Int) : Int × Int × Bool :=
  cond (decide (letter = 65) && inK n 1 5) (cntA n)
  (cond ((decide (letter = 66) && inK n 2 5) || (decide (letter = 67) && inK n 3 5)) (cntB n)
  (cond (decide (letter = 68) && inK n 4 5) (cntD n)
  (cond (decide (letter = 70) && decide (n = 4)) (28, 105, true)
  (cond (decide (letter = 71) && decide (n = 2)) (8, 8, true) (0, 0, false)))))
theorem cnt_range {letter n : Int} (h : (cntK letter n).2.2 = true) : 1 ≤ n ∧ n ≤ 5 := by
  unfold cntK at h
  cases h1 : decide (letter = 65) && inK n 1 5
  · rw [h1, cond_false] at h
    cases h2 : (decide (letter = 66) && inK n 2 5) || (decide (letter = 67) && inK n 3 5)
    · rw [h2, cond_false] at h
      cases h3 : decide (letter = 68) && inK n 4 5
      · rw [h3, cond_false] at h
        cases h4 : decide (letter = 70) && decide (n = 4)
        · rw [h4, cond_false] at h
          cases h5 : decide (letter = 71) && decide (n = 2)
          · rw [h5, cond_false] at h
            cases h
          · simp only [Bool.and_eq_true, decide_eq_true_eq] at h5
            omega
        · simp only [Bool.and_eq_true, decide_eq_true_eq] at h4
          omega
      · simp only [Bool.and_eq_true, decide_eq_true_eq, inK_iff] at h3
        omega
    · simp only [Bool.or_eq_true, Bool.and_eq_true, decide_eq_true_eq, inK_iff] at h2
      omega
  · simp only [Bool.and_eq_true, decide_eq_true_eq, inK_iff] at h1
    omega
def stepK (w : ByteArray) : Option (Int × Int × Int) :=
  cond (decide (w.size = 2) && (cntK (bt w 0) (bt w 1 - 48)).2.2) (some ((cntK (bt w 0) (bt w 1 - 48)).1, (cntK (bt w 0) (bt w 1 - 48)).2.1, bt w 1 - 48)) none
theorem step_range {w : ByteArray} {a b n : Int} (h : stepK w = some (a, b, n)) : 1 ≤ n ∧ n ≤ 5 := by
  unfold stepK at h
  cases h1 : decide (w.size = 2) && (cntK (bt w 0) (bt w 1 - 48)).2.2
  · rw [h1] at h; cases h
  · rw [h1] at h
    simp only [cond_true, Option.some.injEq, Prod.mk.injEq] at h
    simp only [Bool.and_eq_true] at h1
    have := cnt_range h1.2
    omega
def ctI : List ByteArray → Int → Int → Int → Option (Int × Int)
  | [], s, c, _ => some (s, c)
  | w :: ws, s, c, r => match stepK w with
    | none => none
    | some (a, b, n) => if 5 < r + n then none else ctI ws (w64 (s + a)) (w64 (c * b)) (r + n)
def ctS : Nat → List ByteArray → Int → Int → Int → Option (Int × Int × Int)
  | 0, _, s, c, r => some (s, c, r)
  | _ + 1, [], s, c, r => some (s, c, r)
  | k + 1, w :: ws, s, c, r => match stepK w with
    | none => none
    | some (a, b, n) => ctS k ws (w64 (s + a)) (w64 (c * b)) (r + n)
def endS : Option (Int × Int × Int) → Option (Int × Int)
  | some (s, c, r) => if 5 < r then none else some (s, c)
  | none => none
theorem ctS_big : ∀ (k : Nat) (ws : List ByteArray) (s c r : Int), 5 < r → endS (ctS k ws s c r) = none
  | 0, ws, s, c, r, h => by simp [ctS, endS, h]
  | k + 1, [], s, c, r, h => by simp [ctS, endS, h]
  | k + 1, w :: ws, s, c, r, h => by
    rw [ctS]
    cases hs : stepK w with
    | none => rfl
    | some q =>
      obtain ⟨a, b, n⟩ := q
      have := step_range hs
      exact ctS_big k ws _ _ _ (by omega)
theorem ct_same : ∀ (k : Nat) (ws : List ByteArray) (s c r : Int), r ≤ 5 → 6 ≤ r + k → ctI ws s c r = endS (ctS k ws s c r)
  | 0, ws, s, c, r, h1, h2 => by omega
  | k + 1, [], s, c, r, h1, h2 => by
    have : ¬ 5 < r := by omega
    simp [ctS, ctI, endS, this]
  | k + 1, w :: ws, s, c, r, h1, h2 => by
    rw [ctS, ctI]
    cases hs : stepK w with
    | none => rfl
    | some q =>
      obtain ⟨a, b, n⟩ := q
      have := step_range hs
      simp only
      by_cases h : 5 < r + n
      · rw [if_pos h, ctS_big k ws _ _ _ h]
      · rw [if_neg h]
        exact ct_same k ws _ _ _ (by omega) (by omega)
theorem ctS_rank : ∀ (k : Nat) (ws : List ByteArray) (s c r : Int) {q : Int × Int × Int}, ctS k ws s c r = some q → q.2.2 ≤ r + 5 * k
  | 0, ws, s, c, r, q, h => by
    injection h with h
    subst h
    show r ≤ _
    omega
  | k + 1, [], s, c, r, q, h => by
    injection h with h
    subst h
    show r ≤ _
    omega
  | k + 1, w :: ws, s, c, r, q, h => by
    rw [ctS] at h
    cases hs : stepK w with
    | none => rw [hs] at h; cases h
    | some p =>
      obtain ⟨a, b, n⟩ := p
      rw [hs] at h
      have := step_range hs
      have := ctS_rank k ws _ _ _ h
      omega
def ansK : Option (Int × Int) → Int × Int × Bool
  | some (s, c) => (s, c, true)
  | none => (0, 0, false)
end Go.Fw
namespace Go.Fw
def prtB (s : ByteArray) : List ByteArray := (partsK (fun b => b == 32) s.data.toList).map baOf
theorem prt_int (s : ByteArray) : (partsK (fun b => decide ((b.toNat : Int) = 32)) s.data.toList).map baOf = prtB s := by
  have e : (fun b : UInt8 => decide ((b.toNat : Int) = 32)) = fun b => b == 32 := by
    funext b
    rw [Bool.eq_iff_iff, decide_eq_true_eq, beq_iff_eq]
    constructor
    · intro h
      exact UInt8.toNat_inj.1 (by rw [show (32 : UInt8).toNat = 32 from rfl]; omega)
    · intro h
      subst h
      rfl
  unfold prtB
  rw [e]
theorem bt_range (s : ByteArray) (i : Int) : 0 ≤ bt s i ∧ bt s i < 256 := by
  unfold bt
  have := UInt8.toNat_lt (s.data.getD i.toNat 0)
  omega
theorem prt_len (s : ByteArray) : (prtB s).length ≤ s.size + 1 := by
  unfold prtB
  rw [List.length_map, Lib.size_eq]
  exact parts_len _ _
theorem step_none {w : ByteArray} (h : w.size ≠ 2 ∨ bt w 1 < 49 ∨ 53 < bt w 1) : stepK w = none := by
  unfold stepK
  cases h1 : decide (w.size = 2) && (cntK (bt w 0) (bt w 1 - 48)).2.2
  · rfl
  · simp only [Bool.and_eq_true, decide_eq_true_eq] at h1
    have := cnt_range h1.2
    omega
end Go.Fw
set_option linter.unusedSimpArgs false
namespace Go.Fw
def digB (c : UInt8) : Bool := decide (48 ≤ c.toNat) && decide (c.toNat ≤ 57)
def dstep (a : Nat) (c : UInt8) : Nat := 10 * a + (c.toNat - 48)
def valD (a : Nat) (l : List UInt8) : Nat := l.foldl dstep a
theorem valD_nil (a : Nat) : valD a [] = a := rfl
theorem valD_cons (a : Nat) (c : UInt8) (l : List UInt8) : valD a (c :: l) = valD (dstep a c) l := by
  unfold valD
  rw [List.foldl_cons]
theorem valD_app (l m : List UInt8) (a : Nat) : valD a (l ++ m) = valD (valD a l) m := by
  unfold valD
  rw [List.foldl_append]
theorem dstep_eq (a : Nat) (c : UInt8) : dstep a c = 10 * a + (c.toNat - 48) := by unfold dstep; rfl
theorem valD_lt : ∀ (l : List UInt8) (a : Nat), l.all digB = true → valD a l < (a + 1) * 10 ^ l.length := by
  intro l
  induction l with
  | nil => intro a _; rw [valD_nil]; simp
  | cons c l ih =>
    intro a h
    rw [List.all_cons, Bool.and_eq_true] at h
    have hc := h.1
    simp only [digB, Bool.and_eq_true, decide_eq_true_eq] at hc
    have := ih (dstep a c) h.2
    have hs := dstep_eq a c
    rw [valD_cons, List.length_cons, Nat.pow_succ]
    refine Nat.lt_of_lt_of_le this ?_
    rw [Nat.mul_comm (10 ^ l.length) 10, ← Nat.mul_assoc]
    exact Nat.mul_le_mul_right _ (by omega)
theorem valD_ge : ∀ (l : List UInt8) (a : Nat), a ≤ valD a l := by
  intro l
  induction l with
  | nil => intro a; rw [valD_nil]; exact Nat.le_refl _
  | cons c l ih =>
    intro a
    have := ih (dstep a c)
    have hs := dstep_eq a c
    rw [valD_cons]
    omega
theorem uint_ok : ∀ (l : List UInt8) (a : Nat), l.all digB = true → valD a l < 1000000000000000000 → Lib.parseUint10 a l = .ok (valD a l) := by
  intro l
  induction l with
  | nil => intro a _ _; rw [valD_nil]; rfl
  | cons c l ih =>
    intro a h hv
    rw [List.all_cons, Bool.and_eq_true] at h
    have hc := h.1
    simp only [digB, Bool.and_eq_true, decide_eq_true_eq] at hc
    rw [valD_cons] at hv ⊢
    have hge := valD_ge l (dstep a c)
    have hs := dstep_eq a c
    have e : a * 10 + (c.toNat - 48) = dstep a c := by omega
    rw [Lib.parseUint10, if_pos hc, if_neg (by omega), if_neg (by omega), e]
    exact ih _ h.2 hv
theorem dec_all (u : Nat) : (Lib.decDigits u).all digB = true := by
  induction u using Nat.strongRecOn with
  | _ u ih =>
    have key : ∀ t, t < 10 → digB (UInt8.ofNat (48 + t)) = true := fun t ht => by
      have : (UInt8.ofNat (48 + t)).toNat = 48 + t := by rw [UInt8.toNat_ofNat']; omega
      simp only [digB, this, Bool.and_eq_true, decide_eq_true_eq]
      omega
    rw [Lib.decDigits]
    split
    · rename_i h
      rw [List.all_cons, key u h]
      rfl
    · rename_i h
      rw [List.all_append, ih (u / 10) (by omega), List.all_cons, key (u % 10) (by omega)]
      rfl
theorem dec_val (u : Nat) : valD 0 (Lib.decDigits u) = u := by
  induction u using Nat.strongRecOn with
  | _ u ih =>
    have key : ∀ t, t < 10 → (UInt8.ofNat (48 + t)).toNat - 48 = t := fun t ht => by
      have : (UInt8.ofNat (48 + t)).toNat = 48 + t := by rw [UInt8.toNat_ofNat']; omega
      omega
    rw [Lib.decDigits]
    split
    · rename_i h
      rw [valD_cons, dstep_eq, key u h, valD_nil]
      omega
    · rename_i h
      rw [valD_app, ih (u / 10) (by omega), valD_cons, dstep_eq, key (u % 10) (by omega), valD_nil]
      omega
theorem dec_ne (u : Nat) : Lib.decDigits u ≠ [] := by
  rw [Lib.decDigits]
  split <;> simp
theorem dec_len : ∀ (k u : Nat), u < 10 ^ k → 1 ≤ k → (Lib.decDigits u).length ≤ k
  | 0, _, _, h => by omega
  | k + 1, u, h, _ => by
    rw [Lib.decDigits]
    split
    · simp
    · rename_i hs
      have hk : 1 ≤ k := by
        rcases Nat.eq_zero_or_pos k with h' | h'
        · subst h'; omega
        · exact h'
      have := dec_len k (u / 10) (by rw [Nat.div_lt_iff_lt_mul (by omega), ← Nat.pow_succ]; exact h) hk
      simp
      omega
theorem join_parts : ∀ l : List UInt8, Lib.join (partsK (fun b => b == 32) l) [32] = l
  | [] => rfl
  | b :: l => by
    have ih := join_parts l
    have hne := parts_ne (fun b => b == 32) l
    rw [partsK]
    by_cases h : (b == 32) = true
    · rw [if_pos h, Lib.join_cons]
      cases hq : partsK (fun b => b == 32) l with
      | nil => exact absurd hq hne
      | cons x xs =>
        rw [hq, Lib.join_cons] at ih
        have hb : b = 32 := beq_iff_eq.1 h
        subst hb
        simp only [Lib.joinTail, List.map_cons, List.flatten_cons, List.nil_append, List.singleton_append, List.cons_append] at ih ⊢
        rw [ih]
    · rw [if_neg h]
      cases hq : partsK (fun b => b == 32) l with
      | nil => exact absurd hq hne
      | cons x xs =>
        rw [hq, Lib.join_cons] at ih
        simp only
        rw [Lib.join_cons, List.cons_append, ih]
theorem parts_app {p : UInt8 → Bool} : ∀ (x l : List UInt8), (∀ b ∈ x, p b = false) → partsK p (x ++ l) = glue x (partsK p l)
  | [], l, _ => (glue_nil (parts_ne p l)).symm
  | b :: x, l, h => by
    have ih := parts_app x l fun c hc => h c (List.mem_cons_of_mem _ hc)
    rw [List.cons_append, partsK, if_neg (by rw [h b (List.mem_cons_self ..)]; simp), ih]
    have hne := parts_ne p l
    cases hq : partsK p l with
    | nil => exact absurd hq hne
    | cons y ys => rfl
theorem parts_join : ∀ (xs : List (List UInt8)), xs ≠ [] → (∀ x ∈ xs, ∀ b ∈ x, (b == (32 : UInt8)) = false) → partsK (fun b => b == 32) (Lib.join xs [32]) = xs
  | [], h, _ => absurd rfl h
  | [x], _, h => by
    rw [Lib.join_one]
    have := parts_app (p := fun b => b == 32) x [] (h x (List.mem_cons_self ..))
    rw [List.append_nil] at this
    rw [this]
    simp [partsK, glue]
  | x :: y :: ys, _, h => by
    have ih := parts_join (y :: ys) (by simp) fun z hz => h z (List.mem_cons_of_mem _ hz)
    have e : Lib.join (x :: y :: ys) [32] = x ++ (32 :: Lib.join (y :: ys) [32]) := by
      rw [Lib.join_cons, Lib.join_cons]
      simp [Lib.joinTail]
    rw [e, parts_app _ _ (h x (List.mem_cons_self ..)), glue_sep (by rfl), ih]
theorem itoa_no32 (n : Int) : ∀ b ∈ Lib.itoa n, (b == (32 : UInt8)) = false := by
  have key : ∀ u, ∀ b ∈ Lib.decDigits u, (b == (32 : UInt8)) = false := fun u b hb => by
    have := List.all_eq_true.1 (dec_all u) b hb
    simp only [digB, Bool.and_eq_true, decide_eq_true_eq] at this
    rw [beq_eq_false_iff_ne]
    intro e
    subst e
    have : (32 : UInt8).toNat = 32 := rfl
    omega
  intro b hb
  unfold Lib.itoa at hb
  split at hb
  · rcases List.mem_cons.1 hb with rfl | hb
    · rfl
    · exact key _ b hb
  · exact key _ b hb
def signN (l : List UInt8) : Nat := match l with
  | c :: _ => if c = 45 then 1 else 0
  | [] => 0
noncomputable def numK (s : ByteArray) : Int × Bool :=
  if (s.data.toList.drop (signN s.data.toList)).length = 0 ∨ 9 < (s.data.toList.drop (signN s.data.toList)).length then (0, false)
  else if (s.data.toList.drop (signN s.data.toList)).all digB = true then
    (if signN s.data.toList = 1 then -(valD 0 (s.data.toList.drop (signN s.data.toList)) : Int) else (valD 0 (s.data.toList.drop (signN s.data.toList)) : Int),
     strEq (itoaB (if signN s.data.toList = 1 then -(valD 0 (s.data.toList.drop (signN s.data.toList)) : Int) else (valD 0 (s.data.toList.drop (signN s.data.toList)) : Int))) s)
  else (0, false)
theorem strEq_iff {a b : ByteArray} : strEq a b = true ↔ a = b := by
  unfold strEq
  rw [beq_iff_eq, ByteArray.toList_eq, ByteArray.toList_eq]
  constructor
  · intro h
    apply ByteArray.ext
    exact Array.toList_inj.1 h
  · intro h
    rw [h]
def partI (w : ByteArray) : Option Int := if (atoiW w).2 = true then none else if 10 < w.size then none else if inK (atoiW w).1 (-999999999) 999999999 = true then some (atoiW w).1 else none
noncomputable def partS (w : ByteArray) : Option Int := if (numK w).2 = true then some (numK w).1 else none
theorem part_SI {w : ByteArray} {n : Int} (h : partS w = some n) : partI w = some n ∧ w = itoaB n := by
  unfold partS at h
  split at h
  · rename_i h2
    injection h with h
    unfold numK at h h2
    split at h2
    · cases h2
    rename_i hlen
    rw [if_neg hlen] at h
    split at h2
    · rename_i hall
      rw [if_pos hall] at h
      simp only at h h2
      have hw := strEq_iff.1 h2
      rw [h] at hw
      have hlt := valD_lt _ 0 hall
      have h9 : (10 : Nat) ^ (w.data.toList.drop (signN w.data.toList)).length ≤ 10 ^ 9 := Nat.pow_le_pow_right (by omega) (by omega)
      have h9' : (10 : Nat) ^ 9 = 1000000000 := by decide
      rw [Nat.zero_add, Nat.one_mul] at hlt
      have hu := uint_ok _ 0 hall (by omega)
      have hsz := Lib.size_eq w
      refine ⟨?_, hw.symm⟩
      have hat : atoiW w = (n, false) := by
        unfold atoiW
        cases hL : w.data.toList with
        | nil => rw [hL] at hlen; simp [signN] at hlen
        | cons c r =>
          rw [hL] at hall hlen hlt hu h h9
          by_cases hc : c = 45
          · subst hc
            have hs : signN (45 :: r) = 1 := rfl
            rw [hs] at hall hlen hlt hu h h9
            rw [if_pos rfl] at h
            simp only [List.drop_succ_cons, List.drop_zero] at hall hlen hlt hu h h9
            have hm : Lib.parseMag r = .ok (valD 0 r) := by
              unfold Lib.parseMag
              rw [if_neg (fun e => by rw [e] at hlen; simp at hlen), hu]
            have e45 : (45 : UInt8).toNat = 45 := rfl
            simp only [Lib.atoiAll, e45, or_true, if_true, hm, not_true, false_and, if_false, true_and]
            rw [if_neg (show ¬ 9223372036854775808 < valD 0 r by have := hlt; have := h9; omega), h]
          · have hs : signN (c :: r) = 0 := by simp [signN, hc]
            rw [hs] at hall hlen hlt hu h h9
            rw [if_neg (by omega)] at h
            rw [List.drop_zero] at hall hlen hlt hu h h9
            have hd : digB c = true := by
              rw [List.all_cons, Bool.and_eq_true] at hall
              exact hall.1
            simp only [digB, Bool.and_eq_true, decide_eq_true_eq] at hd
            have hm : Lib.parseMag (c :: r) = .ok (valD 0 (c :: r)) := by
              unfold Lib.parseMag
              rw [if_neg (by simp), hu]
            have h43 : ¬ c.toNat = 43 := by omega
            have h45 : ¬ c.toNat = 45 := by omega
            simp only [Lib.atoiAll, h43, h45, or_self, if_false, hm, not_false_eq_true, true_and, false_and]
            rw [if_neg (show ¬ 9223372036854775808 ≤ valD 0 (c :: r) by omega)]
            rw [h]
      have hsg : signN w.data.toList ≤ 1 := by
        unfold signN
        split
        · split <;> omega
        · omega
      have hwl : w.size ≤ 10 := by
        rw [hsz]
        rw [List.length_drop] at hlen
        omega
      have hin : inK n (-999999999) 999999999 = true := by
        rw [inK_iff]
        split at h <;> omega
      unfold partI
      rw [hat, if_neg (by simp), if_neg (by omega), if_pos hin]
    · cases h2
  · cases h
theorem part_IS {w : ByteArray} {n : Int} (h : partI w = some n) (hw : w = itoaB n) : partS w = some n := by
  have hin : inK n (-999999999) 999999999 = true := by
    unfold partI at h
    split at h
    · cases h
    · split at h
      · cases h
      · split at h
        · rename_i h3
          injection h with h
          rw [h] at h3
          exact h3
        · cases h
  rw [inK_iff] at hin
  have hd : w.data.toList = Lib.itoa n := by rw [hw, itoaB_data]
  have hnum : numK w = (n, true) := by
    have hu : n.natAbs < 10 ^ 9 := by
      have h9' : (10 : Nat) ^ 9 = 1000000000 := by decide
      omega
    have hl := dec_len 9 n.natAbs hu (by omega)
    have hne : (Lib.decDigits n.natAbs).length ≠ 0 := fun e => dec_ne _ (List.length_eq_zero_iff.1 e)
    have hall := dec_all n.natAbs
    have hval := dec_val n.natAbs
    by_cases hneg : n < 0
    · have e : Lib.itoa n = 45 :: Lib.decDigits n.natAbs := by unfold Lib.itoa; rw [if_pos hneg]
      have hs : signN w.data.toList = 1 := by rw [hd, e]; rfl
      have hdr : w.data.toList.drop 1 = Lib.decDigits n.natAbs := by rw [hd, e]; rfl
      have hv : -((n.natAbs : Nat) : Int) = n := by omega
      unfold numK
      rw [hs, hdr, if_neg (by omega), if_pos hall, if_pos rfl, hval, hv, strEq_iff.2 hw.symm]
    · have e : Lib.itoa n = Lib.decDigits n.natAbs := by unfold Lib.itoa; rw [if_neg hneg, show n.toNat = n.natAbs by omega]
      have hs : signN w.data.toList = 0 := by
        rw [hd, e]
        unfold signN
        split
        · rename_i c r hc
          rw [hc, List.all_cons, Bool.and_eq_true] at hall
          have h1 := hall.1
          simp only [digB, Bool.and_eq_true, decide_eq_true_eq] at h1
          rw [if_neg]
          intro e45
          subst e45
          have : (45 : UInt8).toNat = 45 := rfl
          omega
        · rfl
      have hdr : w.data.toList.drop 0 = Lib.decDigits n.natAbs := by rw [hd, e]; rfl
      have hv : ((n.natAbs : Nat) : Int) = n := by omega
      unfold numK
      rw [hs, hdr, if_neg (by omega), if_pos hall, if_neg (by omega), hval, hv, strEq_iff.2 hw.symm]
  unfold partS
  rw [hnum, if_pos rfl]
def allP (f : ByteArray → Option Int) : List ByteArray → Option (List Int)
  | [] => some []
  | w :: ws => match f w with
    | none => none
    | some n => match allP f ws with
      | none => none
      | some l => some (n :: l)
noncomputable def parseS (s : ByteArray) : List Int × Bool := if strEq s ByteArray.empty = true then ([], true) else match allP partS (prtB s) with
  | none => ([], false)
  | some l => (l, true)
noncomputable def parseI (s : ByteArray) : List Int × Bool := if strEq s ByteArray.empty = true then ([], true) else match allP partI (prtB s) with
  | none => ([], false)
  | some l => if strEq (itoasB l) s = true then (l, true) else ([], false)
theorem allP_SI : ∀ {ws : List ByteArray} {l : List Int}, allP partS ws = some l → allP partI ws = some l ∧ ws = l.map itoaB
  | [], l, h => by
    injection h with h
    subst h
    exact ⟨rfl, rfl⟩
  | w :: ws, l, h => by
    rw [allP] at h
    cases hw : partS w with
    | none => rw [hw] at h; cases h
    | some n =>
      rw [hw] at h
      cases hr : allP partS ws with
      | none => rw [hr] at h; cases h
      | some m =>
        rw [hr] at h
        injection h with h
        subst h
        obtain ⟨a, b⟩ := part_SI hw
        obtain ⟨c, d⟩ := allP_SI hr
        rw [allP, a, c]
        exact ⟨rfl, by rw [List.map_cons, ← b, ← d]⟩
theorem allP_IS : ∀ {ws : List ByteArray} {l : List Int}, allP partI ws = some l → ws = l.map itoaB → allP partS ws = some l
  | [], l, h, _ => by
    injection h with h
    subst h
    rfl
  | w :: ws, l, h, hm => by
    rw [allP] at h
    cases hw : partI w with
    | none => rw [hw] at h; cases h
    | some n =>
      rw [hw] at h
      cases hr : allP partI ws with
      | none => rw [hr] at h; cases h
      | some m =>
        rw [hr] at h
        injection h with h
        subst h
        rw [List.map_cons, List.cons.injEq] at hm
        rw [allP, part_IS hw hm.1, allP_IS hr hm.2]
theorem prt_join (s : ByteArray) : Lib.join ((prtB s).map (·.data.toList)) [32] = s.data.toList := by
  unfold prtB
  rw [List.map_map]
  have : ((·.data.toList) ∘ baOf) = (id : List UInt8 → List UInt8) := by
    funext l
    simp [baOf]
  rw [this, List.map_id]
  exact join_parts _
theorem parse_same (s : ByteArray) : parseI s = parseS s := by
  unfold parseI parseS
  split
  · rfl
  cases hS : allP partS (prtB s) with
  | some l =>
    obtain ⟨hI, hm⟩ := allP_SI hS
    rw [hI]
    have hj := prt_join s
    have e1 : (l.map itoaB).map (·.data.toList) = l.map Lib.itoa := by
      rw [List.map_map]
      exact List.map_congr_left fun n _ => itoaB_data n
    rw [hm, e1] at hj
    have e2 : itoasB l = s := by
      apply ByteArray.ext
      apply Array.toList_inj.1
      rw [← hj]
      simp [itoasB, itoasL]
    simp only
    rw [if_pos (strEq_iff.2 e2)]
  | none =>
    cases hI : allP partI (prtB s) with
    | none => rfl
    | some l =>
      simp only
      split
      · rename_i he
        have e2 := strEq_iff.1 he
        have hl : l ≠ [] := fun h0 => by
          subst h0
          have := congrArg List.length (show prtB s = [] by
            cases hq : prtB s with
            | nil => rfl
            | cons w ws =>
              rw [hq, allP] at hI
              split at hI
              · cases hI
              · split at hI <;> cases hI)
          have h3 := parts_ne (fun b => b == (32 : UInt8)) s.data.toList
          unfold prtB at this
          rw [List.length_map, List.length_nil] at this
          exact h3 (List.length_eq_zero_iff.1 this)
        have hd : s.data.toList = Lib.join (l.map Lib.itoa) [32] := by
          rw [← e2]
          simp [itoasB, itoasL]
        have hp := parts_join (l.map Lib.itoa) (by simpa using hl) fun x hx => by
          obtain ⟨n, _, rfl⟩ := List.mem_map.1 hx
          exact itoa_no32 n
        have hws : prtB s = l.map itoaB := by
          unfold prtB
          rw [hd, hp, List.map_map]
          rfl
        rw [allP_IS hI hws] at hS
        cases hS
      · rfl
end Go.Fw
namespace Go.Fw
theorem parts_size (p : UInt8 → Bool) : ∀ l, ∀ x ∈ partsK p l, x.length ≤ l.length
  | [], x, hx => by
    simp [partsK] at hx
    subst hx
    simp
  | b :: l, x, hx => by
    have ih := parts_size p l
    have hne := parts_ne p l
    rw [partsK] at hx
    split at hx
    · rcases List.mem_cons.1 hx with rfl | hx
      · simp
      · have := ih x hx
        rw [List.length_cons]
        omega
    · cases hq : partsK p l with
      | nil => exact absurd hq hne
      | cons y ys =>
        rw [hq] at hx ih
        rcases List.mem_cons.1 hx with rfl | hx
        · have := ih y (List.mem_cons_self ..)
          rw [List.length_cons, List.length_cons]
          omega
        · have := ih x (List.mem_cons_of_mem _ hx)
          rw [List.length_cons]
          omega
theorem prt_size (s : ByteArray) : ∀ w ∈ prtB s, w.size ≤ s.size := by
  intro w hw
  unfold prtB at hw
  obtain ⟨l, hl, rfl⟩ := List.mem_map.1 hw
  have := parts_size _ _ l hl
  rw [Lib.size_eq s]
  have e : (baOf l).size = l.length := by simp [baOf, ByteArray.size]
  omega
theorem partI_range {w : ByteArray} {n : Int} (h : partI w = some n) : i64P n = true := by
  unfold partI at h
  split at h
  · cases h
  · split at h
    · cases h
    · split at h
      · rename_i h3
        injection h with h
        rw [h, inK_iff] at h3
        simp only [i64P, Bool.and_eq_true, decide_eq_true_eq]
        omega
      · cases h
end Go.Fw
set_option maxRecDepth 100000
namespace Go.Fw
noncomputable section
variable {ρ : Type}
namespace laws_markIntS
def mk : List Int → Int → List Int × Int
  | [], k => ([], k)
  | _ :: xs, k => (k :: (mk xs (w64 (k + 1))).1, (mk xs (w64 (k + 1))).2)
def g (a : List Int) (k : Int) : List Int × Int := mk a k
end laws_markIntS
namespace laws_markIntS
def Z1 {ρ : Type} (N : Nat) (v0 : LI) (v1 : Int) (kn : LI → Int → Option ρ) : Option ρ :=
 kn v0 v1
def Z4 {ρ : Type} (N : Nat) (v0 : LI) (v1 : Int) (kn : LI → I2 (Option ρ)) : Option ρ :=
 kn v0 v1 0
def Z7 {ρ : Type} (N : Nat) (v0 : LI) (v1 v5 : Int) (kn : LI → I2 (Option ρ)) (k0 : LI → Int → Option ρ) : Option ρ :=
 cond (lk N (decide (v5 < (v0.length : Int))))
 (
  cond (lk N (inB v5 v0.length)) (
   kn (v0.set v5.toNat v1) (w64 (v1 + 1)) (w64 (v5 + 1))) none)
 (
  k0 v0 v1)
def Z6L {ρ : Type} (N : Nat) (k0 : LI → Int → Option ρ) : Nat → LI → Int → Int → Option ρ
  | 0, _, _, _ => none
  | M + 1, v0, v1, v5 => Z7 N v0 v1 v5 (fun v0 v1 v5 => Z6L N k0 M v0 v1 v5) k0
def Z6 N v0 v1 v5 k0 := (Z6L N k0 N v0 v1 v5 : Option ρ)
def Z5 N v0 v1 v5 kn := (Z6 N v0 v1 v5 kn : Option ρ)
def Z3 N v0 v1 kn := (Z4 N v0 v1 (fun v0 v1 v5 => Z5 N v0 v1 v5 kn) : Option ρ)
def Z8 {ρ : Type} (N : Nat) (io100000 : LI) (v1 : Int) (kr : LI → Int → Option ρ) : Option ρ :=
 kr io100000 v1
def Z2 N v0 v1 kr := (Z3 N v0 v1 (fun io100000 v1 => Z8 N io100000 v1 kr) : Option ρ)
def Z0 N v0 v1 kr := (Z1 N v0 v1 (fun v0 v1 => Z2 N v0 v1 kr) : Option ρ)
def Spec : Prop := ∀  (v0 : LI) (v1 : Int), Ty.bd (.sl 0 (.int .i64)) v0 → ∃ N0, ∀ N, N0 ≤ N → Z0 N v0 v1 (fun io100000 v4 => some (io100000, (v4, ()))) = some ((g v0 v1).1, ((g v0 v1).2, ()))
theorem loop {ρ : Type} (N : Nat) (k0 : List Int → Int → Option ρ) : ∀ (M j : Nat) (a : List Int) (k : Int), a.length ≤ maxLen → j ≤ a.length → a.length - j < M →
    Z6L N k0 M a k (j : Int) = k0 (a.take j ++ (mk (a.drop j) k).1) (mk (a.drop j) k).2 := by
  intro M
  induction M with
  | zero => intro j a k _ _ h; omega
  | succ M ih =>
    intro j a k ha hj hM
    simp only [Z6L, Z7]
    by_cases h : j < a.length
    · rw [ct (dt (by omega)), ct (inB_nat h), Int.toNat_natCast, w64_succ (by omega), ih (j + 1) _ _ (by simpa using ha) (by simp; omega) (by simp; omega), drop_getD 0 h,
        List.drop_set_of_lt (by omega), take_set_s (by omega)]
      simp [mk]
    · have : j = a.length := by omega
      subst this
      rw [cf (df (by omega))]
      simp [mk]
theorem ok : Spec := fun a k ha => ⟨a.length + 1, fun N hN => by
  simp only [Z1, Z4, Z7, Z6, Z5, Z3, Z8, Z2, Z0]
  rw [show (0 : Int) = ((0 : Nat) : Int) from rfl, loop _ _ _ 0 a k ha.1 (by omega) (by omega)]
  simp [g]⟩
theorem mk_len : ∀ (a : List Int) (k : Int), (mk a k).1.length = a.length
  | [], _ => rfl
  | _ :: xs, k => by simp [mk, mk_len xs]
theorem mk_end : ∀ (a : List Int) (k : Int), 0 ≤ k → k + a.length < 9223372036854775808 → (mk a k).2 = k + a.length
  | [], k, _, _ => by simp [mk]
  | _ :: xs, k, h0, h => by
    simp only [mk, List.length_cons] at h ⊢
    rw [w64_id (by omega) (by omega), mk_end xs (k + 1) (by omega) (by omega)]
    omega
end laws_markIntS
end
end Go.Fw
namespace Go.Fw
noncomputable section
variable {ρ : Type}
namespace laws_heldIntS
def hd : List Int → Int → Int
  | [], k => k
  | x :: xs, k => if x = k then hd xs (w64 (k + 1)) else -1
def g (a : List Int) (k : Int) : Int := hd a k
end laws_heldIntS
namespace laws_heldIntS
def Z1 {ρ : Type} (N : Nat) (v0 : LI) (v1 : Int) (kn : LI → Int → Option ρ) : Option ρ :=
 kn v0 v1
def Z4 {ρ : Type} (N : Nat) (v0 : LI) (v1 : Int) (kn : LI → I2 (Option ρ)) : Option ρ :=
 kn v0 v1 0
def Z7 {ρ : Type} (N : Nat) (v0 : LI) (v1 v5 : Int) (kn : LI → I2 (Option ρ)) (k0 kr : Int → Option ρ) : Option ρ :=
 cond (lk N (decide (v5 < (v0.length : Int))))
 (
  cond (lk N (inB v5 v0.length)) (
   cond (lk N (!(decide ((v0.getD v5.toNat 0) = v1))))
   (
    kr (-1))
   (
    kn v0 (w64 (v1 + 1)) (w64 (v5 + 1)))) none)
 (
  k0 v1)
def Z6L {ρ : Type} (N : Nat) (k0 kr : Int → Option ρ) : Nat → LI → Int → Int → Option ρ
  | 0, _, _, _ => none
  | M + 1, v0, v1, v5 => Z7 N v0 v1 v5 (fun v0 v1 v5 => Z6L N k0 kr M v0 v1 v5) k0 kr
def Z6 N v0 v1 v5 k0 kr := (Z6L N k0 kr N v0 v1 v5 : Option ρ)
def Z5 N v0 v1 v5 kn kr := (Z6 N v0 v1 v5 kn kr : Option ρ)
def Z3 N v0 v1 kn kr := (Z4 N v0 v1 (fun v0 v1 v5 => Z5 N v0 v1 v5 kn kr) : Option ρ)
def Z8 {ρ : Type} (N : Nat) (v1 : Int) (kr : Int → Option ρ) : Option ρ :=
 kr v1
def Z2 N v0 v1 kr := (Z3 N v0 v1 (fun v1 => Z8 N v1 kr) kr : Option ρ)
def Z0 N v0 v1 kr := (Z1 N v0 v1 (fun v0 v1 => Z2 N v0 v1 kr) : Option ρ)
def Spec : Prop := ∀  (v0 : LI) (v1 : Int), Ty.bd (.sl 0 (.int .i64)) v0 → ∃ N0, ∀ N, N0 ≤ N → Z0 N v0 v1 (fun v4 => some ((), (v4, ()))) = some ((), ((g v0 v1), ()))
theorem loop {ρ : Type} (N : Nat) (kr : Int → Option ρ) (a : List Int) (ha : a.length ≤ maxLen) : ∀ (M j : Nat) (k : Int), j ≤ a.length → a.length - j < M →
    Z6L N kr kr M a k (j : Int) = kr (hd (a.drop j) k) := by
  intro M
  induction M with
  | zero => intro j k _ h; omega
  | succ M ih =>
    intro j k hj hM
    simp only [Z6L, Z7]
    by_cases h : j < a.length
    · rw [ct (dt (by omega)), ct (inB_nat h), Int.toNat_natCast, w64_succ (by omega), ih (j + 1) _ h (by omega), drop_getD 0 h]
      by_cases e : a.getD j 0 = k
      · rw [cf (nf e), hd, if_pos e]
      · rw [ct (nt e), hd, if_neg e]
    · rw [cf (df (by omega)), List.drop_of_length_le (by omega), hd]
theorem ok : Spec := fun a k ha => ⟨a.length + 1, fun N hN => by
  simp only [Z1, Z4, Z7, Z6, Z5, Z3, Z8, Z2, Z0]
  rw [show (0 : Int) = ((0 : Nat) : Int) from rfl, loop _ _ a ha.1 N 0 k (by omega) (by omega)]
  simp [g]⟩
end laws_heldIntS
end
end Go.Fw
namespace Go.Fw
theorem heldInt_mark : ∀ (a : List Int) (k : Int), laws_heldIntS.g (laws_markIntS.g a k).1 k = (laws_markIntS.g a k).2
  | [], k => rfl
  | x :: xs, k => by
    have ih := heldInt_mark xs (w64 (k + 1))
    simp only [laws_heldIntS.g, laws_markIntS.g, laws_markIntS.mk, laws_heldIntS.hd, if_true] at ih ⊢
    exact ih
end Go.Fw
namespace Go.Fw
noncomputable section
variable {ρ : Type}
namespace spec_l1Split
def P (s : ByteArray) (_ : Int) : Bool := decide (s.size ≤ 1048576)
def g (s : ByteArray) (by_ : Int) : List ByteArray := (partsK (fun b => decide ((b.toNat : Int) = by_)) s.data.toList).map baOf
end spec_l1Split
namespace spec_l1Split
def Z1 {ρ : Type} (N : Nat) (v0 : ByteArray) (v1 : Int) (kn : ByteArray → Int → Option ρ) : Option ρ :=
 kn v0 v1
def Z3 {ρ : Type} (N : Nat) (v0 : ByteArray) (v1 : Int) (kn : List ByteArray → ByteArray → Int → Option ρ) : Option ρ :=
 kn ([] : List ByteArray) v0 v1
def Z5 {ρ : Type} (N : Nat) (v5 : List ByteArray) (v0 : ByteArray) (v1 : Int) (kn : List ByteArray → ByteArray → I2 (Option ρ)) : Option ρ :=
 kn v5 v0 v1 0
def Z8 {ρ : Type} (N : Nat) (v5 : List ByteArray) (v0 : ByteArray) (v1 v6 : Int) (kn : List ByteArray → ByteArray → I3 (Option ρ)) : Option ρ :=
 kn v5 v0 v1 v6 0
def Z11 {ρ : Type} (N : Nat) (v5 : List ByteArray) (v0 : ByteArray) (v1 v6 v7 : Int) (kn : List ByteArray → ByteArray → I3 (Option ρ)) (k0 : List ByteArray → Option ρ) : Option ρ :=
 cond (lk N (decide (v7 ≤ (v0.size : Int))))
 (
  cond (lk N (decide (v7 = (v0.size : Int))))
  (
   cond (lk N (leB 0 v6 && (leB v6 v7 && leB v7 v0.size))) (
    cond (lk N (Nat.blt (v5.length + ([(v0.extract v6.toNat v7.toNat)] : List ByteArray).length) 1099511627776)) (
     kn (v5 ++ ([(v0.extract v6.toNat v7.toNat)] : List ByteArray)) v0 v1 (w64 (v7 + 1)) (w64 (v7 + 1))) none) none)
  (
   cond (lk N (decide (0 ≤ v7) && decide (v7 < (v0.size : Int)))) (
    cond (lk N (decide ((bt v0 v7) = v1)))
    (
     cond (lk N (leB 0 v6 && (leB v6 v7 && leB v7 v0.size))) (
      cond (lk N (Nat.blt (v5.length + ([(v0.extract v6.toNat v7.toNat)] : List ByteArray).length) 1099511627776)) (
       kn (v5 ++ ([(v0.extract v6.toNat v7.toNat)] : List ByteArray)) v0 v1 (w64 (v7 + 1)) (w64 (v7 + 1))) none) none)
    (
     kn v5 v0 v1 v6 (w64 (v7 + 1)))) none))
 (
  k0 v5)
def Z10L {ρ : Type} (N : Nat) (k0 : List ByteArray → Option ρ) : Nat → List ByteArray → ByteArray → Int → Int → Int → Option ρ
  | 0, _, _, _, _, _ => none
  | M + 1, v5, v0, v1, v6, v7 => Z11 N v5 v0 v1 v6 v7 (fun v5 v0 v1 v6 v7 => Z10L N k0 M v5 v0 v1 v6 v7) k0
def Z10 N v5 v0 v1 v6 v7 k0 := (Z10L N k0 N v5 v0 v1 v6 v7 : Option ρ)
def Z9 N v5 v0 v1 v6 v7 kn := (Z10 N v5 v0 v1 v6 v7 kn : Option ρ)
def Z7 N v5 v0 v1 v6 kn := (Z8 N v5 v0 v1 v6 (fun v5 v0 v1 v6 v7 => Z9 N v5 v0 v1 v6 v7 kn) : Option ρ)
def Z12 {ρ : Type} (N : Nat) (v5 : List ByteArray) (kr : List ByteArray → Option ρ) : Option ρ :=
 kr v5
def Z6 N v5 v0 v1 v6 kr := (Z7 N v5 v0 v1 v6 (fun v5 => Z12 N v5 kr) : Option ρ)
def Z4 N v5 v0 v1 kr := (Z5 N v5 v0 v1 (fun v5 v0 v1 v6 => Z6 N v5 v0 v1 v6 kr) : Option ρ)
def Z2 N v0 v1 kr := (Z3 N v0 v1 (fun v5 v0 v1 => Z4 N v5 v0 v1 kr) : Option ρ)
def Z0 N v0 v1 kr := (Z1 N v0 v1 (fun v0 v1 => Z2 N v0 v1 kr) : Option ρ)
def Spec : Prop := ∀  (v0 : ByteArray) (v1 : Int), P v0 v1 = true → ∃ N0, ∀ N, N0 ≤ N → Z0 N v0 v1 (fun v4 => some ((), (v4, ()))) = some ((), ((g v0 v1), ()))
theorem loop {ρ : Type} {N : Nat} {s : ByteArray} (hs : s.size ≤ 1048576) (by_ : Int) (k0 : List ByteArray → Option ρ) : ∀ (M i fr : Nat) (out : List ByteArray), fr ≤ i → i ≤ s.size → out.length + (s.size - i) ≤ 1048577 → s.size + 1 - i < M →
    Z10L N k0 M out s by_ (fr : Int) (i : Int) = k0 (out ++ (glue ((s.data.toList.drop fr).take (i - fr)) (partsK (fun b => decide ((b.toNat : Int) = by_)) (s.data.toList.drop i))).map baOf) := by
  have hsz := Lib.size_eq s
  intro M
  induction M with
  | zero => intro i fr out _ _ _ h; omega
  | succ M ih =>
    intro i fr out hf hi ho hM
    have hpiece : ∀ j : Nat, s.extract fr j = baOf ((s.data.toList.drop fr).take (j - fr)) := fun j => by rw [← Lib.extract_data, baOf_data]
    have hc : (leB 0 (fr : Int) && (leB (fr : Int) (i : Int) && leB (i : Int) s.size)) = true := by rw [leB_t (by omega), leB_t (by omega), leB_t (by omega)]; rfl
    have hb : ∀ x : ByteArray, Nat.blt (out.length + ([x] : List ByteArray).length) 1099511627776 = true := fun x => Nat.ble_eq_true_of_le (by simp; omega)
    simp only [Z10L, Z11]
    rw [ct (dt (by omega))]
    by_cases h : i = s.size
    · rw [ct (dt (by omega)), ct hc, ct (hb _), Int.toNat_natCast, Int.toNat_natCast, hpiece, w64_succ (by rw [maxLen_val]; omega)]
      obtain ⟨M, rfl⟩ : ∃ m, M = m + 1 := ⟨M - 1, by omega⟩
      simp only [Z10L, Z11]
      rw [cf (df (by omega)), List.drop_of_length_le (i := i) (by omega)]
      simp [partsK, glue]
    · have hlt : i < s.data.toList.length := by omega
      have hd : s.data.toList.drop i = s.data.toList[i] :: s.data.toList.drop (i + 1) := List.drop_eq_getElem_cons hlt
      have hbt : bt s (i : Int) = (s.data.toList[i].toNat : Int) := by
        unfold bt
        rw [Int.toNat_natCast, Array.getD_eq_getD_getElem?, Array.getElem?_eq_getElem (by simpa using hlt), Option.getD_some]
        simp
      rw [cf (df (by omega)), ct (show (decide (0 ≤ (i : Int)) && decide ((i : Int) < (s.size : Int))) = true by rw [dt (by omega), dt (by omega)]; rfl), hbt, hd]
      by_cases hsep : (s.data.toList[i].toNat : Int) = by_
      · rw [ct (dt hsep), ct hc, ct (hb _), Int.toNat_natCast, Int.toNat_natCast, hpiece, w64_succ (by rw [maxLen_val]; omega), glue_sep (by simpa using hsep)]
        rw [ih (i + 1) (i + 1) _ (Nat.le_refl _) (by omega) (by simp; omega) (by omega), Nat.sub_self, List.take_zero, glue_nil (parts_ne _ _)]
        simp
      · rw [cf (df hsep), w64_succ (by rw [maxLen_val]; omega), glue_go (by simpa using hsep), ih (i + 1) fr _ (by omega) (by omega) (by omega) (by omega)]
        congr 4
        obtain ⟨d, rfl⟩ : ∃ d, i = fr + d := ⟨i - fr, by omega⟩
        rw [show fr + d + 1 - fr = d + 1 by omega, show fr + d - fr = d by omega, List.take_add_one, List.getElem?_drop, List.getElem?_eq_getElem hlt]
        rfl
theorem ok : Spec := fun s by_ hp => ⟨s.size + 3, fun N hN => by
  have hs : s.size ≤ 1048576 := of_decide_eq_true hp
  simp only [Z1, Z3, Z5, Z8, Z11, Z10, Z9, Z7, Z12, Z6, Z4, Z2, Z0]
  refine (loop hs by_ _ N 0 0 [] (Nat.le_refl _) (Nat.zero_le _) (by simp; omega) (by omega)).trans ?_
  rw [Nat.sub_self, List.take_zero, List.drop_zero, glue_nil (parts_ne _ _), List.nil_append]
  rfl⟩
end spec_l1Split
end
end Go.Fw
namespace Go.Fw
noncomputable section
variable {ρ : Type}
namespace spec_FormatInt
noncomputable def g (n : Int) : ByteArray := itoaB n
def P (n : Int) : Bool := i64P n
end spec_FormatInt
namespace spec_FormatInt
def Z1 {ρ : Type} (N : Nat) (v0 : Int) (kn : Int → Option ρ) : Option ρ :=
 kn v0
def Z3 {ρ : Type} (N : Nat) (v0 : Int) (kn : List Int → Int → Option ρ) : Option ρ :=
 kn ([] : List Int) v0
def Z5 {ρ : Type} (N : Nat) (v3 : List Int) (v0 : Int) (kn : List Int → I2 (Option ρ)) : Option ρ :=
 kn v3 v0 v0
def Z9 {ρ : Type} (N : Nat) (v3 : List Int) (v0 v4 : Int) (kn : List Int → I2 (Option ρ)) (k0 : List Int → Int → Option ρ) : Option ρ :=
 cond (lk N (!(decide (v4 = 0))))
 (
  cond (lk N (true)) (
   cond (lk N (decide ((Int.tmod v4 10) < 0)))
   (
    cond (lk N (Nat.blt (v3.length + ([(w8 ((w64 (48 + (w64 (0 - (Int.tmod v4 10)))))))] : List Int).length) 1099511627776)) (
     cond (lk N (true)) (
      kn (v3 ++ ([(w8 ((w64 (48 + (w64 (0 - (Int.tmod v4 10)))))))] : List Int)) v0 (w64 (Int.tdiv v4 10))) none) none)
   (
    cond (lk N (Nat.blt (v3.length + ([(w8 ((w64 (48 + (Int.tmod v4 10)))))] : List Int).length) 1099511627776)) (
     cond (lk N (true)) (
      kn (v3 ++ ([(w8 ((w64 (48 + (Int.tmod v4 10)))))] : List Int)) v0 (w64 (Int.tdiv v4 10))) none) none)) none)
 (
  cond (lk N (decide ((v3.length : Int) = 0)))
  (
   cond (lk N (true)) (
    cond (lk N (decide ((Int.tmod v4 10) < 0)))
    (
     cond (lk N (Nat.blt (v3.length + ([(w8 ((w64 (48 + (w64 (0 - (Int.tmod v4 10)))))))] : List Int).length) 1099511627776)) (
      cond (lk N (true)) (
       kn (v3 ++ ([(w8 ((w64 (48 + (w64 (0 - (Int.tmod v4 10)))))))] : List Int)) v0 (w64 (Int.tdiv v4 10))) none) none)
    (
     cond (lk N (Nat.blt (v3.length + ([(w8 ((w64 (48 + (Int.tmod v4 10)))))] : List Int).length) 1099511627776)) (
      cond (lk N (true)) (
       kn (v3 ++ ([(w8 ((w64 (48 + (Int.tmod v4 10)))))] : List Int)) v0 (w64 (Int.tdiv v4 10))) none) none)) none)
  (
   k0 v3 v0))
def Z8L {ρ : Type} (N : Nat) (k0 : List Int → Int → Option ρ) : Nat → List Int → Int → Int → Option ρ
  | 0, _, _, _ => none
  | M + 1, v3, v0, v4 => Z9 N v3 v0 v4 (fun v3 v0 v4 => Z8L N k0 M v3 v0 v4) k0
def Z8 N v3 v0 v4 k0 := (Z8L N k0 N v3 v0 v4 : Option ρ)
def Z7 N v3 v0 v4 kn := (Z8 N v3 v0 v4 kn : Option ρ)
def Z11 {ρ : Type} (N : Nat) (v3 : List Int) (v0 : Int) (kn : List Int → List Int → Int → Option ρ) : Option ρ :=
 kn v3 ([] : List Int) v0
def Z13 {ρ : Type} (N : Nat) (v3 v6 : List Int) (v0 : Int) (kn : List Int → List Int → Option ρ) : Option ρ :=
 cond (lk N (decide (v0 < 0)))
 (
  cond (lk N (Nat.blt (v6.length + ([45] : List Int).length) 1099511627776)) (
   kn v3 (v6 ++ ([45] : List Int))) none)
 (
  kn v3 v6)
def Z16 {ρ : Type} (N : Nat) (v3 v6 : List Int) (kn : List Int → List Int → Int → Option ρ) : Option ρ :=
 kn v3 v6 (w64 ((v3.length : Int) - 1))
def Z19 {ρ : Type} (N : Nat) (v3 v6 : List Int) (v7 : Int) (kn : List Int → List Int → Int → Option ρ) (k2 : List Int → Option ρ) : Option ρ :=
 cond (lk N (decide (0 ≤ v7)))
 (
  cond (lk N (inB v7 v3.length)) (
   cond (lk N (Nat.blt (v6.length + ([(v3.getD v7.toNat 0)] : List Int).length) 1099511627776)) (
    kn v3 (v6 ++ ([(v3.getD v7.toNat 0)] : List Int)) (w64 (v7 - 1))) none) none)
 (
  k2 v6)
def Z18L {ρ : Type} (N : Nat) (k2 : List Int → Option ρ) : Nat → List Int → List Int → Int → Option ρ
  | 0, _, _, _ => none
  | M + 1, v3, v6, v7 => Z19 N v3 v6 v7 (fun v3 v6 v7 => Z18L N k2 M v3 v6 v7) k2
def Z18 N v3 v6 v7 k2 := (Z18L N k2 N v3 v6 v7 : Option ρ)
def Z17 N v3 v6 v7 kn := (Z18 N v3 v6 v7 kn : Option ρ)
def Z15 N v3 v6 kn := (Z16 N v3 v6 (fun v3 v6 v7 => Z17 N v3 v6 v7 kn) : Option ρ)
def Z20 {ρ : Type} (N : Nat) (v6 : List Int) (kr : ByteArray → Option ρ) : Option ρ :=
 kr (strOfNums v6)
def Z14 N v3 v6 kr := (Z15 N v3 v6 (fun v6 => Z20 N v6 kr) : Option ρ)
def Z12 N v3 v6 v0 kr := (Z13 N v3 v6 v0 (fun v3 v6 => Z14 N v3 v6 kr) : Option ρ)
def Z10 N v3 v0 kr := (Z11 N v3 v0 (fun v3 v6 v0 => Z12 N v3 v6 v0 kr) : Option ρ)
def Z6 N v3 v0 v4 kr := (Z7 N v3 v0 v4 (fun v3 v0 => Z10 N v3 v0 kr) : Option ρ)
def Z4 N v3 v0 kr := (Z5 N v3 v0 (fun v3 v0 v4 => Z6 N v3 v0 v4 kr) : Option ρ)
def Z2 N v0 kr := (Z3 N v0 (fun v3 v0 => Z4 N v3 v0 kr) : Option ρ)
def Z0 N v0 kr := (Z1 N v0 (fun v0 => Z2 N v0 kr) : Option ρ)
def Spec : Prop := ∀  (v0 : Int), P v0 = true → ∃ N0, ∀ N, N0 ≤ N → Z0 N v0 (fun v2 => some ((), (v2, ()))) = some ((), ((g v0), ()))
theorem done {ρ : Type} {N M : Nat} (k0 : List Int → Int → Option ρ) {ds : List Int} (hd : ds ≠ []) (n : Int) : Z8L N k0 (M + 1) ds n 0 = k0 ds n := by
  have hl : ds.length ≠ 0 := fun h => hd (List.length_eq_zero_iff.1 h)
  simp only [Z8L, Z9]
  rw [cf (show (!decide True) = false from rfl), cf (df (by omega))]
theorem loop {ρ : Type} {N : Nat} (k0 : List Int → Int → Option ρ) (n : Int) : ∀ (c M : Nat) (ds : List Int) (k : Int), k.natAbs < 10 ^ c → k.natAbs < 9223372036854775809 → 1 ≤ c → c < M → ds.length + c ≤ 100 → (k ≠ 0 ∨ ds = []) →
    Z8L N k0 M ds n k = k0 (ds ++ lsd k.natAbs) n := by
  intro c
  induction c with
  | zero => intro M ds k _ _ h; omega
  | succ c ih =>
    intro M ds k hk hk2 _ hM hd hor
    obtain ⟨M, rfl⟩ : ∃ m, M = m + 1 := ⟨M - 1, by omega⟩
    have hq : w64 (Int.tdiv k 10) = Int.tdiv k 10 := by
      have := natAbs_tdiv k
      exact w64_id (by omega) (by omega)
    have hstep : Z8L N k0 (M + 1) ds n k = Z8L N k0 M (ds ++ [48 + ((k.natAbs % 10 : Nat) : Int)]) n (Int.tdiv k 10) := by
      have hb : ∀ x : Int, Nat.blt (ds.length + ([x] : List Int).length) 1099511627776 = true := fun x => Nat.ble_eq_true_of_le (by simp; omega)
      simp only [Z8L, Z9, hq, hb, lk_eq, cond_true]
      by_cases hk0 : k = 0
      · subst hk0
        have hds : ds = [] := hor.resolve_left (by simp)
        subst hds
        rfl
      · rw [nt hk0, cond_true]
        by_cases hneg : Int.tmod k 10 < 0
        · rw [dt hneg, cond_true, dig_neg hneg]
        · rw [df hneg, cond_false, dig_pos hneg]
    rw [hstep]
    by_cases hsm : k.natAbs < 10
    · have e0 : Int.tdiv k 10 = 0 := by
        have := natAbs_tdiv k
        omega
      obtain ⟨M, rfl⟩ : ∃ m, M = m + 1 := ⟨M - 1, by omega⟩
      rw [e0, done k0 (by simp) n, lsd_small hsm, Nat.mod_eq_of_lt hsm]
    · have hc : 1 ≤ c := by
        rcases Nat.eq_zero_or_pos c with h | h
        · subst h
          omega
        · exact h
      have hd2 := natAbs_tdiv k
      rw [ih M _ (Int.tdiv k 10) (by rw [hd2, Nat.div_lt_iff_lt_mul (by omega), ← Nat.pow_succ]; exact hk) (by omega) hc (by omega) (by simp; omega) (.inl (by omega)), hd2, lsd_big hsm, List.append_assoc]
      rfl
theorem back {ρ : Type} {N : Nat} (k2 : List Int → Option ρ) {ds : List Int} (hd : ds.length ≤ 100) : ∀ (j M : Nat) (out : List Int), j ≤ ds.length → j < M → out.length + j ≤ 1000 → Z18L N k2 M ds out ((j : Int) - 1) = k2 (out ++ (ds.take j).reverse) := by
  intro j
  induction j with
  | zero =>
    intro M out _ hM _
    obtain ⟨M, rfl⟩ : ∃ m, M = m + 1 := ⟨M - 1, by omega⟩
    simp only [Z18L, Z19]
    rw [cf (df (by omega)), List.take_zero, List.reverse_nil, List.append_nil]
  | succ j ih =>
    intro M out hj hM ho
    obtain ⟨M, rfl⟩ : ∃ m, M = m + 1 := ⟨M - 1, by omega⟩
    have e : ((j + 1 : Nat) : Int) - 1 = (j : Int) := by omega
    have hb : ∀ x : Int, Nat.blt (out.length + ([x] : List Int).length) 1099511627776 = true := fun x => Nat.ble_eq_true_of_le (by simp; omega)
    simp only [Z18L, Z19, e]
    rw [ct (dt (by omega)), ct (inB_nat hj), ct (hb _), Int.toNat_natCast, w64_id (by omega) (by omega), ih M _ (by omega) (by omega) (by simp; omega), ← take_getD 0 hj, List.reverse_append, List.append_assoc]
    rfl
theorem lsd_len {u : Nat} : ∀ (c : Nat), u < 10 ^ c → 1 ≤ c → (lsd u).length ≤ c := by
  intro c
  induction c generalizing u with
  | zero => intro _ h; omega
  | succ c ih =>
    intro h _
    by_cases hs : u < 10
    · rw [lsd_small hs]
      simp
    · rw [lsd_big hs, List.length_cons]
      have hc : 1 ≤ c := by
        rcases Nat.eq_zero_or_pos c with h' | h'
        · subst h'
          omega
        · exact h'
      have := ih (u := u / 10) (by rw [Nat.div_lt_iff_lt_mul (by omega), ← Nat.pow_succ]; exact h) hc
      omega
theorem ok : Spec := fun n hp => ⟨200, fun N hN => by
  simp only [P, i64P, Bool.and_eq_true, decide_eq_true_eq] at hp
  have h19 : n.natAbs < 10 ^ 19 := by
    have : (10 : Nat) ^ 19 = 10000000000000000000 := by decide
    omega
  have hlen := lsd_len 19 h19 (by omega)
  simp only [Z0, Z1, Z2, Z3, Z4, Z5, Z6, Z7, Z8]
  refine (loop _ n 19 N [] n h19 (by omega) (by omega) (by omega) (by simp) (.inr rfl)).trans ?_
  rw [List.nil_append]
  have hl0 : lsd n.natAbs = (lsd n.natAbs).take (lsd n.natAbs).length := by rw [List.take_length]
  have fin : ∀ out : List Int, out.length ≤ 10 → Z18L N (fun out6 => some ((), (strOfNums out6, ()))) N (lsd n.natAbs) out (((lsd n.natAbs).length : Int) - 1) = some ((), (strOfNums (out ++ (lsd n.natAbs).reverse), ())) := fun out ho => by
    rw [back _ (by omega) _ N out (Nat.le_refl _) (by omega) (by omega), List.take_length]
  simp only [Z10, Z11, Z12, Z13]
  by_cases hneg : n < 0
  · rw [ct (dt hneg), ct (show Nat.blt (([] : List Int).length + ([45] : List Int).length) 1099511627776 = true from rfl)]
    simp only [Z14, Z15, Z16, Z17, Z18, Z20]
    rw [w64_id (by omega) (by omega), fin _ (by simp), g, itoaB, Lib.itoa, if_pos hneg]
    have := nums_neg n.natAbs
    simp only [List.nil_append, List.singleton_append]
    rw [this]
  · rw [cf (df hneg)]
    simp only [Z14, Z15, Z16, Z17, Z18, Z20]
    rw [w64_id (by omega) (by omega), fin _ (by simp), g, itoaB, Lib.itoa, if_neg hneg, List.nil_append, nums_lsd, show n.natAbs = n.toNat by omega]⟩
end spec_FormatInt
end
end Go.Fw
namespace Go.Fw
noncomputable section
variable {ρ : Type}
namespace spec_l1Number
noncomputable def g (s : ByteArray) : Int × Bool := numK s
end spec_l1Number
namespace spec_l1Number
def Z1 {ρ : Type} (N : Nat) (v0 : ByteArray) (kn : ByteArray → Option ρ) : Option ρ :=
 kn v0
def Z3 {ρ : Type} (N : Nat) (v0 : ByteArray) (kn : ByteArray → Int → Option ρ) : Option ρ :=
 kn v0 0
def Z5 {ρ : Type} (N : Nat) (v0 : ByteArray) (v4 : Int) (kn : ByteArray → Int → Option ρ) : Option ρ :=
 cond (lk N (decide (0 < (v0.size : Int))))
 (
  cond (lk N (decide (0 ≤ 0) && decide (0 < (v0.size : Int)))) (
   cond (lk N (decide ((bt v0 0) = 45)))
   (
    kn v0 1)
   (
    kn v0 v4)) none)
 (
  kn v0 v4)
def Z7 {ρ : Type} (N : Nat) (v0 : ByteArray) (v4 : Int) (kn : ByteArray → Int → Option ρ) (kr : Int → Bool → Option ρ) : Option ρ :=
 cond (lk N (decide ((v0.size : Int) = v4)))
 (
  kr 0 false)
 (
  cond (lk N (decide ((w64 (v4 + 9)) < (v0.size : Int))))
  (
   kr 0 false)
  (
   kn v0 v4))
def Z9 {ρ : Type} (N : Nat) (v0 : ByteArray) (v4 : Int) (kn : ByteArray → I2 (Option ρ)) : Option ρ :=
 kn v0 v4 0
def Z12 {ρ : Type} (N : Nat) (v0 : ByteArray) (v4 v5 : Int) (kn : ByteArray → I3 (Option ρ)) : Option ρ :=
 kn v0 v4 v5 v4
def Z15 {ρ : Type} (N : Nat) (v0 : ByteArray) (v4 v5 v6 : Int) (kn : ByteArray → I3 (Option ρ)) (k0 : ByteArray → I2 (Option ρ)) (kr : Int → Bool → Option ρ) : Option ρ :=
 cond (lk N (decide (v6 < (v0.size : Int))))
 (
  cond (lk N (decide (0 ≤ v6) && decide (v6 < (v0.size : Int)))) (
   cond (lk N (decide ((bt v0 v6) < 48)))
   (
    kr 0 false)
   (
    cond (lk N (decide (0 ≤ v6) && decide (v6 < (v0.size : Int)))) (
     cond (lk N (decide (57 < (bt v0 v6))))
     (
      kr 0 false)
     (
      cond (lk N (decide (0 ≤ v6) && decide (v6 < (v0.size : Int)))) (
       kn v0 v4 (w64 ((w64 (10 * v5)) + (w64 ((w8 ((bt v0 v6) - 48)))))) (w64 (v6 + 1))) none)) none)) none)
 (
  k0 v0 v4 v5)
def Z14L {ρ : Type} (N : Nat) (k0 : ByteArray → I2 (Option ρ)) (kr : Int → Bool → Option ρ) : Nat → ByteArray → Int → Int → Int → Option ρ
  | 0, _, _, _, _ => none
  | M + 1, v0, v4, v5, v6 => Z15 N v0 v4 v5 v6 (fun v0 v4 v5 v6 => Z14L N k0 kr M v0 v4 v5 v6) k0 kr
def Z14 N v0 v4 v5 v6 k0 kr := (Z14L N k0 kr N v0 v4 v5 v6 : Option ρ)
def Z13 N v0 v4 v5 v6 kn kr := (Z14 N v0 v4 v5 v6 kn kr : Option ρ)
def Z11 N v0 v4 v5 kn kr := (Z12 N v0 v4 v5 (fun v0 v4 v5 v6 => Z13 N v0 v4 v5 v6 kn kr) : Option ρ)
def Z16 {ρ : Type} (N : Nat) (v0 : ByteArray) (v4 v5 : Int) (kr : Int → Bool → Option ρ) : Option ρ :=
 cond (lk N (decide (v4 = 1)))
 (
  cond (lk N (spec_FormatInt.P (w64 (0 - v5)))) (
   kr (w64 (0 - v5)) (lk N (strEq (spec_FormatInt.g (w64 (0 - v5))) v0))) none)
 (
  cond (lk N (spec_FormatInt.P v5)) (
   kr v5 (lk N (strEq (spec_FormatInt.g v5) v0))) none)
def Z10 N v0 v4 v5 kr := (Z11 N v0 v4 v5 (fun v0 v4 v5 => Z16 N v0 v4 v5 kr) kr : Option ρ)
def Z8 N v0 v4 kr := (Z9 N v0 v4 (fun v0 v4 v5 => Z10 N v0 v4 v5 kr) : Option ρ)
def Z6 N v0 v4 kr := (Z7 N v0 v4 (fun v0 v4 => Z8 N v0 v4 kr) kr : Option ρ)
def Z4 N v0 v4 kr := (Z5 N v0 v4 (fun v0 v4 => Z6 N v0 v4 kr) : Option ρ)
def Z2 N v0 kr := (Z3 N v0 (fun v0 v4 => Z4 N v0 v4 kr) : Option ρ)
def Z0 N v0 kr := (Z1 N v0 (fun v0 => Z2 N v0 kr) : Option ρ)
def Spec : Prop := ∀  (v0 : ByteArray), ∃ N0, ∀ N, N0 ≤ N → Z0 N v0 (fun v2 v3 => some ((), (v2, (v3, ())))) = some ((), ((g v0).1, ((g v0).2, ())))
theorem loop {ρ : Type} {N : Nat} {s : ByteArray} (h100 : s.size ≤ 100) (at_ : Int) (k0 : ByteArray → Int → Int → Option ρ) (kr : Int → Bool → Option ρ) : ∀ (M i n : Nat), i ≤ s.size → s.size - i ≤ 9 → n * 10 ^ (s.size - i) + 10 ^ (s.size - i) ≤ 1000000000 → s.size - i < M →
    Z14L N k0 kr M s at_ (n : Int) (i : Int) = cond ((s.data.toList.drop i).all digB) (k0 s at_ (valD n (s.data.toList.drop i) : Nat)) (kr 0 false) := by
  have hsz := Lib.size_eq s
  intro M
  induction M with
  | zero => intro i n _ _ _ h; omega
  | succ M ih =>
    intro i n hi h9 hn hM
    simp only [Z14L, Z15]
    by_cases h : i < s.size
    · have hlt : i < s.data.toList.length := by omega
      have hd : s.data.toList.drop i = s.data.toList[i] :: s.data.toList.drop (i + 1) := List.drop_eq_getElem_cons hlt
      have hbt : bt s (i : Int) = (s.data.toList[i].toNat : Int) := by
        unfold bt
        rw [Int.toNat_natCast, Array.getD_eq_getD_getElem?, Array.getElem?_eq_getElem (by simpa using hlt), Option.getD_some]
        simp
      have hc : (decide (0 ≤ (i : Int)) && decide ((i : Int) < (s.size : Int))) = true := by rw [dt (by omega), dt (by omega)]; rfl
      rw [ct (dt (by omega)), ct hc, hbt, hd, List.all_cons]
      generalize s.data.toList[i] = c
      by_cases hlo : (c.toNat : Int) < 48
      · rw [ct (dt hlo), show digB c = false by simp only [digB, Bool.and_eq_false_iff, decide_eq_false_iff_not]; omega]
        rfl
      rw [cf (df hlo), ct hc]
      by_cases hhi : 57 < (c.toNat : Int)
      · rw [ct (dt hhi), show digB c = false by simp only [digB, Bool.and_eq_false_iff, decide_eq_false_iff_not]; omega]
        rfl
      have hdig : digB c = true := by simp only [digB, Bool.and_eq_true, decide_eq_true_eq]; omega
      obtain ⟨k, hk⟩ : ∃ k, s.size - i = k + 1 := ⟨s.size - i - 1, by omega⟩
      have hk2 : s.size - (i + 1) = k := by omega
      rw [hk, Nat.pow_succ] at hn
      have hs := dstep_eq n c
      have h10 : 10 * n + 10 ≤ 1000000000 := by
        have : 1 ≤ 10 ^ k := Nat.pow_pos (by omega)
        have h1 : n * 10 ≤ n * (10 ^ k * 10) := Nat.mul_le_mul_left _ (by omega)
        omega
      have e : w64 (w64 (10 * (n : Int)) + w64 (w8 ((c.toNat : Int) - 48))) = ((dstep n c : Nat) : Int) := by
        rw [w8_id (by omega) (by omega), w64_id (n := 10 * (n : Int)) (by omega) (by omega), w64_id (n := (c.toNat : Int) - 48) (by omega) (by omega), w64_id (by omega) (by omega), hs]
        omega
      rw [cf (df hhi), ct hc, e, w64_succ (by rw [maxLen_val]; omega), hdig, Bool.true_and, valD_cons]
      refine ih (i + 1) (dstep n c) h (by omega) ?_ (by omega)
      rw [hk2]
      have h2 : dstep n c * 10 ^ k + 10 ^ k = (dstep n c + 1) * 10 ^ k := by rw [Nat.add_mul, Nat.one_mul]
      have h3 : (dstep n c + 1) * 10 ^ k ≤ (n * 10 + 10) * 10 ^ k := Nat.mul_le_mul_right _ (by omega)
      have h4 : (n * 10 + 10) * 10 ^ k = n * (10 ^ k * 10) + 10 ^ k * 10 := by
        rw [Nat.add_mul, Nat.mul_assoc, Nat.mul_comm 10 (10 ^ k)]
      omega
    · rw [cf (df (by omega)), List.drop_of_length_le (by omega), valD_nil]
      rfl
theorem ok : Spec := fun s => ⟨100, fun N hN => by
  have hsz := Lib.size_eq s
  have main : ∀ a : Nat, a ≤ 1 → a = signN s.data.toList → a ≤ s.size → Z6 N s (a : Int) (fun t2 t3 => some ((), (t2, (t3, ())))) = some ((), ((numK s).1, ((numK s).2, ()))) := by
    intro a ha hsg has
    have hlen : (s.data.toList.drop a).length = s.size - a := by rw [List.length_drop, hsz]
    simp only [Z6, Z7, numK, ← hsg]
    by_cases h1 : s.size = a
    · rw [ct (dt (by omega)), if_pos (.inl (by omega))]
    rw [cf (df (by omega)), w64_id (n := (a : Int) + 9) (by omega) (by omega)]
    by_cases h2 : a + 9 < s.size
    · rw [ct (dt (by omega)), if_pos (.inr (by omega))]
    rw [cf (df (by omega)), if_neg (by omega)]
    simp only [Z8, Z9, Z10, Z11, Z12, Z13, Z14]
    have hpow : 10 ^ (s.size - a) ≤ 10 ^ 9 := Nat.pow_le_pow_right (by omega) (by omega)
    have h9' : (10 : Nat) ^ 9 = 1000000000 := by decide
    have hlp := loop (ρ := Unit × Int × Bool × Unit) (N := N) (s := s) (by omega) (a : Int) (fun s0 at4 n5 => Z16 N s0 at4 n5 (fun t2 t3 => some ((), (t2, (t3, ()))))) (fun t2 t3 => some ((), (t2, (t3, ())))) N a 0 has (by omega) (by omega) (by omega)
    refine hlp.trans ?_
    cases hall : (s.data.toList.drop a).all digB
    · rw [cond_false, if_neg (by simp)]
    · have hv := valD_lt _ 0 hall
      rw [hlen, Nat.zero_add, Nat.one_mul] at hv
      rw [cond_true, if_pos rfl]
      simp only [Z16]
      generalize valD 0 (s.data.toList.drop a) = v at hv
      by_cases h3 : a = 1
      · have e : w64 (0 - (v : Int)) = -(v : Int) := by rw [w64_id (by omega) (by omega)]; omega
        have hP : spec_FormatInt.P (-(v : Int)) = true := by
          show i64P _ = true
          simp only [i64P, Bool.and_eq_true, decide_eq_true_eq]
          omega
        rw [ct (dt (by omega)), e, ct hP, if_pos h3, lk_eq]
        rfl
      · have hP : spec_FormatInt.P (v : Int) = true := by
          show i64P _ = true
          simp only [i64P, Bool.and_eq_true, decide_eq_true_eq]
          omega
        rw [cf (df (by omega)), ct hP, if_neg h3, lk_eq]
        rfl
  simp only [Z0, Z1, Z2, Z3, Z4, Z5]
  cases hL : s.data.toList with
  | nil =>
    have h0 : s.size = 0 := by rw [hsz, hL]; rfl
    rw [cf (df (by omega))]
    exact main 0 (by omega) (by rw [hL]; rfl) (by omega)
  | cons c r =>
    have h0 : s.size = r.length + 1 := by rw [hsz, hL]; rfl
    have hbt : bt s 0 = (c.toNat : Int) := by
      unfold bt
      rw [Array.getD_eq_getD_getElem?, ← Array.getElem?_toList, hL]
      rfl
    rw [ct (dt (by omega)), ct (show (decide ((0 : Nat) ≤ 0) && decide ((0 : Int) < (s.size : Int))) = true by rw [dt (show (0 : Int) < (s.size : Int) by omega)]; rfl), hbt]
    by_cases hc : c = 45
    · have : (c.toNat : Int) = 45 := by rw [hc]; rfl
      rw [ct (dt this)]
      exact main 1 (by omega) (by rw [hL, hc]; rfl) (by omega)
    · have hne : ¬ (c.toNat : Int) = 45 := fun e => hc (by
        apply UInt8.toNat_inj.1
        rw [show (45 : UInt8).toNat = 45 from rfl]
        omega)
      rw [cf (df hne)]
      exact main 0 (by omega) (by rw [hL]; simp [signN, hc]) (by omega)⟩
end spec_l1Number
end
end Go.Fw
namespace Go.Fw
noncomputable section
variable {ρ : Type}
namespace spec_ParseInts
def P (s : ByteArray) : Bool := decide (s.size ≤ 1048576)
noncomputable def g (s : ByteArray) : List Int × Bool := parseS s
end spec_ParseInts
namespace spec_ParseInts
def Z1 {ρ : Type} (N : Nat) (v0 : ByteArray) (kn : ByteArray → Option ρ) : Option ρ :=
 kn v0
def Z3 {ρ : Type} (N : Nat) (v0 : ByteArray) (kn : LI → ByteArray → Option ρ) : Option ρ :=
 kn ([] : List Int) v0
def Z5 {ρ : Type} (N : Nat) (v4 : LI) (v0 : ByteArray) (kn : LI → ByteArray → Option ρ) (kr : LI → Bool → Option ρ) : Option ρ :=
 cond (lk N (strEq v0 ByteArray.empty))
 (
  kr v4 true)
 (
  kn v4 v0)
def Z7 {ρ : Type} (N : Nat) (v4 : LI) (v0 : ByteArray) (kn : LI → List ByteArray → Option ρ) : Option ρ :=
 cond (lk N (spec_l1Split.P v0 32)) (
  kn v4 (spec_l1Split.g v0 32)) none
def Z10 {ρ : Type} (N : Nat) (v4 : LI) (v5 : List ByteArray) (kn : LI → List ByteArray → Int → Option ρ) : Option ρ :=
 kn v4 v5 0
def Z13 {ρ : Type} (N : Nat) (v4 : LI) (v5 : List ByteArray) (v6 : Int) (kn : LI → List ByteArray → Int → Option ρ) (k0 : LI → Option ρ) (kr : LI → Bool → Option ρ) : Option ρ :=
 cond (lk N (decide (v6 < (v5.length : Int))))
 (
  cond (lk N (inB v6 v5.length)) (
   cond (!(lk N ((spec_l1Number.g (v5.getD v6.toNat ByteArray.empty)).2)))
   (
    kr ([] : List Int) false)
   (
    cond (lk N (Nat.blt (v4.length + ([(spec_l1Number.g (v5.getD v6.toNat ByteArray.empty)).1] : List Int).length) 1099511627776)) (
     kn (v4 ++ ([(spec_l1Number.g (v5.getD v6.toNat ByteArray.empty)).1] : List Int)) v5 (w64 (v6 + 1))) none)) none)
 (
  k0 v4)
def Z12L {ρ : Type} (N : Nat) (k0 : LI → Option ρ) (kr : LI → Bool → Option ρ) : Nat → LI → List ByteArray → Int → Option ρ
  | 0, _, _, _ => none
  | M + 1, v4, v5, v6 => Z13 N v4 v5 v6 (fun v4 v5 v6 => Z12L N k0 kr M v4 v5 v6) k0 kr
def Z12 N v4 v5 v6 k0 kr := (Z12L N k0 kr N v4 v5 v6 : Option ρ)
def Z11 N v4 v5 v6 kn kr := (Z12 N v4 v5 v6 kn kr : Option ρ)
def Z9 N v4 v5 kn kr := (Z10 N v4 v5 (fun v4 v5 v6 => Z11 N v4 v5 v6 kn kr) : Option ρ)
def Z14 {ρ : Type} (N : Nat) (v4 : LI) (kr : LI → Bool → Option ρ) : Option ρ :=
 kr v4 true
def Z8 N v4 v5 kr := (Z9 N v4 v5 (fun v4 => Z14 N v4 kr) kr : Option ρ)
def Z6 N v4 v0 kr := (Z7 N v4 v0 (fun v4 v5 => Z8 N v4 v5 kr) : Option ρ)
def Z4 N v4 v0 kr := (Z5 N v4 v0 (fun v4 v0 => Z6 N v4 v0 kr) kr : Option ρ)
def Z2 N v0 kr := (Z3 N v0 (fun v4 v0 => Z4 N v4 v0 kr) : Option ρ)
def Z0 N v0 kr := (Z1 N v0 (fun v0 => Z2 N v0 kr) : Option ρ)
def Spec : Prop := ∀  (v0 : ByteArray), P v0 = true → ∃ N0, ∀ N, N0 ≤ N → Z0 N v0 (fun v2 v3 => some ((), (v2, (v3, ())))) = some ((), ((g v0).1, ((g v0).2, ())))
theorem loop {ρ : Type} {N : Nat} (k0 : List Int → Option ρ) (kr : List Int → Bool → Option ρ) {ps : List ByteArray} (hps : ps.length ≤ 2000000) : ∀ (M i : Nat) (out : List Int), i ≤ ps.length → out.length + (ps.length - i) ≤ 2000000 → ps.length - i < M →
    Z12L N k0 kr M out ps (i : Int) = match allP partS (ps.drop i) with | some l => k0 (out ++ l) | none => kr [] false := by
  intro M
  induction M with
  | zero => intro i out _ _ h; omega
  | succ M ih =>
    intro i out hi ho hM
    simp only [Z12L, Z13]
    by_cases h : i < ps.length
    · have hb : ∀ x : Int, Nat.blt (out.length + ([x] : List Int).length) 1099511627776 = true := fun x => Nat.ble_eq_true_of_le (by simp; omega)
      have hg : spec_l1Number.g (ps.getD i ByteArray.empty) = numK (ps.getD i ByteArray.empty) := rfl
      rw [ct (dt (by omega)), ct (inB_nat h), Int.toNat_natCast, drop_getD (l := ps) ByteArray.empty h, allP, hg, lk_eq]
      rw [show partS (ps.getD i ByteArray.empty) = (if (numK (ps.getD i ByteArray.empty)).2 = true then some (numK (ps.getD i ByteArray.empty)).1 else none) from rfl]
      cases hok : (numK (ps.getD i ByteArray.empty)).2
      · rw [if_neg (by simp)]
        rfl
      · rw [if_pos rfl, cf' (show (!true) = false from rfl), ct (hb _), w64_succ (by rw [maxLen_val]; omega), ih (i + 1) _ h (by simp; omega) (by omega)]
        cases allP partS (ps.drop (i + 1)) with
        | none => rfl
        | some l => simp
    · rw [cf (df (by omega)), List.drop_of_length_le (by omega)]
      simp [allP]
theorem ok : Spec := fun s hp => ⟨s.size + 100, fun N hN => by
  have hs : s.size ≤ 1048576 := of_decide_eq_true hp
  have h1 : spec_l1Split.P s 32 = true := hp
  have h2 : spec_l1Split.g s 32 = prtB s := prt_int s
  have hl := prt_len s
  simp only [Z0, Z1, Z2, Z3, Z4, Z5, lk_eq, g, parseS]
  cases he : strEq s ByteArray.empty
  · rw [cond_false, if_neg (by simp)]
    simp only [Z6, Z7]
    rw [ct h1, h2]
    simp only [Z8, Z9, Z10, Z11, Z12]
    refine (loop _ _ (ps := prtB s) (by omega) N 0 [] (Nat.zero_le _) (by simp; omega) (by omega)).trans ?_
    rw [List.drop_zero]
    cases hq : allP partS (prtB s) with
    | none => rfl
    | some l => rfl
  · rfl⟩
end spec_ParseInts
end
end Go.Fw
namespace Go.Fw
noncomputable section
variable {ρ : Type}
namespace strings_Split
noncomputable def g (s sep : ByteArray) : List ByteArray := Lib.splitB sep 0 (Lib.countB s sep) s
def P (s sep : ByteArray) : Bool := Nat.blt s.size 4294967281 && Nat.ble 1 sep.size
end strings_Split
namespace strings_Split
theorem ok : True := trivial
end strings_Split
end
end Go.Fw
namespace Go.Fw
noncomputable section
variable {ρ : Type}
namespace strconv_Atoi
def g (s : ByteArray) : Int × Bool := atoiW s
def P (s : ByteArray) : Bool := decide (s.size ≤ 1048576)
end strconv_Atoi
namespace strconv_Atoi
theorem ok : True := trivial
end strconv_Atoi
end
end Go.Fw
namespace Go.Fw
noncomputable section
variable {ρ : Type}
namespace impl_within
def g (n low high : Int) : Bool := inK n low high
end impl_within
namespace impl_within
def Z0 {ρ : Type} (N : Nat) (v0 v1 v2 : Int) (kr : Bool → Option ρ) : Option ρ :=
 cond (lk N (decide (v1 ≤ v0)))
 (
  kr (lk N (decide (v0 ≤ v2))))
 (
  kr false)
def Spec : Prop := ∀  (v0 v1 v2 : Int), ∃ N0, ∀ N, N0 ≤ N → Z0 N v0 v1 v2 (fun v6 => some ((), (v6, ()))) = some ((), ((g v0 v1 v2), ()))
theorem ok : Spec := fun n low high => ⟨0, fun N hN => by
  simp only [Z0, lk_eq, g, inK]
  cases decide (low ≤ n) <;> rfl⟩
end impl_within
end
end Go.Fw
namespace Go.Fw
noncomputable section
variable {ρ : Type}
namespace strconv_Itoa
noncomputable def g (n : Int) : ByteArray := itoaB n
def P (n : Int) : Bool := i64P n
end strconv_Itoa
namespace strconv_Itoa
theorem ok : True := trivial
end strconv_Itoa
end
end Go.Fw
namespace Go.Fw
noncomputable section
variable {ρ : Type}
namespace impl_FormatInt
noncomputable def g (n : Int) : ByteArray := itoaB n
def P (n : Int) : Bool := i64P n
end impl_FormatInt
namespace impl_FormatInt
def Z0 {ρ : Type} (N : Nat) (v0 : Int) (kr : ByteArray → Option ρ) : Option ρ :=
 cond (lk N (strconv_Itoa.P v0)) (
  kr (strconv_Itoa.g v0)) none
def Spec : Prop := ∀  (v0 : Int), P v0 = true → ∃ N0, ∀ N, N0 ≤ N → Z0 N v0 (fun v2 => some ((), (v2, ()))) = some ((), ((g v0), ()))
theorem ok : Spec := fun n hp => ⟨0, fun N hN => by
  simp only [Z0]
  rw [ct (show strconv_Itoa.P n = true from hp)]
  rfl⟩
end impl_FormatInt
end
end Go.Fw
namespace Go.Fw
noncomputable section
variable {ρ : Type}
namespace strings_Join
noncomputable def g (xs : List ByteArray) (sep : ByteArray) : ByteArray := ⟨(Lib.join (xs.map (·.data.toList)) sep.data.toList).toArray⟩
noncomputable def P (xs : List ByteArray) (sep : ByteArray) : Bool := Nat.ble xs.length 140737488355328 && Nat.ble (Lib.join (xs.map (·.data.toList)) sep.data.toList).length 140737488355328
end strings_Join
namespace strings_Join
theorem ok : True := trivial
end strings_Join
end
end Go.Fw
namespace Go.Fw
noncomputable section
variable {ρ : Type}
namespace impl_FormatInts
noncomputable def g (l : List Int) : ByteArray := itoasB l
def P (l : List Int) : Bool := rowP l
end impl_FormatInts
namespace impl_FormatInts
def Z1 {ρ : Type} (N : Nat) (v0 : LI) (kn : LI → Option ρ) : Option ρ :=
 kn v0
def Z3 {ρ : Type} (N : Nat) (v0 : LI) (kn : LI → Option ρ) : Option ρ :=
 kn v0
def Z6 {ρ : Type} (N : Nat) (v0 : LI) (kn : LI → I2 (Option ρ)) : Option ρ :=
 kn v0 (v0.length : Int) 0
def Z9 {ρ : Type} (N : Nat) (v3 : List ByteArray) (v6 : LI) (v7 v8 : Int) (kn : List ByteArray → LI → I2 (Option ρ)) (k0 : List ByteArray → Option ρ) : Option ρ :=
 cond (lk N (decide (v8 < v7)))
 (
  cond (lk N (inB v8 v6.length)) (
   cond (lk N (impl_FormatInt.P (v6.getD v8.toNat 0))) (
    cond (lk N (Nat.blt (v3.length + ([(impl_FormatInt.g (v6.getD v8.toNat 0))] : List ByteArray).length) 1099511627776)) (
     kn (v3 ++ ([(impl_FormatInt.g (v6.getD v8.toNat 0))] : List ByteArray)) v6 v7 (w64 (v8 + 1))) none) none) none)
 (
  k0 v3)
def Z8L {ρ : Type} (N : Nat) (k0 : List ByteArray → Option ρ) : Nat → List ByteArray → LI → Int → Int → Option ρ
  | 0, _, _, _, _ => none
  | M + 1, v3, v6, v7, v8 => Z9 N v3 v6 v7 v8 (fun v3 v6 v7 v8 => Z8L N k0 M v3 v6 v7 v8) k0
def Z8 N v6 v7 v8 k0 := (Z8L N k0 N ([] : List ByteArray) v6 v7 v8 : Option ρ)
def Z7 N v6 v7 v8 kn := (Z8 N v6 v7 v8 kn : Option ρ)
def Z5 N v0 kn := (Z6 N v0 (fun v6 v7 v8 => Z7 N v6 v7 v8 kn) : Option ρ)
def Z10 {ρ : Type} (N : Nat) (v3 : List ByteArray) (kr : ByteArray → Option ρ) : Option ρ :=
 cond (lk N (strings_Join.P v3 (⟨#[32]⟩ : ByteArray))) (
  kr (strings_Join.g v3 (⟨#[32]⟩ : ByteArray))) none
def Z4 N v0 kr := (Z5 N v0 (fun v3 => Z10 N v3 kr) : Option ρ)
def Z2 N v0 kr := (Z3 N v0 (fun v0 => Z4 N v0 kr) : Option ρ)
def Z0 N v0 kr := (Z1 N v0 (fun v0 => Z2 N v0 kr) : Option ρ)
def Spec : Prop := ∀  (v0 : LI), Ty.bd (.sl 0 (.int .i64)) v0 → P v0 = true → ∃ N0, ∀ N, N0 ≤ N → Z0 N v0 (fun v2 => some ((), (v2, ()))) = some ((), ((g v0), ()))
theorem loop {ρ : Type} {N : Nat} (k0 : List ByteArray → Option ρ) {l : List Int} (hp : rowP l = true) : ∀ (M j : Nat), j ≤ l.length → l.length - j < M → Z8L N k0 M ((l.take j).map itoaB) l (l.length : Int) (j : Int) = k0 (l.map itoaB) := by
  simp only [rowP, Bool.and_eq_true, decide_eq_true_eq] at hp
  intro M
  induction M with
  | zero => intro j _ h; omega
  | succ M ih =>
    intro j hj hM
    simp only [Z8L, Z9]
    by_cases h : j < l.length
    · have h1 : impl_FormatInt.P (l.getD j 0) = true := List.all_eq_true.1 hp.2 _ (getD_mem 0 h)
      have h2 : impl_FormatInt.g (l.getD j 0) = itoaB (l.getD j 0) := rfl
      have h3 : ∀ x : ByteArray, Nat.blt (((l.take j).map itoaB).length + ([x] : List ByteArray).length) 1099511627776 = true := fun x => Nat.ble_eq_true_of_le (by simp; omega)
      rw [ct (dt (by omega)), ct (inB_nat h), Int.toNat_natCast, ct h1, h2, ct (h3 _), w64_succ (by rw [maxLen_val]; omega)]
      have e : (l.take j).map itoaB ++ [itoaB (l.getD j 0)] = (l.take (j + 1)).map itoaB := by rw [← take_getD 0 h, List.map_append]; rfl
      rw [e]
      exact ih (j + 1) h (by omega)
    · rw [cf (df (by omega)), List.take_of_length_le (by omega)]
theorem ok : Spec := fun l hb hp => ⟨l.length + 1, fun N hN => by
  have hp' := hp
  simp only [P, rowP, Bool.and_eq_true, decide_eq_true_eq] at hp'
  simp only [Z1, Z3, Z6, Z9, Z8, Z7, Z5, Z10, Z4, Z2, Z0]
  refine (loop _ hp N 0 (Nat.zero_le _) (by omega)).trans ?_
  have e : ((l.map itoaB).map (·.data.toList)) = l.map Lib.itoa := by
    rw [List.map_map]
    exact List.map_congr_left fun n _ => itoaB_data n
  have hlen := itoas_len hp'.2
  have e2 : (⟨#[32]⟩ : ByteArray).data.toList = [32] := rfl
  have hP : strings_Join.P (l.map itoaB) ⟨#[32]⟩ = true := by
    simp only [strings_Join.P, e, e2, Bool.and_eq_true, List.length_map]
    exact ⟨Nat.ble_eq_true_of_le (by omega), Nat.ble_eq_true_of_le (show (itoasL l).length ≤ _ by omega)⟩
  have hg : strings_Join.g (l.map itoaB) ⟨#[32]⟩ = itoasB l := by
    simp only [strings_Join.g, e, e2]
    rfl
  rw [ct hP, hg]
  rfl⟩
end impl_FormatInts
end
end Go.Fw
namespace Go.Fw
noncomputable section
variable {ρ : Type}
namespace impl_ParseInts
def P (s : ByteArray) : Bool := decide (s.size ≤ 1048576)
noncomputable def g (s : ByteArray) : List Int × Bool := parseI s
end impl_ParseInts
namespace impl_ParseInts
def Z1 {ρ : Type} (N : Nat) (v0 : ByteArray) (kn : ByteArray → Option ρ) : Option ρ :=
 kn v0
def Z3 {ρ : Type} (N : Nat) (v0 : ByteArray) (kn : ByteArray → Option ρ) (kr : LI → Bool → Option ρ) : Option ρ :=
 cond (lk N (strEq v0 ByteArray.empty))
 (
  kr ([] : List Int) true)
 (
  kn v0)
def Z5 {ρ : Type} (N : Nat) (v0 : ByteArray) (kn : ByteArray → Option ρ) : Option ρ :=
 kn v0
def Z8 {ρ : Type} (N : Nat) (v0 : ByteArray) (kn : List ByteArray → ByteArray → I2 (Option ρ)) : Option ρ :=
 cond (lk N (strings_Split.P v0 (⟨#[32]⟩ : ByteArray))) (
  kn (strings_Split.g v0 (⟨#[32]⟩ : ByteArray)) v0 ((strings_Split.g v0 (⟨#[32]⟩ : ByteArray)).length : Int) 0) none
def Z11 {ρ : Type} (N : Nat) (v4 : LI) (v12 : List ByteArray) (v0 : ByteArray) (v13 v14 : Int) (kn : LI → List ByteArray → ByteArray → I2 (Option ρ)) (k0 : LI → ByteArray → Option ρ) (kr : LI → Bool → Option ρ) : Option ρ :=
 cond (lk N (decide (v14 < v13)))
 (
  cond (lk N (inB v14 v12.length)) (
   cond (lk N (strconv_Atoi.P (v12.getD v14.toNat ByteArray.empty))) (
    cond (lk N ((strconv_Atoi.g (v12.getD v14.toNat ByteArray.empty)).2))
    (
     kr ([] : List Int) false)
    (
     cond (lk N (decide (10 < ((v12.getD v14.toNat ByteArray.empty).size : Int))))
     (
      kr ([] : List Int) false)
     (
      cond (!(lk N ((impl_within.g (strconv_Atoi.g (v12.getD v14.toNat ByteArray.empty)).1 (-999999999) 999999999))))
      (
       kr ([] : List Int) false)
      (
       cond (lk N (Nat.blt (v4.length + ([(strconv_Atoi.g (v12.getD v14.toNat ByteArray.empty)).1] : List Int).length) 1099511627776)) (
        kn (v4 ++ ([(strconv_Atoi.g (v12.getD v14.toNat ByteArray.empty)).1] : List Int)) v12 v0 v13 (w64 (v14 + 1))) none)))) none) none)
 (
  k0 v4 v0)
def Z10L {ρ : Type} (N : Nat) (k0 : LI → ByteArray → Option ρ) (kr : LI → Bool → Option ρ) : Nat → LI → List ByteArray → ByteArray → Int → Int → Option ρ
  | 0, _, _, _, _, _ => none
  | M + 1, v4, v12, v0, v13, v14 => Z11 N v4 v12 v0 v13 v14 (fun v4 v12 v0 v13 v14 => Z10L N k0 kr M v4 v12 v0 v13 v14) k0 kr
def Z10 N v12 v0 v13 v14 k0 kr := (Z10L N k0 kr N ([] : List Int) v12 v0 v13 v14 : Option ρ)
def Z9 N v12 v0 v13 v14 kn kr := (Z10 N v12 v0 v13 v14 kn kr : Option ρ)
def Z7 N v0 kn kr := (Z8 N v0 (fun v12 v0 v13 v14 => Z9 N v12 v0 v13 v14 kn kr) : Option ρ)
def Z12 {ρ : Type} (N : Nat) (v4 : LI) (v0 : ByteArray) (kr : LI → Bool → Option ρ) : Option ρ :=
 cond (lk N (impl_FormatInts.P v4)) (
  cond (lk N (!(strEq (impl_FormatInts.g v4) v0)))
  (
   kr ([] : List Int) false)
  (
   kr v4 true)) none
def Z6 N v0 kr := (Z7 N v0 (fun v4 v0 => Z12 N v4 v0 kr) kr : Option ρ)
def Z4 N v0 kr := (Z5 N v0 (fun v0 => Z6 N v0 kr) : Option ρ)
def Z2 N v0 kr := (Z3 N v0 (fun v0 => Z4 N v0 kr) kr : Option ρ)
def Z0 N v0 kr := (Z1 N v0 (fun v0 => Z2 N v0 kr) : Option ρ)
def Spec : Prop := ∀  (v0 : ByteArray), P v0 = true → ∃ N0, ∀ N, N0 ≤ N → Z0 N v0 (fun v2 v3 => some ((), (v2, (v3, ())))) = some ((), ((g v0).1, ((g v0).2, ())))
theorem loop {ρ : Type} {N : Nat} (k0 : List Int → ByteArray → Option ρ) (kr : List Int → Bool → Option ρ) (s : ByteArray) {ps : List ByteArray} (hps : ps.length ≤ 2000000) (hsz : ∀ w ∈ ps, w.size ≤ 1048576) : ∀ (M i : Nat) (out : List Int), i ≤ ps.length → out.length + (ps.length - i) ≤ 2000000 → ps.length - i < M →
    Z10L N k0 kr M out ps s (ps.length : Int) (i : Int) = match allP partI (ps.drop i) with | some l => k0 (out ++ l) s | none => kr [] false := by
  intro M
  induction M with
  | zero => intro i out _ _ h; omega
  | succ M ih =>
    intro i out hi ho hM
    simp only [Z10L, Z11]
    by_cases h : i < ps.length
    · have hb : ∀ x : Int, Nat.blt (out.length + ([x] : List Int).length) 1099511627776 = true := fun x => Nat.ble_eq_true_of_le (by simp; omega)
      have hP : strconv_Atoi.P (ps.getD i ByteArray.empty) = true := dt (hsz _ (getD_mem (l := ps) _ h))
      have hg : strconv_Atoi.g (ps.getD i ByteArray.empty) = atoiW (ps.getD i ByteArray.empty) := rfl
      have hw : ∀ n : Int, impl_within.g n (-999999999) 999999999 = inK n (-999999999) 999999999 := fun n => rfl
      rw [ct (dt (by omega)), ct (inB_nat h), Int.toNat_natCast, ct hP, drop_getD (l := ps) ByteArray.empty h, allP, hg, lk_eq]
      rw [show partI (ps.getD i ByteArray.empty) = (if (atoiW (ps.getD i ByteArray.empty)).2 = true then none else if 10 < (ps.getD i ByteArray.empty).size then none else if inK (atoiW (ps.getD i ByteArray.empty)).1 (-999999999) 999999999 = true then some (atoiW (ps.getD i ByteArray.empty)).1 else none) from rfl]
      cases herr : (atoiW (ps.getD i ByteArray.empty)).2
      · rw [cond_false, if_neg (by simp)]
        by_cases h10 : 10 < (ps.getD i ByteArray.empty).size
        · rw [ct (dt (by omega)), if_pos h10]
        · rw [cf (df (by omega)), if_neg h10, hw, lk_eq]
          cases hin : inK (atoiW (ps.getD i ByteArray.empty)).1 (-999999999) 999999999
          · rw [if_neg (by simp)]
            rfl
          · rw [if_pos rfl, cf' (show (!true) = false from rfl), ct (hb _), w64_succ (by rw [maxLen_val]; omega), ih (i + 1) _ h (by simp; omega) (by omega)]
            cases allP partI (ps.drop (i + 1)) with
            | none => rfl
            | some l => simp
      · rw [cond_true, if_pos rfl]
    · rw [cf (df (by omega)), List.drop_of_length_le (by omega)]
      simp [allP]
theorem allP_len {f : ByteArray → Option Int} : ∀ {ws : List ByteArray} {l : List Int}, allP f ws = some l → l.length = ws.length ∧ ∀ n ∈ l, ∃ w ∈ ws, f w = some n
  | [], l, h => by
    injection h with h
    subst h
    exact ⟨rfl, fun n hn => by cases hn⟩
  | w :: ws, l, h => by
    rw [allP] at h
    cases hw : f w with
    | none => rw [hw] at h; cases h
    | some n =>
      rw [hw] at h
      cases hr : allP f ws with
      | none => rw [hr] at h; cases h
      | some m =>
        rw [hr] at h
        injection h with h
        subst h
        obtain ⟨a, b⟩ := allP_len hr
        refine ⟨by simp [a], fun x hx => ?_⟩
        rcases List.mem_cons.1 hx with rfl | hx
        · exact ⟨w, List.mem_cons_self .., hw⟩
        · obtain ⟨v, hv, e⟩ := b x hx
          exact ⟨v, List.mem_cons_of_mem _ hv, e⟩
theorem ok : Spec := fun s hp => ⟨s.size + 100, fun N hN => by
  have hs : s.size ≤ 1048576 := of_decide_eq_true hp
  have h1 : strings_Split.P s ⟨#[32]⟩ = true := by
    simp only [strings_Split.P, Bool.and_eq_true]
    exact ⟨Nat.ble_eq_true_of_le (by omega), rfl⟩
  have h2 : strings_Split.g s ⟨#[32]⟩ = prtB s := split_one s 32
  have hl := prt_len s
  simp only [Z0, Z1, Z2, Z3, lk_eq, g, parseI]
  cases he : strEq s ByteArray.empty
  · rw [cond_false, if_neg (by simp)]
    simp only [Z4, Z5, Z6, Z7, Z8]
    rw [ct h1, h2]
    simp only [Z9, Z10]
    refine (loop _ _ s (ps := prtB s) (by omega) (fun w hw => Nat.le_trans (prt_size s w hw) hs) N 0 [] (Nat.zero_le _) (by simp; omega) (by omega)).trans ?_
    rw [List.drop_zero]
    cases hq : allP partI (prtB s) with
    | none => rfl
    | some l =>
      obtain ⟨ha, hb⟩ := allP_len hq
      have hR : impl_FormatInts.P l = true := by
        show rowP l = true
        simp only [rowP, Bool.and_eq_true, decide_eq_true_eq, List.all_eq_true]
        refine ⟨by omega, fun n hn => ?_⟩
        obtain ⟨w, _, e⟩ := hb n hn
        exact partI_range e
      simp only [Z12, List.nil_append]
      rw [ct hR]
      have hgf : impl_FormatInts.g l = itoasB l := rfl
      rw [hgf, lk_eq]
      cases strEq (itoasB l) s <;> rfl
  · rfl⟩
end impl_ParseInts
end
end Go.Fw
namespace Go.Fw
noncomputable section
variable {ρ : Type}
namespace laws_eqIntS
def g (a b : List Int) : Bool := decide (a = b)
end laws_eqIntS
namespace laws_eqIntS
def Z1 {ρ : Type} (N : Nat) (v0 v1 : LI) (kn : LI → LI → Option ρ) : Option ρ :=
 kn v0 v1
def Z3 {ρ : Type} (N : Nat) (v0 v1 : LI) (kn : LI → LI → Option ρ) (kr : Bool → Option ρ) : Option ρ :=
 cond (lk N (!(decide ((v0.length : Int) = (v1.length : Int)))))
 (
  kr false)
 (
  kn v0 v1)
def Z6 {ρ : Type} (N : Nat) (v0 v1 : LI) (kn : LI → LI → Int → Option ρ) : Option ρ :=
 kn v0 v1 0
def Z9 {ρ : Type} (N : Nat) (v0 v1 : LI) (v5 : Int) (kn : LI → LI → Int → Option ρ) (k0 : Option ρ) (kr : Bool → Option ρ) : Option ρ :=
 cond (lk N (decide (v5 < (v0.length : Int))))
 (
  cond (lk N (inB v5 v0.length)) (
   cond (lk N (inB v5 v1.length)) (
    cond (lk N (!(decide ((v0.getD v5.toNat 0) = (v1.getD v5.toNat 0)))))
    (
     kr false)
    (
     kn v0 v1 (w64 (v5 + 1)))) none) none)
 (
  k0)
def Z8L {ρ : Type} (N : Nat) (k0 : Option ρ) (kr : Bool → Option ρ) : Nat → LI → LI → Int → Option ρ
  | 0, _, _, _ => none
  | M + 1, v0, v1, v5 => Z9 N v0 v1 v5 (fun v0 v1 v5 => Z8L N k0 kr M v0 v1 v5) k0 kr
def Z8 N v0 v1 v5 k0 kr := (Z8L N k0 kr N v0 v1 v5 : Option ρ)
def Z7 N v0 v1 v5 kn kr := (Z8 N v0 v1 v5 kn kr : Option ρ)
def Z5 N v0 v1 kn kr := (Z6 N v0 v1 (fun v0 v1 v5 => Z7 N v0 v1 v5 kn kr) : Option ρ)
def Z10 {ρ : Type} (N : Nat)  (kr : Bool → Option ρ) : Option ρ :=
 kr true
def Z4 N v0 v1 kr := (Z5 N v0 v1 (Z10 N kr) kr : Option ρ)
def Z2 N v0 v1 kr := (Z3 N v0 v1 (fun v0 v1 => Z4 N v0 v1 kr) kr : Option ρ)
def Z0 N v0 v1 kr := (Z1 N v0 v1 (fun v0 v1 => Z2 N v0 v1 kr) : Option ρ)
def Spec : Prop := ∀  (v0 v1 : LI), Ty.bd (.sl 0 (.int .i64)) v0 → Ty.bd (.sl 0 (.int .i64)) v1 → ∃ N0, ∀ N, N0 ≤ N → Z0 N v0 v1 (fun v4 => some ((), (v4, ()))) = some ((), ((g v0 v1), ()))
theorem loop {ρ : Type} (N : Nat) (k0 : Option ρ) (kr : Bool → Option ρ) (a b : List Int) (hl : a.length = b.length) (ha : a.length ≤ maxLen) : ∀ (M j : Nat), j ≤ a.length → a.length - j < M →
    Z8L N k0 kr M a b (j : Int) = if a.drop j = b.drop j then k0 else kr false := by
  intro M
  induction M with
  | zero => intro j _ h; omega
  | succ M ih =>
    intro j hj hM
    simp only [Z8L, Z9]
    by_cases h : j < a.length
    · rw [ct (dt (by omega)), ct (inB_nat h), ct (inB_nat (by omega)), Int.toNat_natCast, w64_succ (by omega), ih (j + 1) h (by omega), drop_getD 0 h, drop_getD (l := b) (j := j) 0 (by omega)]
      by_cases e : a.getD j 0 = b.getD j 0
      · rw [cf (nf e), e]
        simp only [List.cons.injEq, true_and]
      · rw [ct (nt e), if_neg (by simp only [List.cons.injEq]; exact fun h => e h.1)]
    · rw [cf (df (by omega)), if_pos (by rw [List.drop_of_length_le (by omega), List.drop_of_length_le (by omega)])]
theorem ok : Spec := fun a b ha hb => ⟨a.length + 1, fun N hN => by
  simp only [Z1, Z3, Z6, Z9, Z8, Z7, Z5, Z10, Z4, Z2, Z0]
  by_cases hl : a.length = b.length
  · rw [cf (nf (by omega))]
    rw [show (0 : Int) = ((0 : Nat) : Int) from rfl, loop _ _ _ a b hl ha.1 N 0 (by omega) (by omega)]
    by_cases e : a = b <;> simp [e, g]
  · rw [ct (nt (by omega))]
    have : a ≠ b := fun e => hl (by rw [e])
    simp [g, this]⟩
end laws_eqIntS
end
end Go.Fw
namespace Go.Fw
noncomputable section
variable {ρ : Type}
namespace laws_FnExactParseInts
def g (_ : ByteArray) : Bool := true
end laws_FnExactParseInts
namespace laws_FnExactParseInts
def Z1 {ρ : Type} (N : Nat) (v0 : ByteArray) (kn : ByteArray → Option ρ) : Option ρ :=
 kn v0
def Z3 {ρ : Type} (N : Nat) (v0 : ByteArray) (kn : ByteArray → Option ρ) (kr : Bool → Option ρ) : Option ρ :=
 cond (lk N (decide (1048576 < (v0.size : Int))))
 (
  kr true)
 (
  kn v0)
def Z5 {ρ : Type} (N : Nat) (v0 : ByteArray) (kn : LI → ByteArray → Bool → Option ρ) : Option ρ :=
 cond (lk N (spec_ParseInts.P v0)) (
  kn (spec_ParseInts.g v0).1 v0 (lk N ((spec_ParseInts.g v0).2))) none
def Z7 {ρ : Type} (N : Nat) (v3 : LI) (v0 : ByteArray) (v4 : Bool) (kn : LI → LI → ByteArray → Bool → Bool → Option ρ) : Option ρ :=
 cond (lk N (impl_ParseInts.P v0)) (
  kn v3 (impl_ParseInts.g v0).1 v0 v4 (lk N ((impl_ParseInts.g v0).2))) none
def Z9 {ρ : Type} (N : Nat) (v3 v5 : LI) (v0 : ByteArray) (v4 v6 : Bool) (kn : LI → LI → ByteArray → Bool → Option ρ) (kr : Bool → Option ρ) : Option ρ :=
 cond (!(lk N ((laws_eqIntS.g v5 v3))))
 (
  kr false)
 (
  cond (lk N (!((v6 == v4))))
  (
   kr false)
  (
   kn v3 v5 v0 v4))
def Z10 {ρ : Type} (N : Nat) (v3 v5 : LI) (v0 : ByteArray) (v4 : Bool) (kr : Bool → Option ρ) : Option ρ :=
 cond (lk N (decide ((laws_heldIntS.g (laws_markIntS.g v5 1).1 1) < 0)))
 (
  kr false)
 (
  cond (lk N (!(decide ((laws_heldIntS.g (laws_markIntS.g v5 1).1 1) = (laws_markIntS.g v5 1).2))))
  (
   kr false)
  (
   cond (lk N (impl_ParseInts.P v0)) (
    cond (!(lk N ((laws_eqIntS.g (impl_ParseInts.g v0).1 v3))))
    (
     kr false)
    (
     cond (lk N (!(((lk N ((impl_ParseInts.g v0).2)) == v4))))
     (
      kr false)
     (
      cond (lk N (decide ((laws_heldIntS.g (laws_markIntS.g v5 1).1 1) < 0)))
      (
       kr false)
      (
       cond (lk N (!(decide ((laws_heldIntS.g (laws_markIntS.g v5 1).1 1) = (laws_markIntS.g v5 1).2))))
       (
        kr false)
       (
        kr true))))) none))
def Z8 N v3 v5 v0 v4 v6 kr := (Z9 N v3 v5 v0 v4 v6 (fun v3 v5 v0 v4 => Z10 N v3 v5 v0 v4 kr) kr : Option ρ)
def Z6 N v3 v0 v4 kr := (Z7 N v3 v0 v4 (fun v3 v5 v0 v4 v6 => Z8 N v3 v5 v0 v4 v6 kr) : Option ρ)
def Z4 N v0 kr := (Z5 N v0 (fun v3 v0 v4 => Z6 N v3 v0 v4 kr) : Option ρ)
def Z2 N v0 kr := (Z3 N v0 (fun v0 => Z4 N v0 kr) kr : Option ρ)
def Z0 N v0 kr := (Z1 N v0 (fun v0 => Z2 N v0 kr) : Option ρ)
def Spec : Prop := ∀  (v0 : ByteArray), ∃ N0, ∀ N, N0 ≤ N → Z0 N v0 (fun v2 => some ((), (v2, ()))) = some ((), ((g v0), ()))
theorem ok : Spec := fun s => ⟨0, fun N hN => by
  by_cases h0 : (1048576 : Int) < s.size
  · simp only [Z1, Z3, Z5, Z7, Z9, Z10, Z8, Z6, Z4, Z2, Z0]
    rw [ct (dt h0)]
    rfl
  have hP : spec_ParseInts.P s = true := dt (show s.size ≤ 1048576 by omega)
  have hQ : impl_ParseInts.P s = true := dt (show s.size ≤ 1048576 by omega)
  have he : impl_ParseInts.g s = spec_ParseInts.g s := parse_same s
  have hlen : (spec_ParseInts.g s).1.length ≤ 2000000 := by
    show (parseS s).1.length ≤ 2000000
    have hl := prt_len s
    unfold parseS
    split
    · decide
    · cases hq : allP partS (prtB s) with
      | none => decide
      | some l =>
        obtain ⟨_, hm⟩ := allP_SI hq
        have := congrArg List.length hm
        rw [List.length_map] at this
        show l.length ≤ _
        omega
  generalize hr : spec_ParseInts.g s = r at he hlen
  obtain ⟨l, b⟩ := r
  have hlen : l.length ≤ 2000000 := hlen
  have hmk : ¬ (laws_markIntS.g l 1).2 < 0 := by
    have e : (laws_markIntS.g l 1).2 = 1 + l.length := laws_markIntS.mk_end l 1 (by omega) (by omega)
    omega
  have hid := heldInt_mark l 1
  simp only [Z1, Z3, Z5, Z7, Z9, Z10, Z8, Z6, Z4, Z2, Z0, lk_eq, hr, he, hP, hQ, laws_eqIntS.g, df h0, hid, df hmk, g, decide_true, Bool.not_true, cond_true, cond_false, beq_self_eq_true]⟩
end laws_FnExactParseInts
end
end Go.Fw
