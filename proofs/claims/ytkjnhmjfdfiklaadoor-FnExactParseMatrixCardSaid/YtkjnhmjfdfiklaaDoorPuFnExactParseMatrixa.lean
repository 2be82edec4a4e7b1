/- The plain part: what the functions compute, in lists and numbers. Nothing is assumed. -/
import Derived.Test.YtkjnhmjfdfiklaaDoorFwc
import Derived.Lib.SplitLaws
import Derived.Lib.ItoaLen
import Derived.Lib.AtoiAll
import Derived.Lib.Join
set_option linter.unusedVariables false
namespace Go.Fw
def lexLt : List Int → List Int → Bool
  | [], [] => false
  | [], _ :: _ => true
  | _ :: _, [] => false
  | x :: xs, y :: ys => if x = y then lexLt xs ys else decide (x < y)
def lexCmp : List Int → List Int → Int
  | [], [] => 0
  | [], _ :: _ => -1
  | _ :: _, [] => 1
  | x :: xs, y :: ys => if x = y then lexCmp xs ys else if x < y then -1 else 1
theorem lexCmp_le : ∀ a b : List Int, decide (lexCmp a b ≤ 0) = !(lexLt b a)
  | [], [] => rfl
  | [], _ :: _ => rfl
  | _ :: _, [] => rfl
  | x :: xs, y :: ys => by
    rw [lexCmp, lexLt]
    by_cases h : x = y
    · rw [if_pos h, if_pos h.symm, lexCmp_le xs ys]
    · rw [if_neg h, if_neg (show ¬ y = x from fun e => h e.symm)]
      by_cases h2 : x < y
      · rw [if_pos h2, df (show ¬ y < x by omega)]; rfl
      · rw [if_neg h2, dt (show y < x by omega)]; rfl
theorem lexCmp_lt : ∀ a b : List Int, decide (lexCmp a b < 0) = lexLt a b
  | [], [] => rfl
  | [], _ :: _ => rfl
  | _ :: _, [] => rfl
  | x :: xs, y :: ys => by
    rw [lexCmp, lexLt]
    by_cases h : x = y
    · rw [if_pos h, if_pos h, lexCmp_lt xs ys]
    · rw [if_neg h, if_neg h]
      by_cases h2 : x < y
      · rw [if_pos h2, dt h2]; rfl
      · rw [if_neg h2, df h2]; rfl
def inK (n lo hi : Int) : Bool := decide (lo ≤ n) && decide (n ≤ hi)
def expK (vars : Int) (e : List Int) : Bool := decide ((e.length : Int) = vars) && e.all fun x => inK x (-20) 20
def coefK (c : Int) : Bool := !(decide (c = 0)) && inK c (-1000000) 1000000
def prevE (l : List (List Int × Int)) : Nat → Option (List Int)
  | 0 => none
  | j + 1 => some (l.getD j ([], 0)).1
def belowK : Option (List Int) → List Int → Bool
  | none, _ => true
  | some p, e => lexLt e p
def termsK (vars : Int) : List (List Int × Int) → Option (List Int) → Bool
  | [], _ => true
  | t :: ts, p => expK vars t.1 && (coefK t.2 && (belowK p t.1 && termsK vars ts (some t.1)))
def lokK (f : Int × List (List Int × Int)) : Bool := inK f.1 1 8 && (decide (f.2.length ≤ 600) && termsK f.1 f.2 none)
end Go.Fw
namespace Go.Fw
def upto {α : Type} (n j : Nat) (F G : Nat → α) : List α := (List.range n).map fun i => if i < j then F i else G i
section
variable {α : Type} {n j : Nat} {F G : Nat → α}
theorem upto_len : (upto n j F G).length = n := by simp [upto]
theorem map_getD {i : Nat} (h : i < n) (d : α) : ((List.range n).map F).getD i d = F i := by
  rw [List.getD_eq_getElem?_getD, List.getElem?_map, List.getElem?_range h]
  rfl
theorem upto_get {i : Nat} (h : i < n) (d : α) : (upto n j F G).getD i d = if i < j then F i else G i := map_getD h d
theorem upto_set (h : j < n) : (upto n j F G).set j (F j) = upto n (j + 1) F G := by
  apply List.ext_getElem?
  intro i
  by_cases hi : i < n
  · by_cases e : j = i
    · subst e
      rw [List.getElem?_set_self (by rw [upto_len]; exact h)]
      simp [upto, List.getElem?_map, List.getElem?_range h]
    · rw [List.getElem?_set_ne e]
      simp only [upto, List.getElem?_map, List.getElem?_range hi, Option.map_some]
      by_cases h1 : i < j
      · rw [if_pos h1, if_pos (by omega)]
      · rw [if_neg h1, if_neg (by omega)]
  · rw [List.getElem?_eq_none (by rw [List.length_set, upto_len]; omega), List.getElem?_eq_none (by rw [upto_len]; omega)]
theorem upto_zero : upto n 0 F G = (List.range n).map G := by simp [upto]
theorem upto_full : upto n n F G = (List.range n).map F := by
  unfold upto
  apply List.map_congr_left
  intro i hi
  rw [if_pos (List.mem_range.1 hi)]
theorem list_map {l : List α} (d : α) (h : l.length = n) : (List.range n).map (fun i => l.getD i d) = l := by
  apply List.ext_getElem?
  intro i
  by_cases hi : i < n
  · rw [List.getElem?_map, List.getElem?_range hi, Option.map_some, List.getD_eq_getElem?_getD, List.getElem?_eq_getElem (by omega), Option.getD_some]
  · rw [List.getElem?_eq_none (by simp; omega), List.getElem?_eq_none (by omega)]
end
end Go.Fw
namespace Go.Fw
def partsK (p : UInt8 → Bool) : List UInt8 → List (List UInt8)
  | [] => [[]]
  | b :: l => if p b = true then [] :: partsK p l else match partsK p l with
    | h :: t => (b :: h) :: t
    | [] => [[b]]
theorem parts_ne (p : UInt8 → Bool) : ∀ l, partsK p l ≠ []
  | [] => by simp [partsK]
  | b :: l => by
    rw [partsK]
    split
    · simp
    · split <;> simp
def glue (a : List UInt8) : List (List UInt8) → List (List UInt8)
  | h :: t => (a ++ h) :: t
  | [] => [a]
theorem glue_nil {q : List (List UInt8)} (h : q ≠ []) : glue [] q = q := by
  cases q with
  | nil => exact absurd rfl h
  | cons x xs => rfl
theorem glue_sep {p : UInt8 → Bool} {b : UInt8} (h : p b = true) (a l : List UInt8) : glue a (partsK p (b :: l)) = a :: partsK p l := by
  rw [partsK, if_pos h]
  simp [glue]
theorem glue_go {p : UInt8 → Bool} {b : UInt8} (h : p b = false) (a l : List UInt8) : glue a (partsK p (b :: l)) = glue (a ++ [b]) (partsK p l) := by
  rw [partsK, if_neg (by simp [h])]
  have := parts_ne p l
  cases hq : partsK p l with
  | nil => exact absurd hq this
  | cons x xs => simp [glue]
theorem splitK_parts (c : UInt8) : ∀ l : List UInt8, Lib.splitK [c] 0 (l.count c) l = partsK (fun b => b == c) l
  | [] => rfl
  | b :: l => by
    have ih := splitK_parts c l
    rw [partsK]
    by_cases h : b = c
    · subst h
      have hi : Lib.index (b :: l) [b] = 0 := by unfold Lib.index; simp
      rw [List.count_cons_self, Lib.splitK, if_neg (by rw [hi]; decide), if_pos (by simp), hi, ← ih]
      rfl
    · have hp : ([c] : List UInt8).isPrefixOf (b :: l) = false := by simp [List.isPrefixOf]; exact fun e => h e.symm
      have hi : Lib.index (b :: l) [c] = if Lib.index l [c] == -1 then -1 else Lib.index l [c] + 1 := by
        conv => lhs; unfold Lib.index
        rw [hp]
        simp
      rw [List.count_cons_of_ne h, if_neg (by simpa using h), ← ih]
      cases hk : l.count c with
      | zero => rfl
      | succ k =>
        rw [Lib.splitK, Lib.splitK, hi]
        by_cases hm : (Lib.index l [c] == -1) = true
        · rw [if_pos hm, if_pos (by decide), if_pos hm]
        · have hge := Lib.index_ge l [c]
          have hne : Lib.index l [c] ≠ -1 := fun e => hm (beq_iff_eq.2 e)
          obtain ⟨i, hx⟩ := Int.eq_ofNat_of_zero_le (show 0 ≤ Lib.index l [c] by omega)
          rw [if_neg hm, hx, if_neg (by simp; omega), if_neg (by simp)]
          have e : ((i : Int) + 1).toNat = i + 1 := by omega
          simp only [e, Int.toNat_natCast, Nat.add_zero, List.length_singleton, List.take_succ_cons, List.drop_succ_cons]
def baOf (l : List UInt8) : ByteArray := ⟨l.toArray⟩
theorem baOf_data (s : ByteArray) : baOf s.data.toList = s := by simp [baOf]
theorem split_one (s : ByteArray) (c : UInt8) : Lib.splitB ⟨#[c]⟩ 0 (Lib.countB s ⟨#[c]⟩) s = (partsK (fun b => b == c) s.data.toList).map baOf := by
  have h1 : Lib.countB s ⟨#[c]⟩ = s.data.toList.count c := Lib.count_one c _
  have h2 := Lib.splitB_data ⟨#[c]⟩ 0 (s.data.toList.count c) s
  rw [splitK_parts] at h2
  rw [h1, ← h2, List.map_map]
  conv => lhs; rw [← List.map_id (Lib.splitB _ _ _ _)]
  exact List.map_congr_left fun x _ => (baOf_data x).symm
theorem parts_len (p : UInt8 → Bool) : ∀ l, (partsK p l).length ≤ l.length + 1
  | [] => by simp [partsK]
  | b :: l => by
    have := parts_len p l
    rw [partsK]
    split
    · simp; omega
    · split
      · rename_i hq
        rw [hq] at this
        simp at this ⊢
        omega
      · simp
end Go.Fw
namespace Go.Fw
noncomputable def itoaB (n : Int) : ByteArray := ⟨(Lib.itoa n).toArray⟩
noncomputable def lsd (u : Nat) : List Int := (Lib.decDigits u).reverse.map fun b => (b.toNat : Int)
theorem u8_dig {t : Nat} (h : t < 10) : ((UInt8.ofNat (48 + t)).toNat : Int) = 48 + (t : Int) := by
  rw [UInt8.toNat_ofNat']
  omega
theorem lsd_small {u : Nat} (h : u < 10) : lsd u = [48 + (u : Int)] := by
  rw [lsd, Lib.decDigits, dif_pos h]
  simp only [List.reverse_cons, List.reverse_nil, List.nil_append, List.map_cons, List.map_nil]
  rw [u8_dig h]
theorem lsd_big {u : Nat} (h : ¬ u < 10) : lsd u = (48 + ((u % 10 : Nat) : Int)) :: lsd (u / 10) := by
  rw [lsd, Lib.decDigits, dif_neg h, List.reverse_append]
  simp only [List.reverse_cons, List.reverse_nil, List.nil_append, List.singleton_append, List.map_cons]
  rw [u8_dig (Nat.mod_lt _ (by omega))]
  rfl
theorem nums_of_bytes (l : List UInt8) : strOfNums (l.map fun b => (b.toNat : Int)) = ⟨l.toArray⟩ := by
  unfold strOfNums
  rw [List.map_map]
  congr 2
  conv => rhs; rw [← List.map_id l]
  apply List.map_congr_left
  intro b _
  simp
theorem nums_lsd (u : Nat) : strOfNums (lsd u).reverse = ⟨(Lib.decDigits u).toArray⟩ := by
  rw [lsd, ← List.map_reverse, List.reverse_reverse, nums_of_bytes]
theorem nums_neg (u : Nat) : strOfNums (45 :: (lsd u).reverse) = ⟨(45 :: Lib.decDigits u).toArray⟩ := by
  rw [lsd, ← List.map_reverse, List.reverse_reverse]
  exact nums_of_bytes (45 :: Lib.decDigits u)
theorem tmod_nat (k : Int) : Int.tmod k 10 = if k < 0 then -((k.natAbs % 10 : Nat) : Int) else ((k.natAbs % 10 : Nat) : Int) := by
  split
  · rename_i h
    obtain ⟨u, rfl⟩ : ∃ u : Nat, k = -(u : Int) := ⟨k.natAbs, by omega⟩
    rw [Int.neg_tmod, Int.natAbs_neg, Int.natAbs_natCast]
    rfl
  · rename_i h
    obtain ⟨u, rfl⟩ : ∃ u : Nat, k = (u : Int) := ⟨k.toNat, by omega⟩
    rw [Int.natAbs_natCast]
    rfl
theorem tdiv_nat (k : Int) : Int.tdiv k 10 = if k < 0 then -((k.natAbs / 10 : Nat) : Int) else ((k.natAbs / 10 : Nat) : Int) := by
  split
  · rename_i h
    obtain ⟨u, rfl⟩ : ∃ u : Nat, k = -(u : Int) := ⟨k.natAbs, by omega⟩
    rw [Int.neg_tdiv, Int.natAbs_neg, Int.natAbs_natCast]
    rfl
  · rename_i h
    obtain ⟨u, rfl⟩ : ∃ u : Nat, k = (u : Int) := ⟨k.toNat, by omega⟩
    rw [Int.natAbs_natCast]
    rfl
theorem w8_id {n : Int} (h0 : 0 ≤ n) (h1 : n < 256) : w8 n = n := by
  unfold w8
  rw [IntKind.wrap_u8]
  omega
theorem dig_pos {k : Int} (h : ¬ Int.tmod k 10 < 0) : w8 (w64 (48 + Int.tmod k 10)) = 48 + ((k.natAbs % 10 : Nat) : Int) := by
  have hm : k.natAbs % 10 < 10 := Nat.mod_lt _ (by omega)
  have e : Int.tmod k 10 = ((k.natAbs % 10 : Nat) : Int) := by
    rw [tmod_nat] at h ⊢
    split
    · rename_i hk
      rw [if_pos hk] at h
      omega
    · rfl
  rw [e, w64_id (by omega) (by omega), w8_id (by omega) (by omega)]
theorem dig_neg {k : Int} (h : Int.tmod k 10 < 0) : w8 (w64 (48 + w64 (0 - Int.tmod k 10))) = 48 + ((k.natAbs % 10 : Nat) : Int) := by
  have hm : k.natAbs % 10 < 10 := Nat.mod_lt _ (by omega)
  have e : Int.tmod k 10 = -((k.natAbs % 10 : Nat) : Int) := by
    rw [tmod_nat] at h ⊢
    split
    · rfl
    · rename_i hk
      rw [if_neg hk] at h
      omega
  have e1 : w64 (0 - -((k.natAbs % 10 : Nat) : Int)) = ((k.natAbs % 10 : Nat) : Int) := by rw [w64_id (by omega) (by omega)]; omega
  rw [e, e1, w64_id (by omega) (by omega), w8_id (by omega) (by omega)]
theorem natAbs_tdiv (k : Int) : (Int.tdiv k 10).natAbs = k.natAbs / 10 := by
  rw [tdiv_nat]
  split <;> omega
end Go.Fw
namespace Go.Fw
def atoiW (s : ByteArray) : Int × Bool := match Lib.atoiAll s.data.toList with
  | .ok n => (n, false)
  | .range => (Lib.atoiSat s.data.toList, true)
  | _ => (0, true)
end Go.Fw
namespace Go.Fw
theorem ba_app (a b : List UInt8) : (⟨a.toArray⟩ : ByteArray) ++ ⟨b.toArray⟩ = ⟨(a ++ b).toArray⟩ := by
  apply ByteArray.ext
  simp
theorem itoaB_data (n : Int) : (itoaB n).data.toList = Lib.itoa n := by simp [itoaB]
theorem itoaB_size {n : Int} (h : i64P n = true) : (itoaB n).size ≤ 21 := by
  simp only [i64P, Bool.and_eq_true, decide_eq_true_eq] at h
  have := Lib.itoa_length_le n h.1 h.2
  show (Lib.itoa n).toArray.size ≤ 21
  simpa using this
noncomputable def itoasL (l : List Int) : List UInt8 := Lib.join (l.map Lib.itoa) [32]
noncomputable def itoasB (l : List Int) : ByteArray := ⟨(itoasL l).toArray⟩
theorem itoas_snoc {l : List Int} (h : l ≠ []) (n : Int) : itoasL (l ++ [n]) = itoasL l ++ [32] ++ Lib.itoa n := by
  unfold itoasL Lib.join
  cases l with
  | nil => exact absurd rfl h
  | cons x xs =>
    rw [List.map_append, List.map_cons, List.map_cons, List.map_nil]
    induction xs generalizing x with
    | nil => simp [List.intercalate, List.intersperse]
    | cons y ys ih =>
      have := ih y (by simp)
      simp only [List.map_cons, List.cons_append, List.intercalate, List.intersperse, List.flatten_cons, List.append_assoc] at this ⊢
      rw [this]
theorem itoas_one (n : Int) : itoasL [n] = Lib.itoa n := by simp [itoasL, Lib.join, List.intercalate]
theorem itoas_nil : itoasL [] = [] := rfl
theorem itoas_len {l : List Int} (h : l.all i64P = true) : (itoasL l).length ≤ 22 * l.length := by
  have key : ∀ j, j ≤ l.length → (itoasL (l.take j)).length ≤ 22 * j := by
    intro j
    induction j with
    | zero => intro _; simp [itoas_nil]
    | succ j ih =>
      intro hj
      have h2 : i64P (l.getD j 0) = true := List.all_eq_true.1 h _ (getD_mem 0 hj)
      have hn : (Lib.itoa (l.getD j 0)).length ≤ 21 := by
        simp only [i64P, Bool.and_eq_true, decide_eq_true_eq] at h2
        exact Lib.itoa_length_le _ h2.1 h2.2
      have := ih (by omega)
      rw [← take_getD 0 hj]
      by_cases he : l.take j = []
      · rw [he, List.nil_append, itoas_one]
        omega
      · rw [itoas_snoc he]
        simp only [List.length_append, List.length_cons, List.length_nil]
        omega
  have := key l.length (Nat.le_refl _)
  rwa [List.take_length] at this
def rowP (l : List Int) : Bool := decide (l.length ≤ 2097152) && l.all i64P
end Go.Fw
namespace Go.Fw
theorem join_snoc {xs : List (List UInt8)} (h : xs ≠ []) (x sep : List UInt8) : Lib.join (xs ++ [x]) sep = Lib.join xs sep ++ sep ++ x := by
  cases xs with
  | nil => exact absurd rfl h
  | cons y ys =>
    rw [List.cons_append, Lib.join_cons, Lib.join_cons]
    simp [Lib.joinTail, List.append_assoc]
theorem join_len {B : Nat} {sep : List UInt8} : ∀ {xs : List (List UInt8)}, (∀ x ∈ xs, x.length ≤ B) → (Lib.join xs sep).length ≤ (B + sep.length) * xs.length
  | [], _ => by simp [Lib.join_nil]
  | y :: ys, h => by
    have hy := h y (List.mem_cons_self ..)
    have ht : ∀ (zs : List (List UInt8)), (∀ z ∈ zs, z.length ≤ B) → (Lib.joinTail sep zs).length ≤ (B + sep.length) * zs.length := by
      intro zs
      induction zs with
      | nil => intro _; simp [Lib.joinTail]
      | cons z zs ih =>
        intro hz
        have h1 := hz z (List.mem_cons_self ..)
        have h2 := ih fun x hx => hz x (List.mem_cons_of_mem _ hx)
        have e : (Lib.joinTail sep (z :: zs)).length = sep.length + z.length + (Lib.joinTail sep zs).length := by simp [Lib.joinTail, List.length_append]; omega
        rw [e, List.length_cons, Nat.mul_succ]
        omega
    have := ht ys fun x hx => h x (List.mem_cons_of_mem _ hx)
    rw [Lib.join_cons, List.length_append, List.length_cons, Nat.mul_succ]
    omega
noncomputable def txt (l : List UInt8) : ByteArray := ⟨l.toArray⟩
theorem txt_size (l : List UInt8) : (txt l).size = l.length := by simp [txt, ByteArray.size]
theorem txt_data (l : List UInt8) : (txt l).data.toList = l := by simp [txt]
theorem txt_app (a b : List UInt8) : txt a ++ txt b = txt (a ++ b) := ba_app a b
theorem itoasB_txt (l : List Int) : itoasB l = txt (itoasL l) := rfl
theorem itoaB_txt (n : Int) : itoaB n = txt (Lib.itoa n) := rfl
theorem map_txt (xs : List (List UInt8)) : (xs.map txt).map (·.data.toList) = xs := by
  rw [List.map_map]
  conv => rhs; rw [← List.map_id xs]
  exact List.map_congr_left fun x _ => txt_data x
end Go.Fw
namespace Go.Fw
def atP (m : Int × Int × List Int) (i j : Int) : Bool := decide (0 ≤ i) && (decide (0 ≤ j) && (decide (0 ≤ m.1) && decide (i * m.1 + j < (m.2.2.length : Int))))
def atK (m : Int × Int × List Int) (i j : Int) : Int := m.2.2.getD (i * m.1 + j).toNat 0
theorem at_index {m : Int × Int × List Int} {i j : Int} (hl : m.2.2.length ≤ maxLen) (h : atP m i j = true) : w64 (w64 (i * m.1) + j) = i * m.1 + j ∧ 0 ≤ i * m.1 + j ∧ i * m.1 + j < (m.2.2.length : Int) := by
  simp only [atP, Bool.and_eq_true, decide_eq_true_eq] at h
  obtain ⟨h1, h2, h3, h4⟩ := h
  have h5 : 0 ≤ i * m.1 := Int.mul_nonneg h1 h3
  rw [maxLen_val] at hl
  have e : w64 (i * m.1) = i * m.1 := w64_id (by omega) (by omega)
  rw [e, w64_id (by omega) (by omega)]
  exact ⟨rfl, by omega, h4⟩
def ent (m : Int × Int × List Int) (i j : Nat) : Int := m.2.2.getD (i * m.1.toNat + j) 0
theorem atK_nat {m : Int × Int × List Int} (h : 0 ≤ m.1) (i j : Nat) : atK m (i : Int) (j : Int) = ent m i j := by
  unfold atK ent
  congr 1
  obtain ⟨n, hn⟩ := Int.eq_ofNat_of_zero_le h
  rw [hn]
  norm_cast
def dimK (m : Int × Int × List Int) : Bool := inK m.1 1 5 && (inK m.2.1 m.1 8 && decide ((m.2.2.length : Int) = m.1 * m.2.1))
def entK (l : List Int) : Bool := l.all fun x => inK x (-99) 99
def shapedK (m : Int × Int × List Int) : Bool := dimK m && entK m.2.2
def signK (a b : Int) : Bool := (decide (0 < a) == decide (b < 0)) && (decide (a = 0) == decide (b = 0))
def sizesK (m : Int × Int × List Int) : Bool := shapedK m && (List.range m.1.toNat).all fun i => (List.range m.1.toNat).all fun j => signK (ent m i j) (ent m j i)
theorem inK_iff {n lo hi : Int} : inK n lo hi = true ↔ lo ≤ n ∧ n ≤ hi := by simp [inK]
theorem dim_nat {m : Int × Int × List Int} (h : dimK m = true) : ∃ n r : Nat, m.1 = (n : Int) ∧ m.2.1 = (r : Int) ∧ 1 ≤ n ∧ n ≤ 5 ∧ n ≤ r ∧ r ≤ 8 ∧ m.2.2.length = r * n := by
  simp only [dimK, Bool.and_eq_true, inK_iff, decide_eq_true_eq] at h
  obtain ⟨⟨h1, h2⟩, ⟨h3, h4⟩, h5⟩ := h
  obtain ⟨n, hn⟩ := Int.eq_ofNat_of_zero_le (show 0 ≤ m.1 by omega)
  obtain ⟨r, hr⟩ := Int.eq_ofNat_of_zero_le (show 0 ≤ m.2.1 by omega)
  refine ⟨n, r, hn, hr, by omega, by omega, by omega, by omega, ?_⟩
  rw [hn, hr, Int.mul_comm] at h5
  exact_mod_cast h5
theorem ent_lt {n r i j : Nat} (hi : i < r) (hj : j < n) : i * n + j < r * n := by
  have := Nat.mul_le_mul_right n (show i + 1 ≤ r from hi)
  rw [Nat.add_mul] at this
  omega
theorem at_ok {m : Int × Int × List Int} (h : dimK m = true) {i j : Nat} (hi : i < m.2.1.toNat) (hj : j < m.1.toNat) : atP m (i : Int) (j : Int) = true := by
  obtain ⟨n, r, hn, hr, _, _, _, _, hl⟩ := dim_nat h
  have := ent_lt (n := n) (r := r) (i := i) (j := j) (by omega) (by omega)
  simp only [atP, Bool.and_eq_true, decide_eq_true_eq, hn, hl]
  refine ⟨by omega, by omega, by omega, ?_⟩
  exact_mod_cast this
theorem all_bound {l : List Int} (h : entK l = true) (i : Nat) : -99 ≤ l.getD i 0 ∧ l.getD i 0 ≤ 99 := by
  by_cases hi : i < l.length
  · have := (List.all_eq_true.1 h) _ (getD_mem 0 hi)
    exact inK_iff.1 this
  · rw [List.getD_eq_getElem?_getD, List.getElem?_eq_none (by omega), Option.getD_none]; omega
theorem range_drop {j n : Nat} (h : j < n) : (List.range n).drop j = j :: (List.range n).drop (j + 1) := by
  rw [drop_getD 0 (by simpa using h), List.getD_eq_getElem?_getD, List.getElem?_range h, Option.getD_some]
end Go.Fw
namespace Go.Fw
def binK (n : Int) : Nat → Int → Nat → Int
  | 0, x, _ => x
  | m + 1, x, i => binK n m (w64 (Int.tdiv (w64 (x * w64 (n - (i : Int)))) ((i + 1 : Nat) : Int))) (i + 1)
def binC (n k : Int) : Int := binK n k.toNat 1 0
def cntA (n : Int) : Int × Int × Bool := (w64 (Int.tdiv (w64 (n * w64 (n + 3))) 2), w64 (Int.tdiv (binC (w64 (w64 (2 * n) + 2)) (w64 (n + 1))) (w64 (n + 2))), true)
def cntB (n : Int) : Int × Int × Bool := (w64 (n * w64 (n + 1)), binC (w64 (2 * n)) n, true)
def cntD (n : Int) : Int × Int × Bool := (w64 (n * n), w64 (Int.tdiv (w64 (w64 (w64 (3 * n) - 2) * binC (w64 (w64 (2 * n) - 2)) (w64 (n - 1)))) n), true)
def cntK (letter n : Int) : Int × Int × Bool :=
  cond (decide (letter = 65) && inK n 1 5) (cntA n)
  (cond ((decide (letter = 66) && inK n 2 5) || (decide (letter = 67) && inK n 3 5)) (cntB n)
  (cond (decide (letter = 68) && inK n 4 5) (cntD n)
  (cond (decide (letter = 70) && decide (n = 4)) (28, 105, true)
  (cond (decide (letter = 71) && decide (n = 2)) (8, 8, true) (0, 0, false)))))
theorem cnt_range {letter n : Int} (h : (cntK letter n).2.2 = true) : 1 ≤ n ∧ n ≤ 5 := by
  unfold cntK at h
  cases h1 : decide (letter = 65) && inK n 1 5
  · rw [h1, cond_false] at h
    cases h2 : (decide (letter = 66) && inK n 2 5) || (decide (letter = 67) && inK n 3 5)
    · rw [h2, cond_false] at h
      cases h3 : decide (letter = 68) && inK n 4 5
      · rw [h3, cond_false] at h
        cases h4 : decide (letter = 70) && decide (n = 4)
        · rw [h4, cond_false] at h
          cases h5 : decide (letter = 71) && decide (n = 2)
          · rw [h5, cond_false] at h
            cases h
          · simp only [Bool.and_eq_true, decide_eq_true_eq] at h5
            omega
        · simp only [Bool.and_eq_true, decide_eq_true_eq] at h4
          omega
      · simp only [Bool.and_eq_true, decide_eq_true_eq, inK_iff] at h3
        omega
    · simp only [Bool.or_eq_true, Bool.and_eq_true, decide_eq_true_eq, inK_iff] at h2
      omega
  · simp only [Bool.and_eq_true, decide_eq_true_eq, inK_iff] at h1
    omega
def stepK (w : ByteArray) : Option (Int × Int × Int) :=
  cond (decide (w.size = 2) && (cntK (bt w 0) (bt w 1 - 48)).2.2) (some ((cntK (bt w 0) (bt w 1 - 48)).1, (cntK (bt w 0) (bt w 1 - 48)).2.1, bt w 1 - 48)) none
theorem step_range {w : ByteArray} {a b n : Int} (h : stepK w = some (a, b, n)) : 1 ≤ n ∧ n ≤ 5 := by
  unfold stepK at h
  cases h1 : decide (w.size = 2) && (cntK (bt w 0) (bt w 1 - 48)).2.2
  · rw [h1] at h; cases h
  · rw [h1] at h
    simp only [cond_true, Option.some.injEq, Prod.mk.injEq] at h
    simp only [Bool.and_eq_true] at h1
    have := cnt_range h1.2
    omega
def ctI : List ByteArray → Int → Int → Int → Option (Int × Int)
  | [], s, c, _ => some (s, c)
  | w :: ws, s, c, r => match stepK w with
    | none => none
    | some (a, b, n) => if 5 < r + n then none else ctI ws (w64 (s + a)) (w64 (c * b)) (r + n)
def ctS : Nat → List ByteArray → Int → Int → Int → Option (Int × Int × Int)
  | 0, _, s, c, r => some (s, c, r)
  | _ + 1, [], s, c, r => some (s, c, r)
  | k + 1, w :: ws, s, c, r => match stepK w with
    | none => none
    | some (a, b, n) => ctS k ws (w64 (s + a)) (w64 (c * b)) (r + n)
def endS : Option (Int × Int × Int) → Option (Int × Int)
  | some (s, c, r) => if 5 < r then none else some (s, c)
  | none => none
theorem ctS_big : ∀ (k : Nat) (ws : List ByteArray) (s c r : Int), 5 < r → endS (ctS k ws s c r) = none
  | 0, ws, s, c, r, h => by simp [ctS, endS, h]
  | k + 1, [], s, c, r, h => by simp [ctS, endS, h]
  | k + 1, w :: ws, s, c, r, h => by
    rw [ctS]
    cases hs : stepK w with
    | none => rfl
    | some q =>
      obtain ⟨a, b, n⟩ := q
      have := step_range hs
      exact ctS_big k ws _ _ _ (by omega)
theorem ct_same : ∀ (k : Nat) (ws : List ByteArray) (s c r : Int), r ≤ 5 → 6 ≤ r + k → ctI ws s c r = endS (ctS k ws s c r)
  | 0, ws, s, c, r, h1, h2 => by omega
  | k + 1, [], s, c, r, h1, h2 => by
    have : ¬ 5 < r := by omega
    simp [ctS, ctI, endS, this]
  | k + 1, w :: ws, s, c, r, h1, h2 => by
    rw [ctS, ctI]
    cases hs : stepK w with
    | none => rfl
    | some q =>
      obtain ⟨a, b, n⟩ := q
      have := step_range hs
      simp only
      by_cases h : 5 < r + n
      · rw [if_pos h, ctS_big k ws _ _ _ h]
      · rw [if_neg h]
        exact ct_same k ws _ _ _ (by omega) (by omega)
theorem ctS_rank : ∀ (k : Nat) (ws : List ByteArray) (s c r : Int) {q : Int × Int × Int}, ctS k ws s c r = some q → q.2.2 ≤ r + 5 * k
  | 0, ws, s, c, r, q, h => by
    injection h with h
    subst h
    show r ≤ _
    omega
  | k + 1, [], s, c, r, q, h => by
    injection h with h
    subst h
    show r ≤ _
    omega
  | k + 1, w :: ws, s, c, r, q, h => by
    rw [ctS] at h
    cases hs : stepK w with
    | none => rw [hs] at h; cases h
    | some p =>
      obtain ⟨a, b, n⟩ := p
      rw [hs] at h
      have := step_range hs
      have := ctS_rank k ws _ _ _ h
      omega
def ansK : Option (Int × Int) → Int × Int × Bool
  | some (s, c) => (s, c, true)
  | none => (0, 0, false)
end Go.Fw
namespace Go.Fw
def prtB (s : ByteArray) : List ByteArray := (partsK (fun b => b == 32) s.data.toList).map baOf
theorem prt_int (s : ByteArray) : (partsK (fun b => decide ((b.toNat : Int) = 32)) s.data.toList).map baOf = prtB s := by
  have e : (fun b : UInt8 => decide ((b.toNat : Int) = 32)) = fun b => b == 32 := by
    funext b
    rw [Bool.eq_iff_iff, decide_eq_true_eq, beq_iff_eq]
    constructor
    · intro h
      exact UInt8.toNat_inj.1 (by rw [show (32 : UInt8).toNat = 32 from rfl]; omega)
    · intro h
      subst h
      rfl
  unfold prtB
  rw [e]
theorem bt_range (s : ByteArray) (i : Int) : 0 ≤ bt s i ∧ bt s i < 256 := by
  unfold bt
  have := UInt8.toNat_lt (s.data.getD i.toNat 0)
  omega
theorem prt_len (s : ByteArray) : (prtB s).length ≤ s.size + 1 := by
  unfold prtB
  rw [List.length_map, Lib.size_eq]
  exact parts_len _ _
theorem step_none {w : ByteArray} (h : w.size ≠ 2 ∨ bt w 1 < 49 ∨ 53 < bt w 1) : stepK w = none := by
  unfold stepK
  cases h1 : decide (w.size = 2) && (cntK (bt w 0) (bt w 1 - 48)).2.2
  · rfl
  · simp only [Bool.and_eq_true, decide_eq_true_eq] at h1
    have := cnt_range h1.2
    omega
end Go.Fw
set_option linter.unusedSimpArgs false
namespace Go.Fw
def digB (c : UInt8) : Bool := decide (48 ≤ c.toNat) && decide (c.toNat ≤ 57)
def dstep (a : Nat) (c : UInt8) : Nat := 10 * a + (c.toNat - 48)
def valD (a : Nat) (l : List UInt8) : Nat := l.foldl dstep a
theorem valD_nil (a : Nat) : valD a [] = a := rfl
theorem valD_cons (a : Nat) (c : UInt8) (l : List UInt8) : valD a (c :: l) = valD (dstep a c) l := by
  unfold valD
  rw [List.foldl_cons]
theorem valD_app (l m : List UInt8) (a : Nat) : valD a (l ++ m) = valD (valD a l) m := by
  unfold valD
  rw [List.foldl_append]
theorem dstep_eq (a : Nat) (c : UInt8) : dstep a c = 10 * a + (c.toNat - 48) := by unfold dstep; rfl
theorem valD_lt : ∀ (l : List UInt8) (a : Nat), l.all digB = true → valD a l < (a + 1) * 10 ^ l.length := by
  intro l
  induction l with
  | nil => intro a _; rw [valD_nil]; simp
  | cons c l ih =>
    intro a h
    rw [List.all_cons, Bool.and_eq_true] at h
    have hc := h.1
    simp only [digB, Bool.and_eq_true, decide_eq_true_eq] at hc
    have := ih (dstep a c) h.2
    have hs := dstep_eq a c
    rw [valD_cons, List.length_cons, Nat.pow_succ]
    refine Nat.lt_of_lt_of_le this ?_
    rw [Nat.mul_comm (10 ^ l.length) 10, ← Nat.mul_assoc]
    exact Nat.mul_le_mul_right _ (by omega)
theorem valD_ge : ∀ (l : List UInt8) (a : Nat), a ≤ valD a l := by
  intro l
  induction l with
  | nil => intro a; rw [valD_nil]; exact Nat.le_refl _
  | cons c l ih =>
    intro a
    have := ih (dstep a c)
    have hs := dstep_eq a c
    rw [valD_cons]
    omega
theorem uint_ok : ∀ (l : List UInt8) (a : Nat), l.all digB = true → valD a l < 1000000000000000000 → Lib.parseUint10 a l = .ok (valD a l) := by
  intro l
  induction l with
  | nil => intro a _ _; rw [valD_nil]; rfl
  | cons c l ih =>
    intro a h hv
    rw [List.all_cons, Bool.and_eq_true] at h
    have hc := h.1
    simp only [digB, Bool.and_eq_true, decide_eq_true_eq] at hc
    rw [valD_cons] at hv ⊢
    have hge := valD_ge l (dstep a c)
    have hs := dstep_eq a c
    have e : a * 10 + (c.toNat - 48) = dstep a c := by omega
    rw [Lib.parseUint10, if_pos hc, if_neg (by omega), if_neg (by omega), e]
    exact ih _ h.2 hv
theorem dec_all (u : Nat) : (Lib.decDigits u).all digB = true := by
  induction u using Nat.strongRecOn with
  | _ u ih =>
    have key : ∀ t, t < 10 → digB (UInt8.ofNat (48 + t)) = true := fun t ht => by
      have : (UInt8.ofNat (48 + t)).toNat = 48 + t := by rw [UInt8.toNat_ofNat']; omega
      simp only [digB, this, Bool.and_eq_true, decide_eq_true_eq]
      omega
    rw [Lib.decDigits]
    split
    · rename_i h
      rw [List.all_cons, key u h]
      rfl
    · rename_i h
      rw [List.all_append, ih (u / 10) (by omega), List.all_cons, key (u % 10) (by omega)]
      rfl
theorem dec_val (u : Nat) : valD 0 (Lib.decDigits u) = u := by
  induction u using Nat.strongRecOn with
  | _ u ih =>
    have key : ∀ t, t < 10 → (UInt8.ofNat (48 + t)).toNat - 48 = t := fun t ht => by
      have : (UInt8.ofNat (48 + t)).toNat = 48 + t := by rw [UInt8.toNat_ofNat']; omega
      omega
    rw [Lib.decDigits]
    split
    · rename_i h
      rw [valD_cons, dstep_eq, key u h, valD_nil]
      omega
    · rename_i h
      rw [valD_app, ih (u / 10) (by omega), valD_cons, dstep_eq, key (u % 10) (by omega), valD_nil]
      omega
theorem dec_ne (u : Nat) : Lib.decDigits u ≠ [] := by
  rw [Lib.decDigits]
  split <;> simp
theorem dec_len : ∀ (k u : Nat), u < 10 ^ k → 1 ≤ k → (Lib.decDigits u).length ≤ k
  | 0, _, _, h => by omega
  | k + 1, u, h, _ => by
    rw [Lib.decDigits]
    split
    · simp
    · rename_i hs
      have hk : 1 ≤ k := by
        rcases Nat.eq_zero_or_pos k with h' | h'
        · subst h'; omega
        · exact h'
      have := dec_len k (u / 10) (by rw [Nat.div_lt_iff_lt_mul (by omega), ← Nat.pow_succ]; exact h) hk
      simp
      omega
theorem join_parts : ∀ l : List UInt8, Lib.join (partsK (fun b => b == 32) l) [32] = l
  | [] => rfl
  | b :: l => by
    have ih := join_parts l
    have hne := parts_ne (fun b => b == 32) l
    rw [partsK]
    by_cases h : (b == 32) = true
    · rw [if_pos h, Lib.join_cons]
      cases hq : partsK (fun b => b == 32) l with
      | nil => exact absurd hq hne
      | cons x xs =>
        rw [hq, Lib.join_cons] at ih
        have hb : b = 32 := beq_iff_eq.1 h
        subst hb
        simp only [Lib.joinTail, List.map_cons, List.flatten_cons, List.nil_append, List.singleton_append, List.cons_append] at ih ⊢
        rw [ih]
    · rw [if_neg h]
      cases hq : partsK (fun b => b == 32) l with
      | nil => exact absurd hq hne
      | cons x xs =>
        rw [hq, Lib.join_cons] at ih
        simp only
        rw [Lib.join_cons, List.cons_append, ih]
theorem parts_app {p : UInt8 → Bool} : ∀ (x l : List UInt8), (∀ b ∈ x, p b = false) → partsK p (x ++ l) = glue x (partsK p l)
  | [], l, _ => (glue_nil (parts_ne p l)).symm
  | b :: x, l, h => by
    have ih := parts_app x l fun c hc => h c (List.mem_cons_of_mem _ hc)
    rw [List.cons_append, partsK, if_neg (by rw [h b (List.mem_cons_self ..)]; simp), ih]
    have hne := parts_ne p l
    cases hq : partsK p l with
    | nil => exact absurd hq hne
    | cons y ys => rfl
theorem parts_join : ∀ (xs : List (List UInt8)), xs ≠ [] → (∀ x ∈ xs, ∀ b ∈ x, (b == (32 : UInt8)) = false) → partsK (fun b => b == 32) (Lib.join xs [32]) = xs
  | [], h, _ => absurd rfl h
  | [x], _, h => by
    rw [Lib.join_one]
    have := parts_app (p := fun b => b == 32) x [] (h x (List.mem_cons_self ..))
    rw [List.append_nil] at this
    rw [this]
    simp [partsK, glue]
  | x :: y :: ys, _, h => by
    have ih := parts_join (y :: ys) (by simp) fun z hz => h z (List.mem_cons_of_mem _ hz)
    have e : Lib.join (x :: y :: ys) [32] = x ++ (32 :: Lib.join (y :: ys) [32]) := by
      rw [Lib.join_cons, Lib.join_cons]
      simp [Lib.joinTail]
    rw [e, parts_app _ _ (h x (List.mem_cons_self ..)), glue_sep (by rfl), ih]
theorem itoa_no32 (n : Int) : ∀ b ∈ Lib.itoa n, (b == (32 : UInt8)) = false := by
  have key : ∀ u, ∀ b ∈ Lib.decDigits u, (b == (32 : UInt8)) = false := fun u b hb => by
    have := List.all_eq_true.1 (dec_all u) b hb
    simp only [digB, Bool.and_eq_true, decide_eq_true_eq] at this
    rw [beq_eq_false_iff_ne]
    intro e
    subst e
    have : (32 : UInt8).toNat = 32 := rfl
    omega
  intro b hb
  unfold Lib.itoa at hb
  split at hb
  · rcases List.mem_cons.1 hb with rfl | hb
    · rfl
    · exact key _ b hb
  · exact key _ b hb
def signN (l : List UInt8) : Nat := match l with
  | c :: _ => if c = 45 then 1 else 0
  | [] => 0
noncomputable def numK (s : ByteArray) : Int × Bool :=
  if (s.data.toList.drop (signN s.data.toList)).length = 0 ∨ 9 < (s.data.toList.drop (signN s.data.toList)).length then (0, false)
  else if (s.data.toList.drop (signN s.data.toList)).all digB = true then
    (if signN s.data.toList = 1 then -(valD 0 (s.data.toList.drop (signN s.data.toList)) : Int) else (valD 0 (s.data.toList.drop (signN s.data.toList)) : Int),
     strEq (itoaB (if signN s.data.toList = 1 then -(valD 0 (s.data.toList.drop (signN s.data.toList)) : Int) else (valD 0 (s.data.toList.drop (signN s.data.toList)) : Int))) s)
  else (0, false)
theorem strEq_iff {a b : ByteArray} : strEq a b = true ↔ a = b := by
  unfold strEq
  rw [beq_iff_eq, ByteArray.toList_eq, ByteArray.toList_eq]
  constructor
  · intro h
    apply ByteArray.ext
    exact Array.toList_inj.1 h
  · intro h
    rw [h]
def partI (w : ByteArray) : Option Int := if (atoiW w).2 = true then none else if 10 < w.size then none else if inK (atoiW w).1 (-999999999) 999999999 = true then some (atoiW w).1 else none
noncomputable def partS (w : ByteArray) : Option Int := if (numK w).2 = true then some (numK w).1 else none
theorem part_SI {w : ByteArray} {n : Int} (h : partS w = some n) : partI w = some n ∧ w = itoaB n := by
  unfold partS at h
  split at h
  · rename_i h2
    injection h with h
    unfold numK at h h2
    split at h2
    · cases h2
    rename_i hlen
    rw [if_neg hlen] at h
    split at h2
    · rename_i hall
      rw [if_pos hall] at h
      simp only at h h2
      have hw := strEq_iff.1 h2
      rw [h] at hw
      have hlt := valD_lt _ 0 hall
      have h9 : (10 : Nat) ^ (w.data.toList.drop (signN w.data.toList)).length ≤ 10 ^ 9 := Nat.pow_le_pow_right (by omega) (by omega)
      have h9' : (10 : Nat) ^ 9 = 1000000000 := by decide
      rw [Nat.zero_add, Nat.one_mul] at hlt
      have hu := uint_ok _ 0 hall (by omega)
      have hsz := Lib.size_eq w
      refine ⟨?_, hw.symm⟩
      have hat : atoiW w = (n, false) := by
        unfold atoiW
        cases hL : w.data.toList with
        | nil => rw [hL] at hlen; simp [signN] at hlen
        | cons c r =>
          rw [hL] at hall hlen hlt hu h h9
          by_cases hc : c = 45
          · subst hc
            have hs : signN (45 :: r) = 1 := rfl
            rw [hs] at hall hlen hlt hu h h9
            rw [if_pos rfl] at h
            simp only [List.drop_succ_cons, List.drop_zero] at hall hlen hlt hu h h9
            have hm : Lib.parseMag r = .ok (valD 0 r) := by
              unfold Lib.parseMag
              rw [if_neg (fun e => by rw [e] at hlen; simp at hlen), hu]
            have e45 : (45 : UInt8).toNat = 45 := rfl
            simp only [Lib.atoiAll, e45, or_true, if_true, hm, not_true, false_and, if_false, true_and]
            rw [if_neg (show ¬ 9223372036854775808 < valD 0 r by have := hlt; have := h9; omega), h]
          · have hs : signN (c :: r) = 0 := by simp [signN, hc]
            rw [hs] at hall hlen hlt hu h h9
            rw [if_neg (by omega)] at h
            rw [List.drop_zero] at hall hlen hlt hu h h9
            have hd : digB c = true := by
              rw [List.all_cons, Bool.and_eq_true] at hall
              exact hall.1
            simp only [digB, Bool.and_eq_true, decide_eq_true_eq] at hd
            have hm : Lib.parseMag (c :: r) = .ok (valD 0 (c :: r)) := by
              unfold Lib.parseMag
              rw [if_neg (by simp), hu]
            have h43 : ¬ c.toNat = 43 := by omega
            have h45 : ¬ c.toNat = 45 := by omega
            simp only [Lib.atoiAll, h43, h45, or_self, if_false, hm, not_false_eq_true, true_and, false_and]
            rw [if_neg (show ¬ 9223372036854775808 ≤ valD 0 (c :: r) by omega)]
            rw [h]
      have hsg : signN w.data.toList ≤ 1 := by
        unfold signN
        split
        · split <;> omega
        · omega
      have hwl : w.size ≤ 10 := by
        rw [hsz]
        rw [List.length_drop] at hlen
        omega
      have hin : inK n (-999999999) 999999999 = true := by
        rw [inK_iff]
        split at h <;> omega
      unfold partI
      rw [hat, if_neg (by simp), if_neg (by omega), if_pos hin]
    · cases h2
  · cases h
theorem num_can {w : ByteArray} {n : Int} (hin : inK n (-999999999) 999999999 = true) (hw : w = itoaB n) : numK w = (n, true) := by
  rw [inK_iff] at hin
  have hd : w.data.toList = Lib.itoa n := by rw [hw, itoaB_data]
  have hu : n.natAbs < 10 ^ 9 := by
    have h9' : (10 : Nat) ^ 9 = 1000000000 := by decide
    omega
  have hl := dec_len 9 n.natAbs hu (by omega)
  have hne : (Lib.decDigits n.natAbs).length ≠ 0 := fun e => dec_ne _ (List.length_eq_zero_iff.1 e)
  have hall := dec_all n.natAbs
  have hval := dec_val n.natAbs
  by_cases hneg : n < 0
  · have e : Lib.itoa n = 45 :: Lib.decDigits n.natAbs := by unfold Lib.itoa; rw [if_pos hneg]
    have hs : signN w.data.toList = 1 := by rw [hd, e]; rfl
    have hdr : w.data.toList.drop 1 = Lib.decDigits n.natAbs := by rw [hd, e]; rfl
    have hv : -((n.natAbs : Nat) : Int) = n := by omega
    unfold numK
    rw [hs, hdr, if_neg (by omega), if_pos hall, if_pos rfl, hval, hv, strEq_iff.2 hw.symm]
  · have e : Lib.itoa n = Lib.decDigits n.natAbs := by unfold Lib.itoa; rw [if_neg hneg, show n.toNat = n.natAbs by omega]
    have hs : signN w.data.toList = 0 := by
      rw [hd, e]
      unfold signN
      split
      · rename_i c r hc
        rw [hc, List.all_cons, Bool.and_eq_true] at hall
        have h1 := hall.1
        simp only [digB, Bool.and_eq_true, decide_eq_true_eq] at h1
        rw [if_neg]
        intro e45
        subst e45
        have : (45 : UInt8).toNat = 45 := rfl
        omega
      · rfl
    have hdr : w.data.toList.drop 0 = Lib.decDigits n.natAbs := by rw [hd, e]; rfl
    have hv : ((n.natAbs : Nat) : Int) = n := by omega
    unfold numK
    rw [hs, hdr, if_neg (by omega), if_pos hall, if_neg (by omega), hval, hv, strEq_iff.2 hw.symm]
theorem part_can {n : Int} (hin : inK n (-999999999) 999999999 = true) : partS (itoaB n) = some n := by
  unfold partS
  rw [num_can hin rfl, if_pos rfl]
theorem part_IS {w : ByteArray} {n : Int} (h : partI w = some n) (hw : w = itoaB n) : partS w = some n := by
  have hin : inK n (-999999999) 999999999 = true := by
    unfold partI at h
    split at h
    · cases h
    · split at h
      · cases h
      · split at h
        · rename_i h3
          injection h with h
          rw [h] at h3
          exact h3
        · cases h
  have hnum := num_can hin hw
  unfold partS
  rw [hnum, if_pos rfl]
def allP (f : ByteArray → Option Int) : List ByteArray → Option (List Int)
  | [] => some []
  | w :: ws => match f w with
    | none => none
    | some n => match allP f ws with
      | none => none
      | some l => some (n :: l)
noncomputable def parseS (s : ByteArray) : List Int × Bool := if strEq s ByteArray.empty = true then ([], true) else match allP partS (prtB s) with
  | none => ([], false)
  | some l => (l, true)
noncomputable def parseI (s : ByteArray) : List Int × Bool := if strEq s ByteArray.empty = true then ([], true) else match allP partI (prtB s) with
  | none => ([], false)
  | some l => if strEq (itoasB l) s = true then (l, true) else ([], false)
theorem allP_SI : ∀ {ws : List ByteArray} {l : List Int}, allP partS ws = some l → allP partI ws = some l ∧ ws = l.map itoaB
  | [], l, h => by
    injection h with h
    subst h
    exact ⟨rfl, rfl⟩
  | w :: ws, l, h => by
    rw [allP] at h
    cases hw : partS w with
    | none => rw [hw] at h; cases h
    | some n =>
      rw [hw] at h
      cases hr : allP partS ws with
      | none => rw [hr] at h; cases h
      | some m =>
        rw [hr] at h
        injection h with h
        subst h
        obtain ⟨a, b⟩ := part_SI hw
        obtain ⟨c, d⟩ := allP_SI hr
        rw [allP, a, c]
        exact ⟨rfl, by rw [List.map_cons, ← b, ← d]⟩
theorem allP_IS : ∀ {ws : List ByteArray} {l : List Int}, allP partI ws = some l → ws = l.map itoaB → allP partS ws = some l
  | [], l, h, _ => by
    injection h with h
    subst h
    rfl
  | w :: ws, l, h, hm => by
    rw [allP] at h
    cases hw : partI w with
    | none => rw [hw] at h; cases h
    | some n =>
      rw [hw] at h
      cases hr : allP partI ws with
      | none => rw [hr] at h; cases h
      | some m =>
        rw [hr] at h
        injection h with h
        subst h
        rw [List.map_cons, List.cons.injEq] at hm
        rw [allP, part_IS hw hm.1, allP_IS hr hm.2]
theorem prt_join (s : ByteArray) : Lib.join ((prtB s).map (·.data.toList)) [32] = s.data.toList := by
  unfold prtB
  rw [List.map_map]
  have : ((·.data.toList) ∘ baOf) = (id : List UInt8 → List UInt8) := by
    funext l
    simp [baOf]
  rw [this, List.map_id]
  exact join_parts _
theorem parse_same (s : ByteArray) : parseI s = parseS s := by
  unfold parseI parseS
  split
  · rfl
  cases hS : allP partS (prtB s) with
  | some l =>
    obtain ⟨hI, hm⟩ := allP_SI hS
    rw [hI]
    have hj := prt_join s
    have e1 : (l.map itoaB).map (·.data.toList) = l.map Lib.itoa := by
      rw [List.map_map]
      exact List.map_congr_left fun n _ => itoaB_data n
    rw [hm, e1] at hj
    have e2 : itoasB l = s := by
      apply ByteArray.ext
      apply Array.toList_inj.1
      rw [← hj]
      simp [itoasB, itoasL]
    simp only
    rw [if_pos (strEq_iff.2 e2)]
  | none =>
    cases hI : allP partI (prtB s) with
    | none => rfl
    | some l =>
      simp only
      split
      · rename_i he
        have e2 := strEq_iff.1 he
        have hl : l ≠ [] := fun h0 => by
          subst h0
          have := congrArg List.length (show prtB s = [] by
            cases hq : prtB s with
            | nil => rfl
            | cons w ws =>
              rw [hq, allP] at hI
              split at hI
              · cases hI
              · split at hI <;> cases hI)
          have h3 := parts_ne (fun b => b == (32 : UInt8)) s.data.toList
          unfold prtB at this
          rw [List.length_map, List.length_nil] at this
          exact h3 (List.length_eq_zero_iff.1 this)
        have hd : s.data.toList = Lib.join (l.map Lib.itoa) [32] := by
          rw [← e2]
          simp [itoasB, itoasL]
        have hp := parts_join (l.map Lib.itoa) (by simpa using hl) fun x hx => by
          obtain ⟨n, _, rfl⟩ := List.mem_map.1 hx
          exact itoa_no32 n
        have hws : prtB s = l.map itoaB := by
          unfold prtB
          rw [hd, hp, List.map_map]
          rfl
        rw [allP_IS hI hws] at hS
        cases hS
      · rfl
end Go.Fw
namespace Go.Fw
theorem parts_size (p : UInt8 → Bool) : ∀ l, ∀ x ∈ partsK p l, x.length ≤ l.length
  | [], x, hx => by
    simp [partsK] at hx
    subst hx
    simp
  | b :: l, x, hx => by
    have ih := parts_size p l
    have hne := parts_ne p l
    rw [partsK] at hx
    split at hx
    · rcases List.mem_cons.1 hx with rfl | hx
      · simp
      · have := ih x hx
        rw [List.length_cons]
        omega
    · cases hq : partsK p l with
      | nil => exact absurd hq hne
      | cons y ys =>
        rw [hq] at hx ih
        rcases List.mem_cons.1 hx with rfl | hx
        · have := ih y (List.mem_cons_self ..)
          rw [List.length_cons, List.length_cons]
          omega
        · have := ih x (List.mem_cons_of_mem _ hx)
          rw [List.length_cons]
          omega
theorem prt_size (s : ByteArray) : ∀ w ∈ prtB s, w.size ≤ s.size := by
  intro w hw
  unfold prtB at hw
  obtain ⟨l, hl, rfl⟩ := List.mem_map.1 hw
  have := parts_size _ _ l hl
  rw [Lib.size_eq s]
  have e : (baOf l).size = l.length := by simp [baOf, ByteArray.size]
  omega
theorem partI_range {w : ByteArray} {n : Int} (h : partI w = some n) : i64P n = true := by
  unfold partI at h
  split at h
  · cases h
  · split at h
    · cases h
    · split at h
      · rename_i h3
        injection h with h
        rw [h, inK_iff] at h3
        simp only [i64P, Bool.and_eq_true, decide_eq_true_eq]
        omega
      · cases h
end Go.Fw
namespace Go.Fw
def gcdL : List Int → Nat
  | [] => 0
  | x :: xs => Nat.gcd x.natAbs (gcdL xs)
theorem gcdL_append (l m : List Int) : gcdL (l ++ m) = Nat.gcd (gcdL l) (gcdL m) := by
  induction l with
  | nil => simp [gcdL]
  | cons x xs ih => rw [List.cons_append, gcdL, ih, gcdL, Nat.gcd_assoc]
theorem gcdL_mul (c : Int) (l : List Int) : gcdL (l.map fun x => c * x) = c.natAbs * gcdL l := by
  induction l with
  | nil => simp [gcdL]
  | cons x xs ih => rw [List.map_cons, gcdL, ih, gcdL, Int.natAbs_mul, Nat.gcd_mul_left]
theorem gcdL_dvd {l : List Int} {x : Int} (h : x ∈ l) : ((gcdL l : Nat) : Int) ∣ x := by
  induction l with
  | nil => cases h
  | cons y ys ih =>
    rw [gcdL]
    rcases List.mem_cons.1 h with e | e
    · subst e; exact Int.ofNat_dvd_left.2 (Nat.gcd_dvd_left _ _)
    · exact Int.dvd_trans (Int.natCast_dvd_natCast.2 (Nat.gcd_dvd_right _ _)) (ih e)
def Good (n : Nat) (A : Nat → Nat → Int) (d : Nat → Int) : Prop := ∀ i, i < n → 0 < d i ∧ ∀ j, j < n → d i * A i j = -(d j * A j i)
def Prim (n : Nat) (A : Nat → Nat → Int) (d : Nat → Int) : Prop := ∀ i, i < n → ∃ L : List Nat, (∀ k ∈ L, k < n) ∧ gcdL (L.map d) = 1 ∧ ∀ e, Good n A e → ∀ k ∈ L, d i * e k = d k * e i
theorem prim_dvd {n : Nat} {A : Nat → Nat → Int} {d e : Nat → Int} (hd : Good n A d) (he : Good n A e) (pd : Prim n A d) {i : Nat} (hi : i < n) : d i ∣ e i := by
  obtain ⟨L, h1, h2, h3⟩ := pd i hi
  have h4 : (L.map d).map (fun x => e i * x) = (L.map e).map (fun x => d i * x) := by
    rw [List.map_map, List.map_map]
    apply List.map_congr_left
    intro k hk
    show e i * d k = d i * e k
    rw [h3 e he k hk, Int.mul_comm]
  have h5 : (e i).natAbs * 1 = (d i).natAbs * gcdL (L.map e) := by rw [← h2, ← gcdL_mul, ← gcdL_mul, h4]
  exact Int.natAbs_dvd_natAbs.1 ⟨gcdL (L.map e), by rw [← h5, Nat.mul_one]⟩
theorem good_one {n : Nat} {A : Nat → Nat → Int} {d e : Nat → Int} (hd : Good n A d) (he : Good n A e) (pd : Prim n A d) (pe : Prim n A e) {i : Nat} (hi : i < n) : d i = e i := by
  have h1 := prim_dvd hd he pd hi
  have h2 := prim_dvd he hd pe hi
  have := (hd i hi).1
  have := (he i hi).1
  exact Int.dvd_antisymm (by omega) (by omega) h1 h2
theorem good_zero {n : Nat} {A : Nat → Nat → Int} {e : Nat → Int} (he : Good n A e) {i j : Nat} (hi : i < n) (hj : j < n) (h : A i j = 0) : A j i = 0 := by
  have h1 := (he i hi).2 j hj
  rw [h, Int.mul_zero] at h1
  have h2 : e j * A j i = 0 := by omega
  rcases Int.mul_eq_zero.1 h2 with h3 | h3
  · have := (he j hj).1; omega
  · exact h3
theorem prop_edge {a b e f p q : Int} (he : 0 < e) (hf : 0 < f) (h : a * f = b * e) (hg : e * p = -(f * q)) : a * p = -(b * q) := by
  have h1 : f * (a * p) = f * (-(b * q)) := by
    calc f * (a * p) = (a * f) * p := by rw [← Int.mul_assoc, Int.mul_comm f a]
      _ = b * (e * p) := by rw [h, Int.mul_assoc]
      _ = f * (-(b * q)) := by rw [hg, Int.mul_neg, Int.mul_neg, Int.mul_left_comm]
  exact Int.eq_of_mul_eq_mul_left (by omega) h1
theorem prop_edge' {a b e f p q : Int} (hp : p ≠ 0) (he : 0 < e) (h : a * p = -(b * q)) (hg : e * p = -(f * q)) (hq : q ≠ 0) : a * f = b * e := by
  have h1 : q * (a * f) = q * (b * e) := by
    calc q * (a * f) = a * (f * q) := by rw [Int.mul_left_comm, Int.mul_comm q f]
      _ = a * -(e * p) := by rw [hg, Int.neg_neg]
      _ = e * (-(a * p)) := by rw [Int.mul_neg, Int.mul_neg, Int.mul_left_comm]
      _ = q * (b * e) := by rw [h, Int.neg_neg, Int.mul_left_comm, Int.mul_comm e q, Int.mul_left_comm]
  exact Int.eq_of_mul_eq_mul_left hq h1
theorem prop_trans {a b c e f g : Int} (hf : f ≠ 0) (h1 : a * f = b * e) (h2 : b * g = c * f) : a * g = c * e := by
  have h3 : f * (a * g) = f * (c * e) := by
    calc f * (a * g) = (a * f) * g := by rw [← Int.mul_assoc, Int.mul_comm f a]
      _ = e * (b * g) := by rw [h1, Int.mul_comm b e, Int.mul_assoc]
      _ = f * (c * e) := by rw [h2, Int.mul_left_comm, Int.mul_comm e f, Int.mul_left_comm]
  exact Int.eq_of_mul_eq_mul_left hf h3
open Classical in
noncomputable def facK (m : Int × Int × List Int) : List Int :=
  if h : ∃ l : List Int, l.length = m.1.toNat ∧ Good m.1.toNat (ent m) (fun i => l.getD i 0) ∧ Prim m.1.toNat (ent m) (fun i => l.getD i 0) then Classical.choose h else []
theorem fac_is {m : Int × Int × List Int} {l : List Int} (h1 : l.length = m.1.toNat) (h2 : Good m.1.toNat (ent m) (fun i => l.getD i 0)) (h3 : Prim m.1.toNat (ent m) (fun i => l.getD i 0)) : facK m = l := by
  have h : ∃ l : List Int, l.length = m.1.toNat ∧ Good m.1.toNat (ent m) (fun i => l.getD i 0) ∧ Prim m.1.toNat (ent m) (fun i => l.getD i 0) := ⟨l, h1, h2, h3⟩
  have hc := Classical.choose_spec h
  rw [facK, dif_pos h]
  generalize Classical.choose h = c at hc
  obtain ⟨c1, c2, c3⟩ := hc
  apply List.ext_getElem?
  intro i
  by_cases hi : i < m.1.toNat
  · have := good_one c2 h2 c3 h3 hi
    simp only [List.getD_eq_getElem?_getD] at this
    rw [List.getElem?_eq_getElem (by omega), List.getElem?_eq_getElem (by omega)] at this ⊢
    simpa using this
  · rw [List.getElem?_eq_none (by omega), List.getElem?_eq_none (by omega)]
theorem fac_none {m : Int × Int × List Int} (h : ¬ ∃ e, Good m.1.toNat (ent m) e) : facK m = [] := by
  rw [facK, dif_neg]
  rintro ⟨l, _, h2, _⟩
  exact h ⟨_, h2⟩
theorem fac_good {m : Int × Int × List Int} (h : facK m ≠ []) : (facK m).length = m.1.toNat ∧ Good m.1.toNat (ent m) (fun i => (facK m).getD i 0) ∧ Prim m.1.toNat (ent m) (fun i => (facK m).getD i 0) := by
  by_cases hx : ∃ l : List Int, l.length = m.1.toNat ∧ Good m.1.toNat (ent m) (fun i => l.getD i 0) ∧ Prim m.1.toNat (ent m) (fun i => l.getD i 0)
  · have : facK m = Classical.choose hx := by rw [facK, dif_pos hx]
    rw [this]
    exact Classical.choose_spec hx
  · exact absurd (by rw [facK, dif_neg hx]) h
theorem good_sign {n : Nat} {A : Nat → Nat → Int} {e : Nat → Int} (he : Good n A e) {i j : Nat} (hi : i < n) (hj : j < n) : signK (A i j) (A j i) = true := by
  have h1 := (he i hi).2 j hj
  have h2 := (he i hi).1
  have h3 := (he j hj).1
  have e1 : decide (0 < A i j) = decide (A j i < 0) := by
    rw [decide_eq_decide]
    constructor
    · intro h
      have := Int.mul_pos h2 h
      rcases Int.lt_or_le (A j i) 0 with h4 | h4
      · exact h4
      · have := Int.mul_nonneg (Int.le_of_lt h3) h4; omega
    · intro h
      have := Int.mul_neg_of_pos_of_neg h3 h
      rcases Int.lt_or_le 0 (A i j) with h4 | h4
      · exact h4
      · have := Int.mul_nonpos_of_nonneg_of_nonpos (Int.le_of_lt h2) h4; omega
  have e2 : decide (A i j = 0) = decide (A j i = 0) := by
    rw [decide_eq_decide]
    exact ⟨good_zero he hi hj, good_zero he hj hi⟩
  rw [signK, e1, e2]
  simp
theorem fac_sizes {m : Int × Int × List Int} (hs : shapedK m = true) (h : facK m ≠ []) : sizesK m = true := by
  obtain ⟨h1, h2, h3⟩ := fac_good h
  rw [sizesK, hs, Bool.true_and, List.all_eq_true]
  intro i hi
  rw [List.all_eq_true]
  intro j hj
  exact good_sign h2 (List.mem_range.1 hi) (List.mem_range.1 hj)
end Go.Fw
namespace Go.Fw
def ints (l : List Nat) : List Int := l.map fun (x : Nat) => (x : Int)
theorem ints_len (l : List Nat) : (ints l).length = l.length := by simp [ints]
theorem ints_getD (l : List Nat) (k : Nat) : (ints l).getD k 0 = ((l.getD k 0 : Nat) : Int) := by
  simp only [ints, List.getD_eq_getElem?_getD, List.getElem?_map]
  cases l[k]? <;> rfl
theorem ints_append (l : List Nat) (x : Nat) : ints l ++ [(x : Int)] = ints (l ++ [x]) := by simp [ints]
theorem mem_ints {l : List Nat} {x : Nat} : ((x : Int) ∈ ints l) ↔ x ∈ l := by
  simp only [ints, List.mem_map]
  constructor
  · rintro ⟨a, h1, h2⟩
    rwa [← Int.ofNat.inj h2]
  · exact fun h => ⟨x, h, rfl⟩
theorem nodup_len : ∀ (n : Nat) (l : List Nat), l.Nodup → (∀ x ∈ l, x < n) → l.length ≤ n
  | 0, l, _, h => by
    cases l with
    | nil => simp
    | cons x xs => exact absurd (h x (by simp)) (by omega)
  | n + 1, l, hn, h => by
    have := nodup_len n (l.erase n) (hn.erase n) (fun x hx => by
      have h1 := (hn.mem_erase_iff).1 hx
      have := h x h1.2
      omega)
    rw [List.length_erase] at this
    split at this <;> omega
def pIn (A : Nat → Nat → Int) (x : Nat) : List Nat → List Nat × List Nat → List Nat × List Nat
  | [], s => s
  | j :: js, s => pIn A x js (if A x j ≠ 0 ∧ j ∉ s.1 then (s.1 ++ [j], s.2 ++ [x]) else s)
def pGo (A : Nat → Nat → Int) (n : Nat) : Nat → Nat → List Nat × List Nat → List Nat × List Nat
  | 0, _, s => s
  | f + 1, p, s => if p < s.1.length then pGo A n f (p + 1) (pIn A (s.1.getD p 0) (List.range n) s) else s
def pieceK (m : Int × Int × List Int) (i : Nat) : List Nat × List Nat := pGo (ent m) m.1.toNat m.1.toNat 0 ([i], [i])
structure PInv (n : Nat) (A : Nat → Nat → Int) (i : Nat) (s : List Nat × List Nat) : Prop where
  nd : s.1.Nodup
  lt : ∀ x ∈ s.1, x < n
  len : s.2.length = s.1.length
  hd : s.1.getD 0 0 = i
  pos : 0 < s.1.length
  src : ∀ k, 1 ≤ k → k < s.1.length → ∃ k', k' < k ∧ s.2.getD k 0 = s.1.getD k' 0 ∧ A (s.2.getD k 0) (s.1.getD k 0) ≠ 0
theorem PInv.le {n : Nat} {A : Nat → Nat → Int} {i : Nat} {s : List Nat × List Nat} (h : PInv n A i s) : s.1.length ≤ n := nodup_len n s.1 h.nd h.lt
theorem getD_append_lt {α : Type} {l m : List α} {k : Nat} {d : α} (h : k < l.length) : (l ++ m).getD k d = l.getD k d := by
  simp only [List.getD_eq_getElem?_getD]
  rw [List.getElem?_append_left h]
theorem getD_append_eq {α : Type} {l : List α} {x d : α} {k : Nat} (h : k = l.length) : (l ++ [x]).getD k d = x := by
  subst h
  simp [List.getD_eq_getElem?_getD]
theorem PInv.step {n : Nat} {A : Nat → Nat → Int} {i p j : Nat} {s : List Nat × List Nat} (h : PInv n A i s) (hp : p < s.1.length) (hj : j < n) (ha : A (s.1.getD p 0) j ≠ 0 ∧ j ∉ s.1) : PInv n A i (s.1 ++ [j], s.2 ++ [s.1.getD p 0]) := by
  refine ⟨?_, ?_, ?_, ?_, ?_, ?_⟩
  · exact List.nodup_append.2 ⟨h.nd, by simp, fun a ha' b hb e => by
      rw [List.mem_singleton] at hb; subst hb; subst e; exact ha.2 ha'⟩
  · intro x hx
    rcases List.mem_append.1 hx with hx | hx
    · exact h.lt x hx
    · rw [List.mem_singleton] at hx; omega
  · simp [h.len]
  · exact (getD_append_lt h.pos).trans h.hd
  · simp
  · intro k h1 h2
    simp only [List.length_append, List.length_cons, List.length_nil] at h2
    by_cases hk : k < s.1.length
    · obtain ⟨k', h3, h4, h5⟩ := h.src k h1 hk
      refine ⟨k', h3, ?_, ?_⟩
      · show (s.2 ++ _).getD k 0 = (s.1 ++ _).getD k' 0
        rw [getD_append_lt (by rw [h.len]; exact hk), getD_append_lt (by omega), h4]
      · show A ((s.2 ++ _).getD k 0) ((s.1 ++ _).getD k 0) ≠ 0
        rw [getD_append_lt (by rw [h.len]; exact hk), getD_append_lt hk]
        exact h5
    · have e : k = s.1.length := by omega
      refine ⟨p, by omega, ?_, ?_⟩
      · show (s.2 ++ _).getD k 0 = (s.1 ++ _).getD p 0
        rw [getD_append_eq (by rw [h.len]; exact e), getD_append_lt hp]
      · show A ((s.2 ++ _).getD k 0) ((s.1 ++ _).getD k 0) ≠ 0
        rw [getD_append_eq (by rw [h.len]; exact e), getD_append_eq e]
        exact ha.1
def Grows (s t : List Nat × List Nat) : Prop := ∃ u, t.1 = s.1 ++ u
theorem Grows.getD {s t : List Nat × List Nat} (h : Grows s t) {k : Nat} (hk : k < s.1.length) : t.1.getD k 0 = s.1.getD k 0 := by
  obtain ⟨u, h⟩ := h
  rw [h, getD_append_lt hk]
theorem Grows.len {s t : List Nat × List Nat} (h : Grows s t) : s.1.length ≤ t.1.length := by
  obtain ⟨u, h⟩ := h
  rw [h]; simp
theorem Grows.mem {s t : List Nat × List Nat} (h : Grows s t) {x : Nat} (hx : x ∈ s.1) : x ∈ t.1 := by
  obtain ⟨u, h⟩ := h
  rw [h]; exact List.mem_append_left _ hx
theorem pIn_inv {n : Nat} {A : Nat → Nat → Int} {i p : Nat} : ∀ (js : List Nat) (s : List Nat × List Nat), PInv n A i s → p < s.1.length → (∀ j ∈ js, j < n) →
    PInv n A i (pIn A (s.1.getD p 0) js s) ∧ Grows s (pIn A (s.1.getD p 0) js s) ∧ ∀ j ∈ js, A (s.1.getD p 0) j ≠ 0 → j ∈ (pIn A (s.1.getD p 0) js s).1
  | [], s, h, _, _ => ⟨h, ⟨[], by simp [pIn]⟩, fun j hj => by cases hj⟩
  | j :: js, s, h, hp, hl => by
    by_cases ha : A (s.1.getD p 0) j ≠ 0 ∧ j ∉ s.1
    · have e : (s.1 ++ [j]).getD p 0 = s.1.getD p 0 := getD_append_lt hp
      have := pIn_inv (p := p) js (s.1 ++ [j], s.2 ++ [s.1.getD p 0]) (h.step hp (hl j (by simp)) ha) (by simp; omega) (fun x hx => hl x (by simp [hx]))
      simp only [e] at this
      obtain ⟨h1, ⟨u, h2⟩, h3⟩ := this
      rw [pIn, if_pos ha]
      refine ⟨h1, ⟨[j] ++ u, by rw [h2]; simp⟩, fun x hx hax => ?_⟩
      rcases List.mem_cons.1 hx with hx | hx
      · subst hx; rw [h2]; simp
      · exact h3 x hx hax
    · have := pIn_inv (p := p) js s h hp (fun x hx => hl x (by simp [hx]))
      obtain ⟨h1, h2, h3⟩ := this
      rw [pIn, if_neg ha]
      refine ⟨h1, h2, fun x hx hax => ?_⟩
      rcases List.mem_cons.1 hx with hx | hx
      · subst hx
        exact h2.mem (Classical.byContradiction fun hc => ha ⟨hax, hc⟩)
      · exact h3 x hx hax
theorem pGo_inv {n : Nat} {A : Nat → Nat → Int} {i : Nat} : ∀ (f p : Nat) (s : List Nat × List Nat), PInv n A i s → n ≤ f + p → p ≤ s.1.length → (∀ k, k < p → ∀ j, j < n → A (s.1.getD k 0) j ≠ 0 → j ∈ s.1) →
    PInv n A i (pGo A n f p s) ∧ ∀ x ∈ (pGo A n f p s).1, ∀ j, j < n → A x j ≠ 0 → j ∈ (pGo A n f p s).1
  | 0, p, s, h, hf, hp, hc => ⟨h, fun x hx j hj ha => by
      change x ∈ s.1 at hx
      show j ∈ s.1
      obtain ⟨k, hk, rfl⟩ := List.getElem_of_mem hx
      have := h.le
      refine hc k (by omega) j hj ?_
      rw [List.getD_eq_getElem?_getD, List.getElem?_eq_getElem hk]
      exact ha⟩
  | f + 1, p, s, h, hf, hp, hc => by
    rw [pGo]
    by_cases hlt : p < s.1.length
    · rw [if_pos hlt]
      obtain ⟨h1, h2, h3⟩ := pIn_inv (p := p) (List.range n) s h hlt (fun x hx => List.mem_range.1 hx)
      refine pGo_inv f (p + 1) _ h1 (by omega) (by have := h2.len; omega) ?_
      intro k hk j hj ha
      by_cases e : k = p
      · subst e
        rw [h2.getD hlt] at ha
        exact h3 j (List.mem_range.2 hj) ha
      · rw [h2.getD (by omega)] at ha
        exact h2.mem (hc k (by omega) j hj ha)
    · rw [if_neg hlt]
      refine ⟨h, fun x hx j hj ha => ?_⟩
      obtain ⟨k, hk, rfl⟩ := List.getElem_of_mem hx
      refine hc k (by omega) j hj ?_
      rw [List.getD_eq_getElem?_getD, List.getElem?_eq_getElem hk]
      exact ha
theorem PInv.first {n : Nat} {A : Nat → Nat → Int} {i : Nat} (h : i < n) : PInv n A i ([i], [i]) :=
  ⟨by simp, by simpa using h, rfl, rfl, by simp, fun k h1 h2 => by simp at h2; omega⟩
theorem piece_ok {m : Int × Int × List Int} {i : Nat} (h : i < m.1.toNat) : PInv m.1.toNat (ent m) i (pieceK m i) ∧ ∀ x ∈ (pieceK m i).1, ∀ j, j < m.1.toNat → ent m x j ≠ 0 → j ∈ (pieceK m i).1 :=
  pGo_inv m.1.toNat 0 _ (PInv.first h) (by omega) (by simp) (fun k hk => by omega)
end Go.Fw
namespace Go.Fw
theorem getD_put {α : Type} {l : List α} {x y : Nat} {v d : α} (h : x < l.length) : (l.set x v).getD y d = if x = y then v else l.getD y d := by
  by_cases e : x = y
  · subst e
    rw [if_pos rfl, getD_set_self h]
  · rw [if_neg e, List.getD_eq_getElem?_getD, List.getElem?_set_ne e, List.getD_eq_getElem?_getD]
theorem nodup_getD {l : List Nat} (h : l.Nodup) {a b : Nat} (ha : a < l.length) (hb : b < l.length) (e : l.getD a 0 = l.getD b 0) : a = b := by
  rw [List.getD_eq_getElem?_getD, List.getD_eq_getElem?_getD, List.getElem?_eq_getElem ha, List.getElem?_eq_getElem hb, Option.getD_some, Option.getD_some] at e
  rcases Nat.lt_trichotomy a b with h1 | h1 | h1
  · exact absurd e (List.pairwise_iff_getElem.1 h a b ha hb h1)
  · exact h1
  · exact absurd e.symm (List.pairwise_iff_getElem.1 h b a hb ha h1)
theorem mem_getD {l : List Nat} {x : Nat} (h : x ∈ l) : ∃ k, k < l.length ∧ l.getD k 0 = x := by
  obtain ⟨k, hk, rfl⟩ := List.getElem_of_mem h
  exact ⟨k, hk, by rw [List.getD_eq_getElem?_getD, List.getElem?_eq_getElem hk, Option.getD_some]⟩
theorem range_getD {α : Type} (l : List Nat) (f : Nat → α) : (List.range l.length).map (fun t => f (l.getD t 0)) = l.map f := by
  have := list_map (n := l.length) (l := l) 0 rfl
  conv => rhs; rw [← this]
  rw [List.map_map]
  rfl
def absK (a : Int) : Int := (a.natAbs : Int)
theorem absK_pos {a : Int} (h : a ≠ 0) : 0 < absK a := by unfold absK; omega
theorem absK_le {a : Int} (h : -99 ≤ a ∧ a ≤ 99) : absK a ≤ 99 := by unfold absK; omega
theorem abs_edge {e f p q : Int} (he : 0 < e) (hf : 0 < f) (h : e * p = -(f * q)) : e * absK p = f * absK q := by
  have h1 : (e * p).natAbs = (f * q).natAbs := by rw [h, Int.natAbs_neg]
  rw [Int.natAbs_mul, Int.natAbs_mul] at h1
  have : ((e.natAbs * p.natAbs : Nat) : Int) = ((f.natAbs * q.natAbs : Nat) : Int) := by rw [h1]
  rw [Int.natCast_mul, Int.natCast_mul, Int.natAbs_of_nonneg (Int.le_of_lt he), Int.natAbs_of_nonneg (Int.le_of_lt hf)] at this
  exact this
def prodK (q : Nat → Int) : Nat → Int
  | 0 => 1
  | k + 1 => prodK q k * q k
theorem prodK_dvd (q : Nat → Int) {a b : Nat} (h : a ≤ b) : prodK q a ∣ prodK q b := by
  induction b with
  | zero => rw [show a = 0 by omega]; exact Int.dvd_refl _
  | succ b ih =>
    by_cases e : a = b + 1
    · subst e; exact Int.dvd_refl _
    · exact Int.dvd_trans (ih (by omega)) ⟨q b, rfl⟩
theorem prodK_bound {q : Nat → Int} {n : Nat} (h : ∀ k, k < n → 0 < q k ∧ q k ≤ 99) : ∀ k, k ≤ n → 0 < prodK q k ∧ prodK q k ≤ 99 ^ k
  | 0, _ => by simp [prodK]
  | k + 1, hk => by
    obtain ⟨h1, h2⟩ := prodK_bound h k (by omega)
    obtain ⟨h3, h4⟩ := h k (by omega)
    refine ⟨Int.mul_pos h1 h3, ?_⟩
    rw [Int.pow_succ]
    exact Int.mul_le_mul h2 h4 (by omega) (Int.pow_nonneg (by omega))
theorem pow99 {k : Nat} (h : k ≤ 8) : (99 : Int) ^ k ≤ 9227446944279201 := by
  have h1 : 99 ^ k ≤ 99 ^ 8 := Nat.pow_le_pow_right (by omega) h
  have h2 : (99 : Int) ^ k = ((99 ^ k : Nat) : Int) := by rw [Int.natCast_pow]; rfl
  rw [h2]
  omega
theorem tree_div {H D Hk q p a : Int} (hH : 0 < Hk) (hq : 0 < q) (hp : 0 < p) (ha : 0 < a) (h1 : Hk * q ∣ D) (h2 : D ∣ a * Hk) :
    (Int.tdiv (a * p) q) * q = a * p ∧ 0 < Int.tdiv (a * p) q ∧ D ∣ Int.tdiv (a * p) q * (Hk * q) := by
  obtain ⟨R, hR⟩ := h1
  obtain ⟨c, hc⟩ := h2
  have e : a = q * (R * c) := by
    have : Hk * a = Hk * (q * (R * c)) := by
      rw [Int.mul_comm Hk a, hc, hR, ← Int.mul_assoc Hk q, Int.mul_assoc]
    exact Int.eq_of_mul_eq_mul_left (by omega) this
  have e2 : Int.tdiv (a * p) q = R * c * p := by
    rw [e, Int.mul_assoc, Int.mul_tdiv_cancel_left _ (by omega)]
  rw [e2]
  refine ⟨by rw [e, Int.mul_comm (R * c * p) q, Int.mul_assoc q], ?_, ?_⟩
  · have h3 : 0 < q * (R * c * p) := by rw [← Int.mul_assoc, ← e]; exact Int.mul_pos ha hp
    rcases Int.lt_or_le 0 (R * c * p) with h | h
    · exact h
    · have := Int.mul_nonpos_of_nonneg_of_nonpos (Int.le_of_lt hq) h; omega
  · refine ⟨c * p, ?_⟩
    rw [hR, Int.mul_comm (R * c * p), Int.mul_assoc, Int.mul_assoc, Int.mul_assoc, Int.mul_assoc]
theorem gcd_snoc (g : Nat) (l : List Int) (x : Int) (hx : 0 ≤ x) (hg : g = gcdL l) : (Int.gcd (g : Int) x : Int) = ((gcdL (l ++ [x]) : Nat) : Int) := by
  subst hg
  rw [gcdL_append, gcdL, gcdL, Nat.gcd_zero_right]
  rfl
end Go.Fw
namespace Go.Fw
def qK (m : Int × Int × List Int) (s : List Nat × List Nat) (k : Nat) : Int := if k = 0 then 1 else absK (ent m (s.1.getD k 0) (s.2.getD k 0))
def pK (m : Int × Int × List Int) (s : List Nat × List Nat) (k : Nat) : Int := absK (ent m (s.2.getD k 0) (s.1.getD k 0))
theorem sizes_zero {m : Int × Int × List Int} (h : sizesK m = true) {i j : Nat} (hi : i < m.1.toNat) (hj : j < m.1.toNat) : ent m i j = 0 ↔ ent m j i = 0 := by
  rw [sizesK, Bool.and_eq_true, List.all_eq_true] at h
  have h1 := List.all_eq_true.1 (h.2 i (List.mem_range.2 hi)) j (List.mem_range.2 hj)
  rw [signK, Bool.and_eq_true] at h1
  have h2 := h1.2
  rw [beq_iff_eq, decide_eq_decide] at h2
  exact h2
theorem ent_bound {m : Int × Int × List Int} (h : shapedK m = true) (i j : Nat) : -99 ≤ ent m i j ∧ ent m i j ≤ 99 := by
  rw [shapedK, Bool.and_eq_true] at h
  exact all_bound h.2 _
theorem sizes_shaped {m : Int × Int × List Int} (h : sizesK m = true) : shapedK m = true := by
  rw [sizesK, Bool.and_eq_true] at h
  exact h.1
theorem shaped_dim {m : Int × Int × List Int} (h : shapedK m = true) : dimK m = true := by
  rw [shapedK, Bool.and_eq_true] at h
  exact h.1
theorem src_lt {n : Nat} {A : Nat → Nat → Int} {i : Nat} {s : List Nat × List Nat} (h : PInv n A i s) {k : Nat} (h1 : 1 ≤ k) (h2 : k < s.1.length) : s.2.getD k 0 < n := by
  obtain ⟨k', h3, h4, h5⟩ := h.src k h1 h2
  rw [h4]
  exact h.lt _ (getD_mem 0 (by omega))
theorem pq_range {m : Int × Int × List Int} (hs : sizesK m = true) {i : Nat} {s : List Nat × List Nat} (h : PInv m.1.toNat (ent m) i s) {k : Nat} (h1 : 1 ≤ k) (h2 : k < s.1.length) :
    (0 < qK m s k ∧ qK m s k ≤ 99) ∧ (0 < pK m s k ∧ pK m s k ≤ 99) := by
  obtain ⟨k', h3, h4, h5⟩ := h.src k h1 h2
  have h6 : ent m (s.1.getD k 0) (s.2.getD k 0) ≠ 0 := fun e => h5 ((sizes_zero hs (h.lt _ (getD_mem 0 h2)) (src_lt h h1 h2)).1 e)
  have hb := sizes_shaped hs
  rw [qK, if_neg (by omega), pK]
  exact ⟨⟨absK_pos h6, absK_le (ent_bound hb _ _)⟩, ⟨absK_pos h5, absK_le (ent_bound hb _ _)⟩⟩
theorem q_range {m : Int × Int × List Int} (hs : sizesK m = true) {i : Nat} {s : List Nat × List Nat} (h : PInv m.1.toNat (ent m) i s) (k : Nat) (h2 : k < s.1.length) : 0 < qK m s k ∧ qK m s k ≤ 99 := by
  by_cases e : k = 0
  · subst e
    rw [qK, if_pos rfl]
    omega
  · exact (pq_range hs h (by omega) h2).1
structure T2 (m : Int × Int × List Int) (s : List Nat × List Nat) (d0 : List Int) (k : Nat) (d : List Int) (g : Int) : Prop where
  len : d.length = m.1.toNat
  out : ∀ x, x < m.1.toNat → (∀ k', k' < k → x ≠ s.1.getD k' 0) → d.getD x 0 = d0.getD x 0
  val : ∀ k', k' < k → 0 < d.getD (s.1.getD k' 0) 0 ∧ d.getD (s.1.getD k' 0) 0 ≤ 99 ^ (4 + k') ∧ prodK (qK m s) s.1.length ∣ d.getD (s.1.getD k' 0) 0 * prodK (qK m s) k
  tree : ∀ k', 1 ≤ k' → k' < k → d.getD (s.1.getD k' 0) 0 * qK m s k' = d.getD (s.2.getD k' 0) 0 * pK m s k'
  gcd : g = ((gcdL ((List.range k).map fun t => d.getD (s.1.getD t 0) 0) : Nat) : Int)
theorem T2.step {m : Int × Int × List Int} {s : List Nat × List Nat} {d0 d : List Int} {g : Int} {i k : Nat} (hs : sizesK m = true) (h : PInv m.1.toNat (ent m) i s) (hn : m.1.toNat ≤ 5) (h1 : 1 ≤ k) (h2 : k < s.1.length) (ht : T2 m s d0 k d g) :
    (0 < d.getD (s.2.getD k 0) 0 * pK m s k ∧ d.getD (s.2.getD k 0) 0 * pK m s k ≤ 9227446944279201) ∧
    (0 < Int.tdiv (d.getD (s.2.getD k 0) 0 * pK m s k) (qK m s k) ∧ Int.tdiv (d.getD (s.2.getD k 0) 0 * pK m s k) (qK m s k) ≤ 9227446944279201) ∧
    T2 m s d0 (k + 1) (d.set (s.1.getD k 0) (Int.tdiv (d.getD (s.2.getD k 0) 0 * pK m s k) (qK m s k))) (Int.gcd g (Int.tdiv (d.getD (s.2.getD k 0) 0 * pK m s k) (qK m s k))) := by
  obtain ⟨⟨hq, hq9⟩, hp, hp9⟩ := pq_range hs h h1 h2
  obtain ⟨k', h3, h4, h5⟩ := h.src k h1 h2
  obtain ⟨a1, a2, a3⟩ := ht.val k' h3
  have hle := h.le
  rw [← h4] at a1 a2 a3
  have hH := (prodK_bound (q_range hs h) k (by omega)).1
  have hx : s.1.getD k 0 < d.length := by rw [ht.len]; exact h.lt _ (getD_mem 0 h2)
  have hdv : prodK (qK m s) k * qK m s k ∣ prodK (qK m s) s.1.length := prodK_dvd (qK m s) (show k + 1 ≤ s.1.length from h2)
  obtain ⟨b1, b2, b3⟩ := tree_div (H := 0) hH hq hp a1 hdv a3
  have hb : d.getD (s.2.getD k 0) 0 * pK m s k ≤ 99 ^ (4 + k) := by
    have : d.getD (s.2.getD k 0) 0 * pK m s k ≤ 99 ^ (4 + k') * 99 := Int.mul_le_mul a2 hp9 (by omega) (Int.pow_nonneg (by omega))
    rw [← Int.pow_succ] at this
    refine Int.le_trans this ?_
    have h6 : 99 ^ (4 + k' + 1) ≤ 99 ^ (4 + k) := Nat.pow_le_pow_right (by omega) (by omega)
    exact_mod_cast h6
  have hp8 := pow99 (k := 4 + k) (by omega)
  generalize hv : Int.tdiv (d.getD (s.2.getD k 0) 0 * pK m s k) (qK m s k) = v at b1 b2 b3
  have hvle : v ≤ d.getD (s.2.getD k 0) 0 * pK m s k := by
    rw [← b1]
    have := Int.mul_le_mul_of_nonneg_left (show (1 : Int) ≤ qK m s k by omega) (Int.le_of_lt b2)
    omega
  have hne : ∀ t, t < k → s.1.getD k 0 ≠ s.1.getD t 0 := fun t ht' e => by
    have := nodup_getD h.nd h2 (by omega) e; omega
  have hget : ∀ t, t < k → (d.set (s.1.getD k 0) v).getD (s.1.getD t 0) 0 = d.getD (s.1.getD t 0) 0 := fun t ht' => by
    rw [getD_put hx, if_neg (hne t ht')]
  have hself : (d.set (s.1.getD k 0) v).getD (s.1.getD k 0) 0 = v := by rw [getD_put hx, if_pos rfl]
  refine ⟨⟨Int.mul_pos a1 hp, by omega⟩, ⟨b2, by omega⟩, ⟨?_, ?_, ?_, ?_, ?_⟩⟩
  · rw [List.length_set, ht.len]
  · intro x hx' hall
    rw [getD_put hx, if_neg (fun e => hall k (by omega) e.symm)]
    exact ht.out x hx' (fun t ht' => hall t (by omega))
  · intro t ht'
    by_cases e : t = k
    · subst e
      rw [hself]
      exact ⟨b2, by omega, b3⟩
    · rw [hget t (by omega)]
      obtain ⟨c1, c2, c3⟩ := ht.val t (by omega)
      refine ⟨c1, c2, ?_⟩
      rw [prodK, ← Int.mul_assoc]
      exact Int.dvd_trans c3 ⟨_, rfl⟩
  · intro t ht1 ht2
    by_cases e : t = k
    · subst e
      rw [hself, h4, hget k' h3, ← h4]
      exact b1
    · obtain ⟨t', c1, c2, _⟩ := h.src t ht1 (by omega)
      rw [hget t (by omega), c2, hget t' (by omega), ← c2]
      exact ht.tree t ht1 (by omega)
  · rw [List.range_succ, List.map_append, List.map_cons, List.map_nil, hself]
    rw [show (List.range k).map (fun t => (d.set (s.1.getD k 0) v).getD (s.1.getD t 0) 0) = (List.range k).map (fun t => d.getD (s.1.getD t 0) 0) from List.map_congr_left (fun t ht' => hget t (List.mem_range.1 ht'))]
    rw [ht.gcd]
    exact gcd_snoc _ _ v (by omega) rfl
theorem T2.g_range {m : Int × Int × List Int} {s : List Nat × List Nat} {d0 d : List Int} {g : Int} {k : Nat} (h1 : 1 ≤ k) (ht : T2 m s d0 k d g) : 0 < g ∧ g ≤ 9227446944279201 := by
  obtain ⟨a1, a2, _⟩ := ht.val 0 (by omega)
  have hd : g ∣ d.getD (s.1.getD 0 0) 0 := by
    rw [ht.gcd]
    exact gcdL_dvd (List.mem_map.2 ⟨0, List.mem_range.2 (by omega), rfl⟩)
  have := Int.le_of_dvd a1 hd
  have hp := pow99 (k := 4 + 0) (by omega)
  refine ⟨?_, by omega⟩
  rcases Int.lt_or_le 0 g with h | h
  · exact h
  · have h0 : 0 ≤ g := by rw [ht.gcd]; omega
    have e : g = 0 := by omega
    rw [e] at hd
    have := Int.zero_dvd.1 hd
    omega
structure T3 (m : Int × Int × List Int) (s : List Nat × List Nat) (d2 : List Int) (g : Int) (k : Nat) (d : List Int) : Prop where
  len : d.length = m.1.toNat
  out : ∀ x, x < m.1.toNat → (∀ k', k' < k → x ≠ s.1.getD k' 0) → d.getD x 0 = d2.getD x 0
  val : ∀ k', k' < k → d.getD (s.1.getD k' 0) 0 = Int.tdiv (d2.getD (s.1.getD k' 0) 0) g
theorem T3.step {m : Int × Int × List Int} {s : List Nat × List Nat} {d2 d : List Int} {g : Int} {k : Nat} (hnd : s.1.Nodup) (hlt : ∀ x ∈ s.1, x < m.1.toNat) (h2 : k < s.1.length) (ht : T3 m s d2 g k d) :
    T3 m s d2 g (k + 1) (d.set (s.1.getD k 0) (Int.tdiv (d2.getD (s.1.getD k 0) 0) g)) := by
  have hx : s.1.getD k 0 < d.length := by rw [ht.len]; exact hlt _ (getD_mem 0 h2)
  refine ⟨by rw [List.length_set, ht.len], ?_, ?_⟩
  · intro x hx' hall
    rw [getD_put hx, if_neg (fun e => hall k (by omega) e.symm)]
    exact ht.out x hx' (fun t ht' => hall t (by omega))
  · intro t ht'
    by_cases e : t = k
    · subst e
      rw [getD_put hx, if_pos rfl]
    · rw [getD_put hx, if_neg (fun e' => e (nodup_getD hnd h2 (by omega) e').symm)]
      exact ht.val t (by omega)
theorem T3.cur {m : Int × Int × List Int} {s : List Nat × List Nat} {d2 d : List Int} {g : Int} {k : Nat} (hnd : s.1.Nodup) (hlt : ∀ x ∈ s.1, x < m.1.toNat) (h2 : k < s.1.length) (ht : T3 m s d2 g k d) :
    d.getD (s.1.getD k 0) 0 = d2.getD (s.1.getD k 0) 0 :=
  ht.out _ (hlt _ (getD_mem 0 h2)) (fun t ht' e => by have := nodup_getD hnd h2 (by omega) e; omega)
def Part (n : Nat) (A : Nat → Nat → Int) (d : Nat → Int) : Prop := ∀ j, j < n → 0 ≤ d j ∧ d j ≤ 9227446944279201 ∧
  (0 < d j → ∃ L : List Nat, j ∈ L ∧ (∀ k ∈ L, k < n ∧ 0 < d k) ∧ (∀ k, k < n → A j k ≠ 0 → k ∈ L) ∧ gcdL (L.map d) = 1 ∧ ∀ e, Good n A e → ∀ k ∈ L, d j * e k = d k * e j)
theorem tree_prop {m : Int × Int × List Int} {s : List Nat × List Nat} {d0 d : List Int} {g : Int} {i : Nat} (hs : sizesK m = true) (h : PInv m.1.toNat (ent m) i s) (ht : T2 m s d0 s.1.length d g) {e : Nat → Int} (he : Good m.1.toNat (ent m) e) :
    ∀ k, k < s.1.length → d.getD i 0 * e (s.1.getD k 0) = d.getD (s.1.getD k 0) 0 * e i := by
  intro k
  induction k using Nat.strongRecOn with
  | _ k ih =>
    intro hk
    by_cases h0 : k = 0
    · subst h0
      rw [h.hd]
    · obtain ⟨k', h3, h4, h5⟩ := h.src k (by omega) hk
      have h6 := ih k' h3 (by omega)
      rw [← h4] at h6
      have hlk := h.lt _ (getD_mem 0 hk)
      have hfk := src_lt h (show 1 ≤ k by omega) hk
      have h7 := abs_edge (he _ hfk).1 (he _ hlk).1 ((he _ hfk).2 _ hlk)
      have h8 := ht.tree k (by omega) hk
      obtain ⟨⟨hq, _⟩, hp, _⟩ := pq_range hs h (show 1 ≤ k by omega) hk
      rw [show absK (ent m (s.1.getD k 0) (s.2.getD k 0)) = qK m s k by rw [qK, if_neg h0]] at h7
      have h7' : e (s.2.getD k 0) * pK m s k = e (s.1.getD k 0) * qK m s k := h7
      have h9 : d.getD (s.2.getD k 0) 0 * e (s.1.getD k 0) = d.getD (s.1.getD k 0) 0 * e (s.2.getD k 0) :=
        prop_edge' (p := pK m s k) (q := -(qK m s k)) (by omega) (he _ hfk).1 (by rw [Int.mul_neg, Int.neg_neg]; exact h8.symm) (by rw [Int.mul_neg, Int.neg_neg]; exact h7') (by omega)
      have := (he _ hfk).1
      exact prop_trans (by omega) h6 h9
theorem part_step {m : Int × Int × List Int} {s : List Nat × List Nat} {d0 d2 d : List Int} {g : Int} {i : Nat} (hs : sizesK m = true) (hi : i < m.1.toNat) (h : PInv m.1.toNat (ent m) i s) (hn : m.1.toNat ≤ 5)
    (hcl : ∀ x ∈ s.1, ∀ j, j < m.1.toNat → ent m x j ≠ 0 → j ∈ s.1)
    (h0 : Part m.1.toNat (ent m) (fun x => d0.getD x 0)) (hz : d0.getD i 0 ≤ 0) (h2 : T2 m s d0 s.1.length d2 g) (h3 : T3 m s d2 g s.1.length d) :
    Part m.1.toNat (ent m) (fun x => d.getD x 0) ∧ 0 < d.getD i 0 ∧ ∀ x, x < m.1.toNat → 0 < d0.getD x 0 → 0 < d.getD x 0 := by
  have hg := h2.g_range h.pos
  have hle := h.le
  have hnew : ∀ k, k < s.1.length → d0.getD (s.1.getD k 0) 0 ≤ 0 := by
    intro k
    induction k using Nat.strongRecOn with
    | _ k ih =>
      intro hk
      by_cases hk0 : k = 0
      · subst hk0; rw [h.hd]; exact hz
      · obtain ⟨k', a1, a2, a3⟩ := h.src k (by omega) hk
        have b1 := ih k' a1 (by omega)
        rw [← a2] at b1
        rcases Int.lt_or_le 0 (d0.getD (s.1.getD k 0) 0) with hc | hc
        · have hlk := h.lt _ (getD_mem 0 hk)
          have hfk := src_lt h (show 1 ≤ k by omega) hk
          obtain ⟨L, c1, c2, c3, _⟩ := (h0 _ hlk).2.2 hc
          have b4 : 0 < d0.getD (s.2.getD k 0) 0 := (c2 _ (c3 _ hfk (fun e => a3 ((sizes_zero hs hlk hfk).1 e)))).2
          have b2 : d0.getD (s.2.getD k 0) 0 ≤ 0 := b1
          omega
        · exact hc
  have hin : ∀ x ∈ s.1, d.getD x 0 * g = d2.getD x 0 ∧ 0 < d.getD x 0 ∧ d.getD x 0 ≤ 9227446944279201 := by
    intro x hx
    obtain ⟨k, hk, rfl⟩ := mem_getD hx
    have a1 := h3.val k hk
    obtain ⟨b1, b2, _⟩ := h2.val k hk
    have b3 : g ∣ d2.getD (s.1.getD k 0) 0 := by
      rw [h2.gcd]
      exact gcdL_dvd (List.mem_map.2 ⟨k, List.mem_range.2 hk, rfl⟩)
    have b4 : d.getD (s.1.getD k 0) 0 * g = d2.getD (s.1.getD k 0) 0 := by rw [a1]; exact Int.tdiv_mul_cancel b3
    have b5 := pow99 (k := 4 + k) (by omega)
    have b6 : 0 < d.getD (s.1.getD k 0) 0 := by
      rcases Int.lt_or_le 0 (d.getD (s.1.getD k 0) 0) with hc | hc
      · exact hc
      · have := Int.mul_nonpos_of_nonpos_of_nonneg hc (Int.le_of_lt hg.1); omega
    refine ⟨b4, b6, ?_⟩
    have := Int.mul_le_mul_of_nonneg_left (show (1 : Int) ≤ g by omega) (Int.le_of_lt b6)
    omega
  have hout : ∀ x, x < m.1.toNat → x ∉ s.1 → d.getD x 0 = d0.getD x 0 := by
    intro x hx hni
    have hne : ∀ k', k' < s.1.length → x ≠ s.1.getD k' 0 := fun k' hk' e => hni (by rw [e]; exact getD_mem 0 hk')
    rw [h3.out x hx hne, h2.out x hx hne]
  have himem : i ∈ s.1 := by rw [← h.hd]; exact getD_mem 0 h.pos
  refine ⟨?_, (hin i himem).2.1, ?_⟩
  · intro j hj
    by_cases hm : j ∈ s.1
    · obtain ⟨a1, a2, a3⟩ := hin j hm
      refine ⟨Int.le_of_lt a2, a3, fun _ => ⟨s.1, hm, fun k hk => ⟨h.lt k hk, (hin k hk).2.1⟩, fun k hk ha => hcl j hm k hk ha, ?_, ?_⟩⟩
      · have e1 : s.1.map (fun x => g * d.getD x 0) = s.1.map (fun x => d2.getD x 0) := List.map_congr_left (fun x hx => by rw [Int.mul_comm]; exact (hin x hx).1)
        have e2 := gcdL_mul g (s.1.map (fun x => d.getD x 0))
        rw [List.map_map] at e2
        have e3 : gcdL (s.1.map (fun x => d2.getD x 0)) = g.natAbs * gcdL (s.1.map (fun x => d.getD x 0)) := by rw [← e1]; exact e2
        have e4 : g = ((gcdL (s.1.map (fun x => d2.getD x 0)) : Nat) : Int) := by
          rw [← range_getD s.1 (fun x => d2.getD x 0)]
          exact h2.gcd
        have e5 : gcdL (s.1.map (fun x => d2.getD x 0)) = g.natAbs := by
          have := congrArg Int.natAbs e4
          simpa using this.symm
        rw [e5] at e3
        exact Nat.eq_of_mul_eq_mul_left (show 0 < g.natAbs by omega) (by rw [Nat.mul_one]; exact e3.symm)
      · intro e he k hk
        have key : ∀ x ∈ s.1, d.getD i 0 * e x = d.getD x 0 * e i := by
          intro x hx
          obtain ⟨kx, hkx, rfl⟩ := mem_getD hx
          have c1 := tree_prop hs h h2 he kx hkx
          rw [← (hin i himem).1, ← (hin _ hx).1] at c1
          have c2 : g * (d.getD i 0 * e (s.1.getD kx 0)) = g * (d.getD (s.1.getD kx 0) 0 * e i) := by
            rw [← Int.mul_assoc, ← Int.mul_assoc, Int.mul_comm g, Int.mul_comm g]
            exact c1
          exact Int.eq_of_mul_eq_mul_left (by omega) c2
        have := (he i hi).1
        exact prop_trans (b := d.getD i 0) (f := e i) (by omega) (key j hm).symm (key k hk)
    · have e := hout j hj hm
      obtain ⟨a1, a2, a3⟩ := h0 j hj
      show 0 ≤ d.getD j 0 ∧ d.getD j 0 ≤ _ ∧ (0 < d.getD j 0 → _)
      rw [e]
      refine ⟨a1, a2, fun hpos => ?_⟩
      obtain ⟨L, b1, b2, b3, b4, b5⟩ := a3 hpos
      have hL : ∀ k ∈ L, d.getD k 0 = d0.getD k 0 := fun k hk => hout k (b2 k hk).1 (fun hc => by
        obtain ⟨kx, hkx, e'⟩ := mem_getD hc
        have := hnew kx hkx
        rw [e'] at this
        have b6 : 0 < d0.getD k 0 := (b2 k hk).2
        omega)
      refine ⟨L, b1, fun k hk => ⟨(b2 k hk).1, by show 0 < d.getD k 0; rw [hL k hk]; exact (b2 k hk).2⟩, b3, ?_, ?_⟩
      · rw [show L.map (fun x => d.getD x 0) = L.map (fun x => d0.getD x 0) from List.map_congr_left hL]; exact b4
      · intro e' he' k hk
        show d.getD j 0 * e' k = d.getD k 0 * e' j
        rw [hL k hk, e]
        exact b5 e' he' k hk
  · intro x hx hp
    by_cases hm : x ∈ s.1
    · exact (hin x hm).2.1
    · rw [hout x hx hm]; exact hp
theorem part_fac {m : Int × Int × List Int} {d : List Int} (hl : d.length = m.1.toNat) (h : Part m.1.toNat (ent m) (fun x => d.getD x 0)) (hp : ∀ x, x < m.1.toNat → 0 < d.getD x 0)
    (hc : ∀ i, i < m.1.toNat → ∀ j, j < m.1.toNat → d.getD i 0 * ent m i j = -(d.getD j 0 * ent m j i)) : facK m = d := by
  refine fac_is hl (fun i hi => ⟨hp i hi, hc i hi⟩) (fun i hi => ?_)
  obtain ⟨L, a1, a2, a3, a4, a5⟩ := (h i hi).2.2 (hp i hi)
  exact ⟨L, fun k hk => (a2 k hk).1, a4, a5⟩
theorem part_edge {m : Int × Int × List Int} {d : List Int} (hs : sizesK m = true) (h : Part m.1.toNat (ent m) (fun x => d.getD x 0)) (hp : ∀ x, x < m.1.toNat → 0 < d.getD x 0) {e : Nat → Int} (he : Good m.1.toNat (ent m) e)
    {i j : Nat} (hi : i < m.1.toNat) (hj : j < m.1.toNat) : d.getD i 0 * ent m i j = -(d.getD j 0 * ent m j i) := by
  by_cases ha : ent m i j = 0
  · rw [ha, (sizes_zero hs hi hj).1 ha]; simp
  · obtain ⟨L, a1, a2, a3, a4, a5⟩ := (h i hi).2.2 (hp i hi)
    exact prop_edge (he i hi).1 (he j hj).1 (a5 e he j (a3 j hj ha)) ((he i hi).2 j hj)
theorem part_none {m : Int × Int × List Int} {d : List Int} (hs : sizesK m = true) (h : Part m.1.toNat (ent m) (fun x => d.getD x 0)) (hp : ∀ x, x < m.1.toNat → 0 < d.getD x 0)
    {i j : Nat} (hi : i < m.1.toNat) (hj : j < m.1.toNat) (hc : d.getD i 0 * ent m i j ≠ -(d.getD j 0 * ent m j i)) : facK m = [] := by
  refine fac_none (fun ⟨e, he⟩ => hc ?_)
  by_cases ha : ent m i j = 0
  · rw [ha, (sizes_zero hs hi hj).1 ha]; simp
  · obtain ⟨L, a1, a2, a3, a4, a5⟩ := (h i hi).2.2 (hp i hi)
    exact prop_edge (he i hi).1 (he j hj).1 (a5 e he j (a3 j hj ha)) ((he i hi).2 j hj)
end Go.Fw
namespace Go.Fw
def rowD (m : Int × Int × List Int) (i : Nat) : List Int := (m.2.2.drop (i * m.1.toNat)).take m.1.toNat
noncomputable def rowsT (m : Int × Int × List Int) : List (List UInt8) := (List.range m.2.1.toNat).map fun i => itoasL (rowD m i)
noncomputable def fmtM (m : Int × Int × List Int) : ByteArray := txt (Lib.join (rowsT m) [59, 32])
theorem rowD_ok {m : Int × Int × List Int} (h : shapedK m = true) (i : Nat) : rowP (rowD m i) = true := by
  simp only [shapedK, Bool.and_eq_true] at h
  obtain ⟨n, r, hn, hr, hn1, hn5, hnr, hr8, hl⟩ := dim_nat h.1
  simp only [rowP, Bool.and_eq_true, decide_eq_true_eq]
  refine ⟨?_, ?_⟩
  · unfold rowD
    rw [List.length_take]
    omega
  · rw [List.all_eq_true]
    intro x hx
    have hx2 := List.mem_of_mem_drop (List.mem_of_mem_take hx)
    have := inK_iff.1 ((List.all_eq_true.1 h.2) x hx2)
    simp only [i64P, Bool.and_eq_true, decide_eq_true_eq]
    omega
theorem rowD_len {m : Int × Int × List Int} (h : shapedK m = true) (i : Nat) : (itoasL (rowD m i)).length ≤ 110 := by
  have h1 := rowD_ok h i
  simp only [rowP, Bool.and_eq_true] at h1
  have := itoas_len h1.2
  simp only [shapedK, Bool.and_eq_true] at h
  obtain ⟨n, r, hn, hr, hn1, hn5, hnr, hr8, hl⟩ := dim_nat h.1
  have : (rowD m i).length ≤ 5 := by
    unfold rowD
    rw [List.length_take]
    omega
  omega
theorem rowsT_len (m : Int × Int × List Int) : (rowsT m).length = m.2.1.toNat := by simp [rowsT]
theorem rowsT_get {m : Int × Int × List Int} {j : Nat} (h : j < m.2.1.toNat) : (rowsT m).getD j [] = itoasL (rowD m j) := by
  unfold rowsT
  rw [List.getD_eq_getElem?_getD, List.getElem?_map, List.getElem?_range h]
  rfl
theorem part_len {m : Int × Int × List Int} (h : shapedK m = true) (j : Nat) : (Lib.join ((rowsT m).take j) [59, 32]).length ≤ 112 * j := by
  have := join_len (B := 110) (sep := [59, 32]) (xs := (rowsT m).take j) fun x hx => by
    obtain ⟨i, _, rfl⟩ := List.mem_map.1 (List.mem_of_mem_take hx)
    exact rowD_len h i
  rw [List.length_take] at this
  have h2 : (110 + ([59, 32] : List UInt8).length) * min j (rowsT m).length ≤ 112 * j := Nat.mul_le_mul (by simp) (Nat.min_le_left _ _)
  omega
end Go.Fw
namespace Go.Fw
theorem idx_hit (x t : List UInt8) (hx : ∀ b ∈ x, b ≠ 59) : Lib.index (x ++ 59 :: 32 :: t) [59, 32] = x.length := by
  refine Lib.index_first (by simp) (by simp [Lib.occAt, List.isPrefixOf]) fun j hj => ?_
  have hlt : j < (x ++ 59 :: 32 :: t).length := by simp; omega
  unfold Lib.occAt
  rw [List.drop_eq_getElem_cons hlt, List.getElem_append_left hj]
  have := hx x[j] (List.getElem_mem hj)
  simp [List.isPrefixOf]
  intro e
  exact absurd e.symm this
theorem idx_miss (x : List UInt8) (hx : ∀ b ∈ x, b ≠ 59) : Lib.index x [59, 32] = -1 := by
  refine Lib.index_none fun j hj => ?_
  unfold Lib.occAt
  by_cases h : j < x.length
  · rw [List.drop_eq_getElem_cons h]
    have := hx x[j] (List.getElem_mem h)
    simp [List.isPrefixOf]
    intro e
    exact absurd e.symm this
  · rw [List.drop_of_length_le (by omega)]
    rfl
theorem join2_cons (x y : List UInt8) (ys : List (List UInt8)) : Lib.join (x :: y :: ys) [59, 32] = x ++ 59 :: 32 :: Lib.join (y :: ys) [59, 32] := by
  rw [Lib.join_cons, Lib.join_cons]
  simp [Lib.joinTail]
theorem drop2 (x t : List UInt8) : (x ++ 59 :: 32 :: t).drop (x.length + 2) = t := by
  rw [List.drop_append, List.drop_of_length_le (by omega)]
  simp
theorem splitK2 : ∀ (rows : List (List UInt8)), rows ≠ [] → (∀ x ∈ rows, ∀ b ∈ x, b ≠ (59 : UInt8)) → Lib.splitK [59, 32] 0 (rows.length - 1) (Lib.join rows [59, 32]) = rows
  | [], h, _ => absurd rfl h
  | [x], _, _ => by
    rw [Lib.join_one]
    rfl
  | x :: y :: ys, _, h => by
    have ih := splitK2 (y :: ys) (by simp) fun z hz => h z (List.mem_cons_of_mem _ hz)
    have hx := h x (List.mem_cons_self ..)
    rw [join2_cons]
    have e : (x :: y :: ys).length - 1 = ((y :: ys).length - 1) + 1 := by simp
    rw [e, Lib.splitK, idx_hit x _ hx, if_neg (by simp)]
    have e2 : ((x.length : Nat) : Int).toNat = x.length := Int.toNat_natCast _
    rw [e2, Nat.add_zero, List.take_left, show x.length + ([59, 32] : List UInt8).length = x.length + 2 from rfl, drop2, ih]
theorem countF2 : ∀ (rows : List (List UInt8)) (fuel : Nat), rows ≠ [] → rows.length ≤ fuel → (∀ x ∈ rows, ∀ b ∈ x, b ≠ (59 : UInt8)) → Lib.countFrom [59, 32] fuel (Lib.join rows [59, 32]) = rows.length - 1
  | [], _, h, _, _ => absurd rfl h
  | [x], 0, _, hf, _ => by simp at hf
  | [x], fuel + 1, _, _, h => by
    rw [Lib.join_one, Lib.countFrom, idx_miss x (h x (List.mem_cons_self ..))]
    rfl
  | x :: y :: ys, 0, _, hf, _ => by simp at hf
  | x :: y :: ys, fuel + 1, _, hf, h => by
    have ih := countF2 (y :: ys) fuel (by simp) (by simp at hf ⊢; omega) fun z hz => h z (List.mem_cons_of_mem _ hz)
    rw [join2_cons, Lib.countFrom, idx_hit x _ (h x (List.mem_cons_self ..)), if_neg (by simp)]
    have e2 : ((x.length : Nat) : Int).toNat = x.length := Int.toNat_natCast _
    rw [e2, show x.length + ([59, 32] : List UInt8).length = x.length + 2 from rfl, drop2, ih]
    simp
    omega
theorem join_ge {rows : List (List UInt8)} : rows.length ≤ (Lib.join rows [59, 32]).length + 1 := by
  have : ∀ (rows : List (List UInt8)), rows ≠ [] → rows.length ≤ (Lib.join rows [59, 32]).length + 1 := by
    intro rows
    induction rows with
    | nil => intro h; exact absurd rfl h
    | cons x xs ih =>
      intro _
      cases xs with
      | nil => simp
      | cons y ys =>
        have := ih (by simp)
        rw [join2_cons]
        simp at this ⊢
        omega
  cases rows with
  | nil => simp
  | cons x xs => exact this _ (by simp)
theorem split_two {rows : List (List UInt8)} (h0 : rows ≠ []) (h : ∀ x ∈ rows, ∀ b ∈ x, b ≠ (59 : UInt8)) :
    Lib.splitB ⟨#[59, 32]⟩ 0 (Lib.countB (txt (Lib.join rows [59, 32])) ⟨#[59, 32]⟩) (txt (Lib.join rows [59, 32])) = rows.map txt := by
  have hd : (⟨#[59, 32]⟩ : ByteArray).data.toList = [59, 32] := rfl
  have hc : Lib.countB (txt (Lib.join rows [59, 32])) ⟨#[59, 32]⟩ = rows.length - 1 := by
    show Lib.count (txt (Lib.join rows [59, 32])).data.toList (⟨#[59, 32]⟩ : ByteArray).data.toList = _
    rw [txt_data, hd, Lib.count]
    exact countF2 rows _ h0 join_ge h
  have h2 := Lib.splitB_data ⟨#[59, 32]⟩ 0 (rows.length - 1) (txt (Lib.join rows [59, 32]))
  rw [txt_data, hd, splitK2 rows h0 h] at h2
  rw [hc]
  generalize Lib.splitB ⟨#[59, 32]⟩ 0 (rows.length - 1) (txt (Lib.join rows [59, 32])) = q at h2
  rw [← h2, List.map_map]
  have e : (txt ∘ fun x : ByteArray => x.data.toList) = id := by
    funext x
    simp [txt]
  rw [e, List.map_id]
end Go.Fw
namespace Go.Fw
theorem itoa_ne (n : Int) : Lib.itoa n ≠ [] := by
  unfold Lib.itoa
  split
  · simp
  · exact dec_ne _
theorem itoas_ne {row : List Int} (h : row ≠ []) : itoasL row ≠ [] := by
  cases row with
  | nil => exact absurd rfl h
  | cons x xs =>
    unfold itoasL
    rw [List.map_cons, Lib.join_cons]
    have := itoa_ne x
    simp [this]
theorem prt_row {row : List Int} (h : row ≠ []) : prtB (itoasB row) = row.map itoaB := by
  have hd : (itoasB row).data.toList = Lib.join (row.map Lib.itoa) [32] := by simp [itoasB, itoasL]
  unfold prtB
  rw [hd, parts_join (row.map Lib.itoa) (by simpa using h) fun x hx => by
    obtain ⟨n, _, rfl⟩ := List.mem_map.1 hx
    exact itoa_no32 n, List.map_map]
  rfl
theorem allP_can : ∀ {row : List Int}, (∀ n ∈ row, inK n (-999999999) 999999999 = true) → allP partS (row.map itoaB) = some row
  | [], _ => rfl
  | n :: ns, h => by
    rw [List.map_cons, allP, part_can (h n (List.mem_cons_self ..)), allP_can fun m hm => h m (List.mem_cons_of_mem _ hm)]
theorem parse_row {row : List Int} (h : row ≠ []) (hr : ∀ n ∈ row, inK n (-999999999) 999999999 = true) : parseS (itoasB row) = (row, true) := by
  unfold parseS
  rw [if_neg, prt_row h, allP_can hr]
  intro he
  have e := strEq_iff.1 he
  have := congrArg (fun b : ByteArray => b.data.toList) e
  simp [itoasB] at this
  exact itoas_ne h this
theorem itoas_no59 (row : List Int) : ∀ b ∈ itoasL row, b ≠ (59 : UInt8) := by
  have hd : ∀ u, ∀ b ∈ Lib.decDigits u, b ≠ (59 : UInt8) := fun u b hb e => by
    have := List.all_eq_true.1 (dec_all u) b hb
    simp only [digB, Bool.and_eq_true, decide_eq_true_eq] at this
    subst e
    have : (59 : UInt8).toNat = 59 := rfl
    omega
  have hi : ∀ n, ∀ b ∈ Lib.itoa n, b ≠ (59 : UInt8) := fun n b hb => by
    unfold Lib.itoa at hb
    split at hb
    · rcases List.mem_cons.1 hb with rfl | hb
      · decide
      · exact hd _ b hb
    · exact hd _ b hb
  intro b hb
  unfold itoasL at hb
  cases row with
  | nil => simp [Lib.join_nil] at hb
  | cons x xs =>
    rw [List.map_cons, Lib.join_cons] at hb
    rcases List.mem_append.1 hb with hb | hb
    · exact hi x b hb
    · unfold Lib.joinTail at hb
      obtain ⟨l, hl, hb⟩ := List.mem_flatten.1 hb
      obtain ⟨z, hz, rfl⟩ := List.mem_map.1 hl
      obtain ⟨n, _, rfl⟩ := List.mem_map.1 hz
      rcases List.mem_append.1 hb with hb | hb
      · simp at hb
        subst hb
        decide
      · exact hi n b hb
end Go.Fw
namespace Go.Fw
def cutP (i : Nat) (p : ByteArray) : ByteArray := if decide (0 < i) = true then (if decide (0 < (p.size : Int)) = true then p.extract 1 p.size else p) else p
noncomputable def goS : List ByteArray → Nat → List Int → Int → Option (List Int × Int)
  | [], _, out, c => some (out, c)
  | p :: ps, i, out, c => if (parseS (cutP i p)).2 = true then goS ps (i + 1) (out ++ (parseS (cutP i p)).1) ((parseS (cutP i p)).1.length : Int) else none
noncomputable def goI : List ByteArray → List Int → Int → Nat → Option (List Int × Int × Nat)
  | [], out, c, r => some (out, c, r)
  | p :: ps, out, c, r => if (parseI p).2 = true then (if decide (0 < r) = true then (if ((parseI p).1.length : Int) = c then goI ps (out ++ (parseI p).1) ((parseI p).1.length : Int) (r + 1) else none) else goI ps (out ++ (parseI p).1) ((parseI p).1.length : Int) (r + 1)) else none
theorem goI_rows {c : Nat} : ∀ (rows : List (List Int)) (out : List Int) (r : Nat) (c0 : Int), (∀ x ∈ rows, x ≠ [] ∧ x.length = c ∧ ∀ n ∈ x, inK n (-999999999) 999999999 = true) → (0 < r → c0 = c) → rows ≠ [] →
    goI (rows.map itoasB) out c0 r = some (out ++ rows.flatten, (c : Int), r + rows.length)
  | [], _, _, _, _, _, h => absurd rfl h
  | x :: xs, out, r, c0, hx, hc, _ => by
    obtain ⟨h1, h2, h3⟩ := hx x (List.mem_cons_self ..)
    have hp : parseI (itoasB x) = (x, true) := (parse_same _).trans (parse_row h1 h3)
    have e : goI ((x :: xs).map itoasB) out c0 r = goI (xs.map itoasB) (out ++ x) (c : Int) (r + 1) := by
      rw [List.map_cons, goI, hp, if_pos rfl]
      by_cases h : 0 < r
      · rw [if_pos (dt h), if_pos (by rw [h2]; exact (hc h).symm), h2]
      · rw [if_neg (by simp [h]), h2]
    rw [e]
    by_cases hn : xs = []
    · subst hn
      simp [goI]
    · rw [goI_rows xs (out ++ x) (r + 1) c (fun y hy => hx y (List.mem_cons_of_mem _ hy)) (fun _ => rfl) hn]
      simp
      omega
theorem goS_rows {c : Nat} : ∀ (rows : List (List Int)) (i : Nat) (out : List Int) (c0 : Int), (∀ x ∈ rows, x ≠ [] ∧ x.length = c ∧ ∀ n ∈ x, inK n (-999999999) 999999999 = true) → rows ≠ [] → ∀ (ps : List ByteArray), ps.length = rows.length → (∀ (j : Nat), j < rows.length → cutP (i + j) (ps.getD j ByteArray.empty) = itoasB (rows.getD j [])) →
    goS ps i out c0 = some (out ++ rows.flatten, (c : Int))
  | [], _, _, _, _, h, _, _, _ => absurd rfl h
  | x :: xs, i, out, c0, hx, _, [], hl, _ => by simp at hl
  | x :: xs, i, out, c0, hx, _, p :: ps, hl, hps => by
    obtain ⟨h1, h2, h3⟩ := hx x (List.mem_cons_self ..)
    have hp : cutP i p = itoasB x := hps 0 (by simp)
    rw [goS, hp, parse_row h1 h3, if_pos rfl, h2]
    by_cases hn : xs = []
    · subst hn
      have : ps = [] := by cases ps with
        | nil => rfl
        | cons y ys => simp at hl
      subst this
      simp [goS]
    · have := goS_rows xs (i + 1) (out ++ x) c (fun y hy => hx y (List.mem_cons_of_mem _ hy)) hn ps (by simpa using hl) fun j hj => by
        have := hps (j + 1) (by simp; omega)
        rw [show i + 1 + j = i + (j + 1) by omega]
        simpa using this
      show goS ps (i + 1) (out ++ x) (c : Int) = _
      rw [this]
      simp
theorem parts59 (p : UInt8 → Bool) (hp : ∀ b, p b = true ↔ b = 59) : ∀ (ys : List (List UInt8)) (x : List UInt8), (∀ z ∈ x :: ys, ∀ b ∈ z, b ≠ (59 : UInt8)) → partsK p (Lib.join (x :: ys) [59, 32]) = x :: ys.map (32 :: ·)
  | [], x, h => by
    have hx : ∀ b ∈ x, p b = false := fun b hb => by
      have := h x (List.mem_cons_self ..) b hb
      cases hq : p b with
      | false => rfl
      | true => exact absurd ((hp b).1 hq) this
    rw [Lib.join_one]
    have := parts_app (p := p) x [] hx
    rw [List.append_nil] at this
    rw [this]
    simp [partsK, glue]
  | y :: ys, x, h => by
    have hx : ∀ b ∈ x, p b = false := fun b hb => by
      have := h x (List.mem_cons_self ..) b hb
      cases hq : p b with
      | false => rfl
      | true => exact absurd ((hp b).1 hq) this
    have h32 : ¬ p 32 = true := fun e => absurd ((hp 32).1 e) (by decide)
    have ih := parts59 p hp ys y fun z hz => h z (List.mem_cons_of_mem _ hz)
    rw [join2_cons, parts_app _ _ hx, glue_sep ((hp 59).2 rfl), partsK, if_neg h32, ih]
    rfl
def rowsK (m : Int × Int × List Int) : List (List Int) := (List.range m.2.1.toNat).map (rowD m)
theorem rowsT_map (m : Int × Int × List Int) : rowsT m = (rowsK m).map itoasL := by simp [rowsT, rowsK]
theorem flat_rows (n : Nat) (l : List Int) : ∀ r, ((List.range r).map fun i => (l.drop (i * n)).take n).flatten = l.take (r * n)
  | 0 => by simp
  | r + 1 => by
    rw [List.range_succ, List.map_append, List.flatten_append, flat_rows n l r, Nat.add_mul, Nat.one_mul, List.take_add]
    simp
theorem rowsK_facts {m : Int × Int × List Int} (h : shapedK m = true) : (∀ x ∈ rowsK m, x ≠ [] ∧ x.length = m.1.toNat ∧ ∀ n ∈ x, inK n (-999999999) 999999999 = true) ∧ rowsK m ≠ [] ∧ (rowsK m).length = m.2.1.toNat ∧ (rowsK m).flatten = m.2.2 := by
  simp only [shapedK, Bool.and_eq_true] at h
  obtain ⟨n, r, hn, hr, hn1, hn5, hnr, hr8, hl⟩ := dim_nat h.1
  have en : m.1.toNat = n := by omega
  have er : m.2.1.toNat = r := by omega
  refine ⟨fun x hx => ?_, fun e => ?_, by simp [rowsK], ?_⟩
  · obtain ⟨i, hi, rfl⟩ := List.mem_map.1 hx
    have hi := List.mem_range.1 hi
    have hlt : i * n + n ≤ m.2.2.length := by
      have := Nat.mul_le_mul_right n (show i + 1 ≤ r by omega)
      rw [Nat.add_mul, Nat.one_mul] at this
      rw [hl]
      exact this
    have hlen : (rowD m i).length = n := by
      unfold rowD
      rw [en, List.length_take, List.length_drop]
      omega
    refine ⟨fun e => ?_, by rw [hlen, en], fun k hk => ?_⟩
    · rw [e] at hlen
      simp at hlen
      omega
    · have hx2 := List.mem_of_mem_drop (List.mem_of_mem_take hk)
      have := inK_iff.1 ((List.all_eq_true.1 h.2) k hx2)
      exact inK_iff.2 ⟨by omega, by omega⟩
  · have := congrArg List.length e
    simp [rowsK] at this
    omega
  · have := flat_rows n m.2.2 r
    unfold rowsK
    rw [er]
    have e2 : rowD m = fun i => (m.2.2.drop (i * n)).take n := by
      funext i
      unfold rowD
      rw [en]
    rw [e2, this]
    exact List.take_of_length_le (by omega)
theorem read_I {m : Int × Int × List Int} (h : shapedK m = true) : goI (Lib.splitB ⟨#[59, 32]⟩ 0 (Lib.countB (fmtM m) ⟨#[59, 32]⟩) (fmtM m)) [] 0 0 = some (m.2.2, m.1, m.2.1.toNat) := by
  obtain ⟨h1, h2, h3, h4⟩ := rowsK_facts h
  have hd := h
  simp only [shapedK, Bool.and_eq_true] at hd
  obtain ⟨n, r, hn, hr, hn1, hn5, hnr, hr8, hl⟩ := dim_nat hd.1
  have e : Lib.splitB ⟨#[59, 32]⟩ 0 (Lib.countB (fmtM m) ⟨#[59, 32]⟩) (fmtM m) = (rowsK m).map itoasB := by
    have := split_two (rows := rowsT m) (by rw [rowsT_map]; simpa using h2) fun x hx => by
      rw [rowsT_map] at hx
      obtain ⟨z, _, rfl⟩ := List.mem_map.1 hx
      exact itoas_no59 z
    refine this.trans ?_
    rw [rowsT_map, List.map_map]
    rfl
  rw [e, goI_rows (rowsK m) [] 0 0 h1 (fun h => absurd h (by omega)) h2, h3, h4]
  simp
  omega
theorem read_S {m : Int × Int × List Int} (h : shapedK m = true) (p : UInt8 → Bool) (hp : ∀ b, p b = true ↔ b = 59) :
    ((partsK p (fmtM m).data.toList).map baOf).length = m.2.1.toNat ∧ goS (((partsK p (fmtM m).data.toList).map baOf).take 9) 0 [] 0 = some (m.2.2, m.1) := by
  obtain ⟨h1, h2, h3, h4⟩ := rowsK_facts h
  have hd := h
  simp only [shapedK, Bool.and_eq_true] at hd
  obtain ⟨n, r, hn, hr, hn1, hn5, hnr, hr8, hl⟩ := dim_nat hd.1
  have hf : (fmtM m).data.toList = Lib.join (rowsT m) [59, 32] := txt_data _
  cases hq : rowsK m with
  | nil => exact absurd hq h2
  | cons x xs =>
    have e : partsK p (fmtM m).data.toList = itoasL x :: (xs.map itoasL).map (32 :: ·) := by
      rw [hf, rowsT_map, hq, List.map_cons]
      refine parts59 p hp _ _ fun z hz => ?_
      rw [← List.map_cons] at hz
      obtain ⟨w, _, rfl⟩ := List.mem_map.1 hz
      exact itoas_no59 w
    have hlen : ((partsK p (fmtM m).data.toList).map baOf).length = m.2.1.toNat := by
      rw [e, ← h3, hq]
      simp
    refine ⟨hlen, ?_⟩
    rw [List.take_of_length_le (by omega)]
    rw [goS_rows (c := m.1.toNat) (rowsK m) 0 [] 0 h1 h2 _ (by rw [hlen, h3]) fun j hj => ?_, h4]
    · simp
      omega
    · rw [e, hq, Nat.zero_add]
      cases j with
      | zero => rfl
      | succ j =>
        have hj : j < xs.length := by rw [hq] at hj; simpa using hj
        have e1 : ((itoasL x :: (xs.map itoasL).map (32 :: ·)).map baOf).getD (j + 1) ByteArray.empty = baOf (32 :: itoasL xs[j]) := by
          simp [List.getD_eq_getElem?_getD, hj]
        have e2 : (x :: xs).getD (j + 1) [] = xs[j] := by
          simp [List.getD_eq_getElem?_getD, hj]
        rw [e1, e2]
        unfold cutP
        have hs : (baOf (32 :: itoasL xs[j])).size = (itoasL xs[j]).length + 1 := by
          rw [Lib.size_eq]
          simp [baOf]
        rw [if_pos (dt (by omega)), if_pos (dt (by omega))]
        have : (baOf (32 :: itoasL xs[j])).extract 1 (baOf (32 :: itoasL xs[j])).size = baOf (itoasL xs[j]) := by
          rw [← baOf_data ((baOf (32 :: itoasL xs[j])).extract 1 _), Lib.extract_data, hs]
          simp [baOf]
        rw [this]
        rfl
def no3 : (Int × Int × List Int) × Bool := ((0, 0, []), false)
noncomputable def partsS (s : ByteArray) : List ByteArray := (partsK (fun b => decide ((b.toNat : Int) = 59)) s.data.toList).map baOf
noncomputable def endPS (s : ByteArray) (m : Int × Int × List Int) : (Int × Int × List Int) × Bool := if strEq (if (sizesK m && !decide (facK m = [])) = true then fmtM m else ByteArray.empty) s = true then (if strEq s ByteArray.empty = true then no3 else (m, true)) else no3
noncomputable def endPI (s : ByteArray) (m : Int × Int × List Int) : (Int × Int × List Int) × Bool := if (shapedK m && !decide (facK m = [])) = true then (if strEq (if (shapedK m && !decide (facK m = [])) = true then fmtM m else ByteArray.empty) s = true then (m, true) else no3) else no3
noncomputable def readS (s : ByteArray) : (Int × Int × List Int) × Bool := match goS ((partsS s).take 9) 0 [] 0 with
  | some q => endPS s (q.2, ((partsS s).length : Int), q.1)
  | none => no3
noncomputable def readI (s : ByteArray) : (Int × Int × List Int) × Bool := match goI (Lib.splitB ⟨#[59, 32]⟩ 0 (Lib.countB s ⟨#[59, 32]⟩) s) [] 0 0 with
  | some q => endPI s (q.2.1, (q.2.2 : Int), q.1)
  | none => no3
theorem endPS_cases {s : ByteArray} {m : Int × Int × List Int} : endPS s m = no3 ∨ (endPS s m = (m, true) ∧ shapedK m = true ∧ facK m ≠ [] ∧ fmtM m = s) := by
  unfold endPS
  by_cases h1 : strEq (if (sizesK m && !decide (facK m = [])) = true then fmtM m else ByteArray.empty) s = true
  · rw [if_pos h1]
    by_cases h2 : strEq s ByteArray.empty = true
    · exact .inl (if_pos h2)
    · refine .inr ⟨if_neg h2, ?_⟩
      have e := strEq_iff.1 h1
      by_cases h3 : (sizesK m && !decide (facK m = [])) = true
      · rw [if_pos h3] at e
        simp only [Bool.and_eq_true, Bool.not_eq_true', decide_eq_false_iff_not] at h3
        exact ⟨sizes_shaped h3.1, h3.2, e⟩
      · rw [if_neg h3] at e
        exact absurd (strEq_iff.2 e.symm) h2
  · exact .inl (if_neg h1)
theorem endPI_cases {s : ByteArray} {m : Int × Int × List Int} : endPI s m = no3 ∨ (endPI s m = (m, true) ∧ shapedK m = true ∧ facK m ≠ [] ∧ fmtM m = s) := by
  unfold endPI
  by_cases h3 : (shapedK m && !decide (facK m = [])) = true
  · rw [if_pos h3, if_pos h3]
    by_cases h1 : strEq (fmtM m) s = true
    · simp only [Bool.and_eq_true, Bool.not_eq_true', decide_eq_false_iff_not] at h3
      exact .inr ⟨if_pos h1, h3.1, h3.2, strEq_iff.1 h1⟩
    · exact .inl (if_neg h1)
  · exact .inl (if_neg h3)
theorem fmt_ne {m : Int × Int × List Int} (h : shapedK m = true) : strEq (fmtM m) ByteArray.empty ≠ true := fun he => by
  obtain ⟨h1, h2, h3, h4⟩ := rowsK_facts h
  have e := congrArg (fun b : ByteArray => b.data.toList) (strEq_iff.1 he)
  have hf : (fmtM m).data.toList = Lib.join (rowsT m) [59, 32] := txt_data _
  have e : (fmtM m).data.toList = [] := by simpa using e
  rw [hf, rowsT_map] at e
  cases hq : rowsK m with
  | nil => exact h2 hq
  | cons x xs =>
    rw [hq, List.map_cons, Lib.join_cons] at e
    have := itoas_ne (h1 x (by rw [hq]; exact List.mem_cons_self ..)).1
    exact this (List.append_eq_nil_iff.1 e).1
theorem readS_right {m : Int × Int × List Int} (h : shapedK m = true) (hf : facK m ≠ []) : readS (fmtM m) = (m, true) := by
  have hd := h
  simp only [shapedK, Bool.and_eq_true] at hd
  obtain ⟨n, r, hn, hr, hn1, hn5, hnr, hr8, hl⟩ := dim_nat hd.1
  obtain ⟨h1, h2⟩ := read_S h (fun b => decide ((b.toNat : Int) = 59)) fun b => by
    rw [decide_eq_true_eq]
    constructor
    · intro e
      exact UInt8.toNat_inj.1 (by show b.toNat = 59; omega)
    · intro e
      subst e
      rfl
  unfold readS partsS
  rw [h2, h1]
  have e : ((m.1, ((m.2.1.toNat : Nat) : Int), m.2.2) : Int × Int × List Int) = m := by
    rw [show ((m.2.1.toNat : Nat) : Int) = m.2.1 by omega]
  show endPS (fmtM m) (m.1, ((m.2.1.toNat : Nat) : Int), m.2.2) = _
  rw [e]
  unfold endPS
  have hz : (sizesK m && !decide (facK m = [])) = true := by rw [fac_sizes h hf]; simpa using hf
  rw [if_pos hz, if_pos (strEq_iff.2 rfl), if_neg (fmt_ne h)]
theorem readI_right {m : Int × Int × List Int} (h : shapedK m = true) (hf : facK m ≠ []) : readI (fmtM m) = (m, true) := by
  have hd := h
  simp only [shapedK, Bool.and_eq_true] at hd
  obtain ⟨n, r, hn, hr, hn1, hn5, hnr, hr8, hl⟩ := dim_nat hd.1
  unfold readI
  rw [read_I h]
  have e : ((m.1, ((m.2.1.toNat : Nat) : Int), m.2.2) : Int × Int × List Int) = m := by
    rw [show ((m.2.1.toNat : Nat) : Int) = m.2.1 by omega]
  show endPI (fmtM m) (m.1, ((m.2.1.toNat : Nat) : Int), m.2.2) = _
  rw [e]
  unfold endPI
  have hz : (shapedK m && !decide (facK m = [])) = true := by rw [h]; simpa using hf
  rw [if_pos hz, if_pos hz, if_pos (strEq_iff.2 rfl)]
theorem readS_cases (s : ByteArray) : readS s = no3 ∨ ∃ m, readS s = (m, true) ∧ shapedK m = true ∧ facK m ≠ [] ∧ fmtM m = s := by
  unfold readS
  cases goS ((partsS s).take 9) 0 [] 0 with
  | none => exact .inl rfl
  | some q =>
    rcases endPS_cases (s := s) (m := (q.2, ((partsS s).length : Int), q.1)) with h | h
    · exact .inl h
    · exact .inr ⟨_, h⟩
theorem readI_cases (s : ByteArray) : readI s = no3 ∨ ∃ m, readI s = (m, true) ∧ shapedK m = true ∧ facK m ≠ [] ∧ fmtM m = s := by
  unfold readI
  cases goI (Lib.splitB ⟨#[59, 32]⟩ 0 (Lib.countB s ⟨#[59, 32]⟩) s) [] 0 0 with
  | none => exact .inl rfl
  | some q =>
    rcases endPI_cases (s := s) (m := (q.2.1, (q.2.2 : Int), q.1)) with h | h
    · exact .inl h
    · exact .inr ⟨_, h⟩
theorem read_same (s : ByteArray) : readI s = readS s := by
  rcases readS_cases s with h | ⟨m, h, h1, h2, h3⟩
  · rcases readI_cases s with h' | ⟨m, h', h1, h2, h3⟩
    · rw [h, h']
    · have := readS_right h1 h2
      rw [h3, h] at this
      have := congrArg Prod.snd this
      exact absurd this (by simp [no3])
  · rw [h, ← h3]
    exact readI_right h1 h2
theorem parseS_len {s : ByteArray} (h : s.size ≤ 1048576) : (parseS s).1.length ≤ 1048577 := by
  have hl := prt_len s
  unfold parseS
  split
  · decide
  · cases hq : allP partS (prtB s) with
    | none => decide
    | some l =>
      obtain ⟨_, hm⟩ := allP_SI hq
      have := congrArg List.length hm
      rw [List.length_map] at this
      show l.length ≤ _
      omega
theorem count2_le : ∀ (fuel : Nat) (l : List UInt8), 2 * Lib.countFrom [59, 32] fuel l ≤ l.length
  | 0, l => by simp [Lib.countFrom]
  | fuel + 1, l => by
    rw [Lib.countFrom]
    by_cases h : (Lib.index l [59, 32] == -1) = true
    · rw [if_pos h]
      omega
    · rw [if_neg h]
      have hge := Lib.index_ge l [59, 32]
      have hne : Lib.index l [59, 32] ≠ -1 := fun e => h (beq_iff_eq.2 e)
      have hr := Lib.index_room l [59, 32] (by omega)
      have h2 : ([59, 32] : List UInt8).length = 2 := rfl
      rw [h2] at hr ⊢
      have ih := count2_le fuel (l.drop ((Lib.index l [59, 32]).toNat + 2))
      rw [List.length_drop] at ih
      omega
theorem splitB_sz (sep : ByteArray) : ∀ (k : Nat) (s : ByteArray), ∀ w ∈ Lib.splitB sep 0 k s, w.size ≤ s.size
  | 0, s, w, hw => by
    rw [Lib.splitB_zero, List.mem_singleton] at hw
    rw [hw]
    exact Nat.le_refl _
  | k + 1, s, w, hw => by
    by_cases h : Lib.indexB s sep = -1
    · rw [Lib.splitB_miss _ _ _ _ h, List.mem_singleton] at hw
      rw [hw]
      exact Nat.le_refl _
    · have hge : -1 ≤ Lib.indexB s sep := Lib.index_ge _ _
      obtain ⟨i, hi⟩ := Int.eq_ofNat_of_zero_le (show 0 ≤ Lib.indexB s sep by omega)
      rw [Lib.splitB_hit _ _ _ _ i hi] at hw
      rcases List.mem_cons.1 hw with rfl | hw
      · rw [ByteArray.size_extract]
        omega
      · have := splitB_sz sep k _ w hw
        rw [ByteArray.size_extract] at this
        omega
theorem split2_sizes (s : ByteArray) : 2 * (Lib.splitB ⟨#[59, 32]⟩ 0 (Lib.countB s ⟨#[59, 32]⟩) s).length ≤ s.size + 2 ∧ ∀ w ∈ Lib.splitB ⟨#[59, 32]⟩ 0 (Lib.countB s ⟨#[59, 32]⟩) s, w.size ≤ s.size := by
  refine ⟨?_, splitB_sz _ _ _⟩
  have h1 := Lib.splitB_length_le ⟨#[59, 32]⟩ 0 (Lib.countB s ⟨#[59, 32]⟩) s
  have h2 : 2 * Lib.countB s ⟨#[59, 32]⟩ ≤ s.size := by
    rw [Lib.size_eq]
    exact count2_le _ _
  omega
end Go.Fw
namespace Go.Fw
def Edge (A : Nat → Nat → Int) (L : List Nat) (num den : List Int) (x k : Nat) : Prop := (A x k = 0 ∧ A k x = 0) ∨ (k ∈ L ∧ num.getD x 0 * A x k * den.getD k 0 = -(num.getD k 0 * A k x * den.getD x 0))
structure FInv (n : Nat) (A : Nat → Nat → Int) (s : Nat) (num0 : List Int) (L : List Nat) (num den : List Int) : Prop where
  nl : num.length = n
  dl : den.length = n
  nd : L.Nodup
  lt : ∀ x ∈ L, x < n
  hd : L.getD 0 0 = s
  pos : 0 < L.length
  out : ∀ x, x < n → x ∉ L → num.getD x 0 = num0.getD x 0
  new : ∀ x ∈ L, num0.getD x 0 = 0
  frac : ∃ Q : Int, 0 < Q ∧ Q ≤ 99 ^ (L.length - 1) ∧ ∀ x ∈ L, 0 < num.getD x 0 ∧ num.getD x 0 ≤ 99 ^ (L.length - 1) ∧ 0 < den.getD x 0 ∧ den.getD x 0 ∣ Q ∧ Int.gcd (num.getD x 0) (den.getD x 0) = 1
  good : ∀ e, Good n A e → ∀ x ∈ L, num.getD x 0 * e s = den.getD x 0 * e x
theorem FInv.le {n : Nat} {A : Nat → Nat → Int} {s : Nat} {num0 num den : List Int} {L : List Nat} (h : FInv n A s num0 L num den) : L.length ≤ n := nodup_len n L h.nd h.lt
def Closed (n : Nat) (A : Nat → Nat → Int) (num0 : List Int) : Prop := ∀ y, y < n → num0.getD y 0 ≠ 0 → ∀ k, k < n → (A y k ≠ 0 ∨ A k y ≠ 0) → num0.getD k 0 ≠ 0
theorem frac_eq {a b c d : Int} (ha : 0 < a) (hb : 0 < b) (hc : 0 < c) (hd : 0 < d) (h1 : Int.gcd a b = 1) (h2 : Int.gcd c d = 1) (h : a * d = c * b) : a = c ∧ b = d := by
  obtain ⟨a, rfl⟩ := Int.eq_ofNat_of_zero_le (Int.le_of_lt ha)
  obtain ⟨b, rfl⟩ := Int.eq_ofNat_of_zero_le (Int.le_of_lt hb)
  obtain ⟨c, rfl⟩ := Int.eq_ofNat_of_zero_le (Int.le_of_lt hc)
  obtain ⟨d, rfl⟩ := Int.eq_ofNat_of_zero_le (Int.le_of_lt hd)
  have h3 : a * d = c * b := by exact_mod_cast h
  have e1 : a ∣ c := Nat.Coprime.dvd_of_dvd_mul_right (k := a) (n := b) h1 ⟨d, h3.symm⟩
  have e2 : c ∣ a := Nat.Coprime.dvd_of_dvd_mul_right (k := c) (n := d) h2 ⟨b, h3⟩
  have e3 := Nat.dvd_antisymm e1 e2
  subst e3
  exact ⟨rfl, by rw [Nat.eq_of_mul_eq_mul_left (by omega) h3]⟩
section
variable {n : Nat} {A : Nat → Nat → Int} {s p j : Nat} {num0 num den : List Int} {L : List Nat}
structure StepN (A : Nat → Nat → Int) (x j : Nat) (num den : List Int) (a0 b0 g a b : Int) : Prop where
  ea0 : a0 = num.getD x 0 * absK (A x j)
  eb0 : b0 = den.getD x 0 * absK (A j x)
  eg : g = (Int.gcd a0 b0 : Int)
  gp : 0 < g
  a0p : 0 < a0
  b0p : 0 < b0
  ea : a * g = a0
  eb : b * g = b0
  ap : 0 < a
  bp : 0 < b
  co : Int.gcd a b = 1
theorem stepN (x j : Nat) (hx : 0 < num.getD x 0) (hd : 0 < den.getD x 0) (h1 : A x j ≠ 0) (h2 : A j x ≠ 0) :
    StepN A x j num den (num.getD x 0 * absK (A x j)) (den.getD x 0 * absK (A j x)) (Int.gcd (num.getD x 0 * absK (A x j)) (den.getD x 0 * absK (A j x)))
      (Int.tdiv (num.getD x 0 * absK (A x j)) (Int.gcd (num.getD x 0 * absK (A x j)) (den.getD x 0 * absK (A j x)))) (Int.tdiv (den.getD x 0 * absK (A j x)) (Int.gcd (num.getD x 0 * absK (A x j)) (den.getD x 0 * absK (A j x)))) := by
  have a0p : 0 < num.getD x 0 * absK (A x j) := Int.mul_pos hx (absK_pos h1)
  have b0p : 0 < den.getD x 0 * absK (A j x) := Int.mul_pos hd (absK_pos h2)
  generalize ha0 : num.getD x 0 * absK (A x j) = a0 at a0p ⊢
  generalize hb0 : den.getD x 0 * absK (A j x) = b0 at b0p ⊢
  have gp : 0 < (Int.gcd a0 b0 : Int) := by
    have := Int.gcd_pos_of_ne_zero_left b0 (show a0 ≠ 0 by omega)
    omega
  have ea : Int.tdiv a0 (Int.gcd a0 b0) * (Int.gcd a0 b0 : Int) = a0 := Int.tdiv_mul_cancel (Int.gcd_dvd_left ..)
  have eb : Int.tdiv b0 (Int.gcd a0 b0) * (Int.gcd a0 b0 : Int) = b0 := Int.tdiv_mul_cancel (Int.gcd_dvd_right ..)
  have pos : ∀ c d : Int, 0 < d → 0 < c * d → 0 < c := fun c d hd h => by
    rcases Int.lt_or_le 0 c with h' | h'
    · exact h'
    · have := Int.mul_nonpos_of_nonpos_of_nonneg h' (Int.le_of_lt hd); omega
  refine ⟨ha0.symm, hb0.symm, rfl, gp, a0p, b0p, ea, eb, pos _ _ gp (by rw [ea]; exact a0p), pos _ _ gp (by rw [eb]; exact b0p), ?_⟩
  have h3 : Int.gcd (Int.tdiv a0 (Int.gcd a0 b0) * (Int.gcd a0 b0 : Int)) (Int.tdiv b0 (Int.gcd a0 b0) * (Int.gcd a0 b0 : Int)) = Int.gcd a0 b0 := by rw [ea, eb]
  rw [Int.gcd_mul_right, Int.natAbs_natCast] at h3
  have gp' : 0 < Int.gcd a0 b0 := by omega
  exact Nat.eq_of_mul_eq_mul_right gp' (by rw [h3, Nat.one_mul])
def Skew (A : Nat → Nat → Int) (x j : Nat) : Prop := ∃ u : Int, (u = 1 ∨ u = -1) ∧ A x j = u * absK (A x j) ∧ A j x = -(u * absK (A j x))
theorem skew_of {x j : Nat} (h1 : A x j ≠ 0) (h2 : A j x ≠ 0) (h : (0 < A x j) ↔ (0 < -A j x)) : Skew A x j := by
  unfold Skew absK
  by_cases hp : 0 < A x j
  · have := h.1 hp
    exact ⟨1, Or.inl rfl, by omega, by omega⟩
  · have : ¬ 0 < -A j x := fun hc => hp (h.2 hc)
    exact ⟨-1, Or.inr rfl, by omega, by omega⟩
theorem step_good {x : Nat} {a0 b0 g a b : Int} (st : StepN A x j num den a0 b0 g a b) (hx : x < n) (hj : j < n) {e : Nat → Int} (he : Good n A e) (hg : num.getD x 0 * e s = den.getD x 0 * e x) : a * e s = b * e j := by
  have h1 := abs_edge (he x hx).1 (he j hj).1 ((he x hx).2 j hj)
  have h2 := st.ea0
  have h3 := st.eb0
  have h4 := st.ea
  have h5 := st.eb
  have h6 : g * (a * e s) = g * (b * e j) := by grind
  exact Int.eq_of_mul_eq_mul_left (by have := st.gp; omega) h6
theorem step_edge {x : Nat} {a0 b0 g a b : Int} (st : StepN A x j num den a0 b0 g a b) (sk : Skew A x j) : num.getD x 0 * A x j * b = -(a * A j x * den.getD x 0) := by
  obtain ⟨u, hu, h1, h2⟩ := sk
  have h3 := st.ea0
  have h4 := st.eb0
  have h5 := st.ea
  have h6 := st.eb
  rw [h1, h2]
  grind
theorem FInv.grow {a0 b0 g a b : Int} (h : FInv n A s num0 L num den) (hp : p < L.length) (hj : j < n) (hz : num.getD j 0 = 0) (st : StepN A (L.getD p 0) j num den a0 b0 g a b) (hb : ∀ x y, absK (A x y) ≤ 99) :
    FInv n A s num0 (L ++ [j]) (num.set j a) (den.set j b) ∧ j ∉ L := by
  obtain ⟨Q, q1, q2, q3⟩ := h.frac
  have hxm : L.getD p 0 ∈ L := getD_mem 0 hp
  have hnj : j ∉ L := fun hc => by have := (q3 j hc).1; omega
  have hxj : ∀ x ∈ L, j ≠ x := fun x hx e => hnj (e ▸ hx)
  have hnl : j < num.length := by rw [h.nl]; exact hj
  have hdl : j < den.length := by rw [h.dl]; exact hj
  have e1 : ∀ x ∈ L, (num.set j a).getD x 0 = num.getD x 0 := fun x hx => by rw [getD_put hnl, if_neg (hxj x hx)]
  have e2 : ∀ x ∈ L, (den.set j b).getD x 0 = den.getD x 0 := fun x hx => by rw [getD_put hdl, if_neg (hxj x hx)]
  have e3 : (num.set j a).getD j 0 = a := by rw [getD_put hnl, if_pos rfl]
  have e4 : (den.set j b).getD j 0 = b := by rw [getD_put hdl, if_pos rfl]
  have hlen : (L ++ [j]).length - 1 = L.length - 1 + 1 := by have := h.pos; simp; omega
  have hpp : (0 : Int) ≤ 99 ^ (L.length - 1) := Int.pow_nonneg (by omega)
  refine ⟨⟨by rw [List.length_set, h.nl], by rw [List.length_set, h.dl], ?_, ?_, (getD_append_lt h.pos).trans h.hd, by simp, ?_, ?_, ?_, ?_⟩, hnj⟩
  · exact List.nodup_append.2 ⟨h.nd, by simp, fun a ha' b hb e => by
      rw [List.mem_singleton] at hb; subst hb; subst e; exact hnj ha'⟩
  · intro x hx
    rcases List.mem_append.1 hx with hx | hx
    · exact h.lt x hx
    · rw [List.mem_singleton] at hx; omega
  · intro x hx hni
    rw [List.mem_append, List.mem_singleton] at hni
    rw [getD_put hnl, if_neg (fun e => hni (Or.inr e.symm))]
    exact h.out x hx (fun hc => hni (Or.inl hc))
  · intro x hx
    rcases List.mem_append.1 hx with hx | hx
    · exact h.new x hx
    · rw [List.mem_singleton] at hx
      subst hx
      rw [← h.out x hj hnj]
      exact hz
  · obtain ⟨c1, c2, c3, c4, c5⟩ := q3 _ hxm
    have ga : a ≤ a0 := by
      have := Int.mul_le_mul_of_nonneg_left (show (1 : Int) ≤ g by have := st.gp; omega) (Int.le_of_lt st.ap)
      have := st.ea
      omega
    have hq1 : 0 < absK (A j (L.getD p 0)) := by
      have h1 := st.b0p
      rw [st.eb0] at h1
      rcases Int.lt_or_le 0 (absK (A j (L.getD p 0))) with h' | h'
      · exact h'
      · have := Int.mul_nonpos_of_nonneg_of_nonpos (Int.le_of_lt c3) h'; omega
    have hp1 : 0 ≤ absK (A (L.getD p 0) j) := by unfold absK; omega
    refine ⟨Q * absK (A j (L.getD p 0)), Int.mul_pos q1 hq1, ?_, ?_⟩
    · rw [hlen, Int.pow_succ]
      exact Int.mul_le_mul q2 (hb _ _) (by omega) hpp
    · intro x hx
      rcases List.mem_append.1 hx with hx | hx
      · rw [e1 x hx, e2 x hx]
        obtain ⟨d1, d2, d3, d4, d5⟩ := q3 x hx
        refine ⟨d1, ?_, d3, Int.dvd_trans d4 ⟨_, rfl⟩, d5⟩
        rw [hlen, Int.pow_succ]
        have := Int.mul_le_mul_of_nonneg_left (show (1 : Int) ≤ 99 by omega) hpp
        omega
      · rw [List.mem_singleton] at hx
        subst hx
        rw [e3, e4]
        refine ⟨st.ap, ?_, st.bp, ?_, st.co⟩
        · rw [hlen, Int.pow_succ]
          have : a0 ≤ 99 ^ (L.length - 1) * 99 := by
            rw [st.ea0]
            exact Int.mul_le_mul c2 (hb _ _) hp1 hpp
          omega
        · have h1 : b ∣ b0 := ⟨g, st.eb.symm⟩
          have h2 : b0 ∣ Q * absK (A x (L.getD p 0)) := by
            rw [st.eb0]
            exact Int.mul_dvd_mul c4 (Int.dvd_refl _)
          exact Int.dvd_trans h1 h2
  · intro e he x hx
    rcases List.mem_append.1 hx with hx | hx
    · rw [e1 x hx, e2 x hx]
      exact h.good e he x hx
    · rw [List.mem_singleton] at hx
      subst hx
      rw [e3, e4]
      exact step_good st (h.lt _ hxm) hj he (h.good e he _ hxm)
theorem Edge.grow {x k : Nat} {a b : Int} (hL : ∀ x ∈ L, j ≠ x) (hnl : j < num.length) (hdl : j < den.length) (hx : x ∈ L) (h : Edge A L num den x k) : Edge A (L ++ [j]) (num.set j a) (den.set j b) x k := by
  rcases h with h | ⟨h1, h2⟩
  · exact Or.inl h
  · refine Or.inr ⟨List.mem_append_left _ h1, ?_⟩
    rw [getD_put hnl, if_neg (hL x hx), getD_put hdl, if_neg (hL k h1), getD_put hnl, if_neg (hL k h1), getD_put hdl, if_neg (hL x hx)]
    exact h2
end
end Go.Fw
namespace Go.Fw
structure OInv (n : Nat) (A : Nat → Nat → Int) (num out : List Int) : Prop where
  nl : num.length = n
  ol : out.length = n
  closed : Closed n A num
  done : ∀ j, j < n → num.getD j 0 ≠ 0 → 0 < out.getD j 0 ∧ (∀ k, k < n → out.getD j 0 * A j k = -(out.getD k 0 * A k j)) ∧
    ∃ L : List Nat, (∀ k ∈ L, k < n ∧ num.getD k 0 ≠ 0) ∧ gcdL (L.map fun k => out.getD k 0) = 1 ∧ ∀ e, Good n A e → ∀ k ∈ L, out.getD j 0 * e k = out.getD k 0 * e j
section
variable {n : Nat} {A : Nat → Nat → Int} {s : Nat} {num0 num den out0 out2 out3 : List Int} {L : List Nat} {com g : Int}
theorem OInv.piece (h : OInv n A num0 out0) (f : FInv n A s num0 L num den) (he : ∀ x ∈ L, ∀ k, k < n → Edge A L num den x k) (hc : 0 < com) (hg : 0 < g)
    (h2 : ∀ x ∈ L, out2.getD x 0 * den.getD x 0 = com * num.getD x 0) (hgl : g = ((gcdL (L.map fun x => out2.getD x 0) : Nat) : Int))
    (h3 : ∀ x ∈ L, out3.getD x 0 * g = out2.getD x 0) (ho : ∀ x, x < n → x ∉ L → out3.getD x 0 = out0.getD x 0) (hl : out3.length = n) :
    OInv n A num out3 ∧ num.getD s 0 ≠ 0 ∧ ∀ x, x < n → num0.getD x 0 ≠ 0 → num.getD x 0 ≠ 0 := by
  obtain ⟨Q, q1, q2, q3⟩ := f.frac
  have hpos : ∀ x ∈ L, 0 < num.getD x 0 ∧ 0 < den.getD x 0 := fun x hx => ⟨(q3 x hx).1, (q3 x hx).2.2.1⟩
  have hk : ∀ x ∈ L, out3.getD x 0 * g * den.getD x 0 = com * num.getD x 0 := fun x hx => by rw [h3 x hx]; exact h2 x hx
  have hop : ∀ x ∈ L, 0 < out3.getD x 0 := fun x hx => by
    have h4 := Int.mul_pos hc (hpos x hx).1
    rw [← hk x hx] at h4
    rcases Int.lt_or_le 0 (out3.getD x 0) with h' | h'
    · exact h'
    · have h5 := Int.mul_nonpos_of_nonpos_of_nonneg h' (Int.le_of_lt hg)
      have h6 := Int.mul_nonpos_of_nonpos_of_nonneg h5 (Int.le_of_lt (hpos x hx).2)
      omega
  have hns : num.getD s 0 ≠ 0 := by
    have := (hpos s (by rw [← f.hd]; exact getD_mem 0 f.pos)).1
    omega
  have old : ∀ x, x < n → num0.getD x 0 ≠ 0 → x ∉ L := fun x hx h0 hc => h0 (f.new x hc)
  refine ⟨⟨f.nl, hl, ?_, ?_⟩, hns, fun x hx h0 => by rw [f.out x hx (old x hx h0)]; exact h0⟩
  · intro y hy h1 k hk' ha
    by_cases hm : y ∈ L
    · rcases he y hm k hk' with hz | hz
      · omega
      · have := (hpos k hz.1).1; omega
    · rw [f.out y hy hm] at h1
      have h4 := h.closed y hy h1 k hk' ha
      rw [f.out k hk' (old k hk' h4)]
      exact h4
  · intro j hj h1
    by_cases hm : j ∈ L
    · refine ⟨hop j hm, ?_, L, fun k hk' => ⟨f.lt k hk', by have := (hpos k hk').1; omega⟩, ?_, ?_⟩
      · intro k hk'
        rcases he j hm k hk' with ⟨z1, z2⟩ | ⟨z1, z2⟩
        · rw [z1, z2]; simp
        · have e1 := hk j hm
          have e2 := hk k z1
          have e3 : (g * den.getD j 0 * den.getD k 0) * (out3.getD j 0 * A j k) = (g * den.getD j 0 * den.getD k 0) * (-(out3.getD k 0 * A k j)) := by grind
          have e4 := Int.mul_pos (Int.mul_pos hg (hpos j hm).2) (hpos k z1).2
          exact Int.eq_of_mul_eq_mul_left (by omega) e3
      · have e1 : L.map (fun x => g * out3.getD x 0) = L.map (fun x => out2.getD x 0) := List.map_congr_left (fun x hx => by rw [Int.mul_comm]; exact h3 x hx)
        have e2 := gcdL_mul g (L.map (fun x => out3.getD x 0))
        rw [List.map_map] at e2
        have e3 : gcdL (L.map (fun x => out2.getD x 0)) = g.natAbs * gcdL (L.map (fun x => out3.getD x 0)) := by rw [← e1]; exact e2
        have e5 : gcdL (L.map (fun x => out2.getD x 0)) = g.natAbs := by
          have := congrArg Int.natAbs hgl
          simpa using this.symm
        rw [e5] at e3
        exact Nat.eq_of_mul_eq_mul_left (show 0 < g.natAbs by omega) (by rw [Nat.mul_one]; exact e3.symm)
      · intro e hge k hkL
        have key : ∀ x ∈ L, out3.getD x 0 * g * e s = com * e x := by
          intro x hx
          have e1 := hk x hx
          have e2 := f.good e hge x hx
          have e3 : den.getD x 0 * (out3.getD x 0 * g * e s) = den.getD x 0 * (com * e x) := by grind
          exact Int.eq_of_mul_eq_mul_left (by have := (hpos x hx).2; omega) e3
        have e1 := key j hm
        have e2 := key k hkL
        have hs : 0 < e s := (hge s (by rw [← f.hd]; exact f.lt _ (getD_mem 0 f.pos))).1
        have e3 : (g * e s) * (out3.getD j 0 * e k) = (g * e s) * (out3.getD k 0 * e j) := by grind
        have e4 := Int.mul_pos hg hs
        exact Int.eq_of_mul_eq_mul_left (by omega) e3
    · rw [f.out j hj hm] at h1
      obtain ⟨a1, a2, L', a3, a4, a5⟩ := h.done j hj h1
      rw [ho j hj hm]
      have hL' : ∀ k ∈ L', k ∉ L := fun k hk' => old k (a3 k hk').1 (a3 k hk').2
      refine ⟨a1, ?_, L', fun k hk' => ⟨(a3 k hk').1, by rw [f.out k (a3 k hk').1 (hL' k hk')]; exact (a3 k hk').2⟩, ?_, ?_⟩
      · intro k hk'
        by_cases hkL : k ∈ L
        · by_cases z1 : A j k = 0
          · by_cases z2 : A k j = 0
            · rw [z1, z2]; simp
            · exact absurd (f.new k hkL) (h.closed j hj h1 k hk' (Or.inr z2))
          · exact absurd (f.new k hkL) (h.closed j hj h1 k hk' (Or.inl z1))
        · rw [ho k hk' hkL]; exact a2 k hk'
      · rw [show L'.map (fun k => out3.getD k 0) = L'.map (fun k => out0.getD k 0) from List.map_congr_left (fun k hk' => ho k (a3 k hk').1 (hL' k hk'))]
        exact a4
      · intro e hge k hk'
        rw [ho k (a3 k hk').1 (hL' k hk')]
        exact a5 e hge k hk'
end
theorem OInv.fac {m : Int × Int × List Int} {num out : List Int} (h : OInv m.1.toNat (ent m) num out) (hp : ∀ x, x < m.1.toNat → num.getD x 0 ≠ 0) : facK m = out := by
  refine fac_is h.ol (fun i hi => ⟨(h.done i hi (hp i hi)).1, (h.done i hi (hp i hi)).2.1⟩) (fun i hi => ?_)
  obtain ⟨L, a1, a2, a3⟩ := (h.done i hi (hp i hi)).2.2
  exact ⟨L, fun k hk => (a1 k hk).1, a2, a3⟩
theorem lcm_step {c d Q : Int} (hc : 0 < c) (hd : 0 < d) (h1 : c ∣ Q) (h2 : d ∣ Q) (hQ : 0 < Q) :
    0 < (Int.gcd c d : Int) ∧ 0 < Int.tdiv c (Int.gcd c d) ∧ Int.tdiv c (Int.gcd c d) ≤ c ∧ 0 < Int.tdiv c (Int.gcd c d) * d ∧ Int.tdiv c (Int.gcd c d) * d ∣ Q ∧ c ∣ Int.tdiv c (Int.gcd c d) * d ∧ d ∣ Int.tdiv c (Int.gcd c d) * d := by
  obtain ⟨c, rfl⟩ := Int.eq_ofNat_of_zero_le (Int.le_of_lt hc)
  obtain ⟨d, rfl⟩ := Int.eq_ofNat_of_zero_le (Int.le_of_lt hd)
  obtain ⟨Q, rfl⟩ := Int.eq_ofNat_of_zero_le (Int.le_of_lt hQ)
  have e : Int.tdiv (c : Int) (Int.gcd (c : Int) (d : Int)) = ((c / Nat.gcd c d : Nat) : Int) := rfl
  rw [e]
  have hg : 0 < Nat.gcd c d := Nat.gcd_pos_of_pos_left d (by omega)
  have h3 : c / Nat.gcd c d * d = Nat.lcm c d := by
    rw [Nat.lcm, Nat.mul_comm, Nat.mul_comm c d, Nat.mul_div_assoc _ (Nat.gcd_dvd_left c d)]
  have h4 : 0 < c / Nat.gcd c d := Nat.div_pos (Nat.gcd_le_left d (by omega)) hg
  have h5 : c / Nat.gcd c d ≤ c := Nat.div_le_self _ _
  rw [← Int.natCast_mul, h3]
  have h6 : 0 < Nat.lcm c d := Nat.lcm_pos (by omega) (by omega)
  refine ⟨by show (0 : Int) < ((Nat.gcd c d : Nat) : Int); omega, by omega, by omega, by omega, ?_, ?_, ?_⟩
  · exact Int.natCast_dvd_natCast.2 (Nat.lcm_dvd (Int.natCast_dvd_natCast.1 h1) (Int.natCast_dvd_natCast.1 h2))
  · exact Int.natCast_dvd_natCast.2 (Nat.dvd_lcm_left c d)
  · exact Int.natCast_dvd_natCast.2 (Nat.dvd_lcm_right c d)
end Go.Fw
set_option maxRecDepth 100000
namespace Go.Fw
noncomputable section
variable {ρ : Type}
namespace laws_markIntS
def mk : List Int → Int → List Int × Int
  | [], k => ([], k)
  | _ :: xs, k => (k :: (mk xs (w64 (k + 1))).1, (mk xs (w64 (k + 1))).2)
def g (a : List Int) (k : Int) : List Int × Int := mk a k
end laws_markIntS
namespace laws_markIntS
def Z1 {ρ : Type} (N : Nat) (v0 : LI) (v1 : Int) (kn : LI → Int → Option ρ) : Option ρ :=
 kn v0 v1
def Z4 {ρ : Type} (N : Nat) (v0 : LI) (v1 : Int) (kn : LI → I2 (Option ρ)) : Option ρ :=
 kn v0 v1 0
def Z7 {ρ : Type} (N : Nat) (v0 : LI) (v1 v5 : Int) (kn : LI → I2 (Option ρ)) (k0 : LI → Int → Option ρ) : Option ρ :=
 cond (lk N (decide (v5 < (v0.length : Int))))
 (
  cond (lk N (inB v5 v0.length)) (
   kn (v0.set v5.toNat v1) (w64 (v1 + 1)) (w64 (v5 + 1))) none)
 (
  k0 v0 v1)
def Z6L {ρ : Type} (N : Nat) (k0 : LI → Int → Option ρ) : Nat → LI → Int → Int → Option ρ
  | 0, _, _, _ => none
  | M + 1, v0, v1, v5 => Z7 N v0 v1 v5 (fun v0 v1 v5 => Z6L N k0 M v0 v1 v5) k0
def Z6 N v0 v1 v5 k0 := (Z6L N k0 N v0 v1 v5 : Option ρ)
def Z5 N v0 v1 v5 kn := (Z6 N v0 v1 v5 kn : Option ρ)
def Z3 N v0 v1 kn := (Z4 N v0 v1 (fun v0 v1 v5 => Z5 N v0 v1 v5 kn) : Option ρ)
def Z8 {ρ : Type} (N : Nat) (io100000 : LI) (v1 : Int) (kr : LI → Int → Option ρ) : Option ρ :=
 kr io100000 v1
def Z2 N v0 v1 kr := (Z3 N v0 v1 (fun io100000 v1 => Z8 N io100000 v1 kr) : Option ρ)
def Z0 N v0 v1 kr := (Z1 N v0 v1 (fun v0 v1 => Z2 N v0 v1 kr) : Option ρ)
def Spec : Prop := ∀  (v0 : LI) (v1 : Int), Ty.bd (.sl 0 (.int .i64)) v0 → ∃ N0, ∀ N, N0 ≤ N → Z0 N v0 v1 (fun io100000 v4 => some (io100000, (v4, ()))) = some ((g v0 v1).1, ((g v0 v1).2, ()))
theorem loop {ρ : Type} (N : Nat) (k0 : List Int → Int → Option ρ) : ∀ (M j : Nat) (a : List Int) (k : Int), a.length ≤ maxLen → j ≤ a.length → a.length - j < M →
    Z6L N k0 M a k (j : Int) = k0 (a.take j ++ (mk (a.drop j) k).1) (mk (a.drop j) k).2 := by
  intro M
  induction M with
  | zero => intro j a k _ _ h; omega
  | succ M ih =>
    intro j a k ha hj hM
    simp only [Z6L, Z7]
    by_cases h : j < a.length
    · rw [ct (dt (by omega)), ct (inB_nat h), Int.toNat_natCast, w64_succ (by omega), ih (j + 1) _ _ (by simpa using ha) (by simp; omega) (by simp; omega), drop_getD 0 h,
        List.drop_set_of_lt (by omega), take_set_s (by omega)]
      simp [mk]
    · have : j = a.length := by omega
      subst this
      rw [cf (df (by omega))]
      simp [mk]
theorem ok : Spec := fun a k ha => ⟨a.length + 1, fun N hN => by
  simp only [Z1, Z4, Z7, Z6, Z5, Z3, Z8, Z2, Z0]
  rw [show (0 : Int) = ((0 : Nat) : Int) from rfl, loop _ _ _ 0 a k ha.1 (by omega) (by omega)]
  simp [g]⟩
theorem mk_len : ∀ (a : List Int) (k : Int), (mk a k).1.length = a.length
  | [], _ => rfl
  | _ :: xs, k => by simp [mk, mk_len xs]
theorem mk_end : ∀ (a : List Int) (k : Int), 0 ≤ k → k + a.length < 9223372036854775808 → (mk a k).2 = k + a.length
  | [], k, _, _ => by simp [mk]
  | _ :: xs, k, h0, h => by
    simp only [mk, List.length_cons] at h ⊢
    rw [w64_id (by omega) (by omega), mk_end xs (k + 1) (by omega) (by omega)]
    omega
end laws_markIntS
end
end Go.Fw
namespace Go.Fw
noncomputable section
variable {ρ : Type}
namespace laws_heldIntS
def hd : List Int → Int → Int
  | [], k => k
  | x :: xs, k => if x = k then hd xs (w64 (k + 1)) else -1
def g (a : List Int) (k : Int) : Int := hd a k
end laws_heldIntS
namespace laws_heldIntS
def Z1 {ρ : Type} (N : Nat) (v0 : LI) (v1 : Int) (kn : LI → Int → Option ρ) : Option ρ :=
 kn v0 v1
def Z4 {ρ : Type} (N : Nat) (v0 : LI) (v1 : Int) (kn : LI → I2 (Option ρ)) : Option ρ :=
 kn v0 v1 0
def Z7 {ρ : Type} (N : Nat) (v0 : LI) (v1 v5 : Int) (kn : LI → I2 (Option ρ)) (k0 kr : Int → Option ρ) : Option ρ :=
 cond (lk N (decide (v5 < (v0.length : Int))))
 (
  cond (lk N (inB v5 v0.length)) (
   cond (lk N (!(decide ((v0.getD v5.toNat 0) = v1))))
   (
    kr (-1))
   (
    kn v0 (w64 (v1 + 1)) (w64 (v5 + 1)))) none)
 (
  k0 v1)
def Z6L {ρ : Type} (N : Nat) (k0 kr : Int → Option ρ) : Nat → LI → Int → Int → Option ρ
  | 0, _, _, _ => none
  | M + 1, v0, v1, v5 => Z7 N v0 v1 v5 (fun v0 v1 v5 => Z6L N k0 kr M v0 v1 v5) k0 kr
def Z6 N v0 v1 v5 k0 kr := (Z6L N k0 kr N v0 v1 v5 : Option ρ)
def Z5 N v0 v1 v5 kn kr := (Z6 N v0 v1 v5 kn kr : Option ρ)
def Z3 N v0 v1 kn kr := (Z4 N v0 v1 (fun v0 v1 v5 => Z5 N v0 v1 v5 kn kr) : Option ρ)
def Z8 {ρ : Type} (N : Nat) (v1 : Int) (kr : Int → Option ρ) : Option ρ :=
 kr v1
def Z2 N v0 v1 kr := (Z3 N v0 v1 (fun v1 => Z8 N v1 kr) kr : Option ρ)
def Z0 N v0 v1 kr := (Z1 N v0 v1 (fun v0 v1 => Z2 N v0 v1 kr) : Option ρ)
def Spec : Prop := ∀  (v0 : LI) (v1 : Int), Ty.bd (.sl 0 (.int .i64)) v0 → ∃ N0, ∀ N, N0 ≤ N → Z0 N v0 v1 (fun v4 => some ((), (v4, ()))) = some ((), ((g v0 v1), ()))
theorem loop {ρ : Type} (N : Nat) (kr : Int → Option ρ) (a : List Int) (ha : a.length ≤ maxLen) : ∀ (M j : Nat) (k : Int), j ≤ a.length → a.length - j < M →
    Z6L N kr kr M a k (j : Int) = kr (hd (a.drop j) k) := by
  intro M
  induction M with
  | zero => intro j k _ h; omega
  | succ M ih =>
    intro j k hj hM
    simp only [Z6L, Z7]
    by_cases h : j < a.length
    · rw [ct (dt (by omega)), ct (inB_nat h), Int.toNat_natCast, w64_succ (by omega), ih (j + 1) _ h (by omega), drop_getD 0 h]
      by_cases e : a.getD j 0 = k
      · rw [cf (nf e), hd, if_pos e]
      · rw [ct (nt e), hd, if_neg e]
    · rw [cf (df (by omega)), List.drop_of_length_le (by omega), hd]
theorem ok : Spec := fun a k ha => ⟨a.length + 1, fun N hN => by
  simp only [Z1, Z4, Z7, Z6, Z5, Z3, Z8, Z2, Z0]
  rw [show (0 : Int) = ((0 : Nat) : Int) from rfl, loop _ _ a ha.1 N 0 k (by omega) (by omega)]
  simp [g]⟩
end laws_heldIntS
end
end Go.Fw
namespace Go.Fw
theorem heldInt_mark : ∀ (a : List Int) (k : Int), laws_heldIntS.g (laws_markIntS.g a k).1 k = (laws_markIntS.g a k).2
  | [], k => rfl
  | x :: xs, k => by
    have ih := heldInt_mark xs (w64 (k + 1))
    simp only [laws_heldIntS.g, laws_markIntS.g, laws_markIntS.mk, laws_heldIntS.hd, if_true] at ih ⊢
    exact ih
end Go.Fw
namespace Go.Fw
theorem int_mark (x : List Int) (h : x.length < 4611686018427387904) : laws_heldIntS.g (laws_markIntS.g x 1).1 1 = (laws_markIntS.g x 1).2 ∧ 0 ≤ (laws_markIntS.g x 1).2 := by
  refine ⟨heldInt_mark x 1, ?_⟩
  have := laws_markIntS.mk_end x 1 (by omega) (by omega)
  show 0 ≤ (laws_markIntS.mk x 1).2
  omega
end Go.Fw
namespace Go.Fw
noncomputable section
variable {ρ : Type}
namespace laws_markMatrix
def g (a : Int × Int × List Int) (k : Int) : (Int × Int × List Int) × Int := ((a.1, a.2.1, (laws_markIntS.g a.2.2 k).1), (laws_markIntS.g a.2.2 k).2)
end laws_markMatrix
namespace laws_markMatrix
def Z0 {ρ : Type} (N : Nat) (v0 : MT) (v1 : Int) (kr : LI → I3 (Option ρ)) : Option ρ :=
 kr (laws_markIntS.g v0.2.2 v1).1 (laws_markIntS.g v0.2.2 v1).2 v0.1 v0.2.1
def Spec : Prop := ∀  (v0 : MT) (v1 : Int), Ty.bd (.pair (.int .i64) (.pair (.int .i64) (.sl 0 (.int .i64)))) v0 → ∃ N0, ∀ N, N0 ≤ N → Z0 N v0 v1 (fun io100000_2 v4 io100000_0 io100000_1 => some ((io100000_0, (io100000_1, io100000_2)), (v4, ()))) = some ((g v0 v1).1, ((g v0 v1).2, ()))
theorem ok : Spec := fun a k ha => ⟨0, fun N hN => by simp only [Z0, g]⟩
end laws_markMatrix
end
end Go.Fw
namespace Go.Fw
theorem mark_two (m : Int × Int × List Int) (l : List Int) (h1 : m.2.2.length ≤ 1048576) (h2 : l.length ≤ 1048576) : ¬ (laws_markIntS.g l (laws_markMatrix.g m 1).2).2 < 0 := by
  have e1 : (laws_markMatrix.g m 1).2 = 1 + m.2.2.length := laws_markIntS.mk_end m.2.2 1 (by omega) (by omega)
  rw [e1]
  have e2 : (laws_markIntS.g l (1 + (m.2.2.length : Int))).2 = 1 + (m.2.2.length : Int) + l.length := laws_markIntS.mk_end l _ (by omega) (by omega)
  rw [e2]
  omega
end Go.Fw
namespace Go.Fw
noncomputable section
variable {ρ : Type}
namespace laws_heldMatrix
def g (a : Int × Int × List Int) (left : Int) : Int := if laws_heldIntS.g a.2.2 left < 0 then -1 else laws_heldIntS.g a.2.2 left
end laws_heldMatrix
namespace laws_heldMatrix
def Z0 {ρ : Type} (N : Nat) (v0 : MT) (v1 : Int) (kr : Int → Option ρ) : Option ρ :=
 cond (lk N (decide ((laws_heldIntS.g v0.2.2 v1) < 0)))
 (
  kr (-1))
 (
  kr (laws_heldIntS.g v0.2.2 v1))
def Spec : Prop := ∀  (v0 : MT) (v1 : Int), Ty.bd (.pair (.int .i64) (.pair (.int .i64) (.sl 0 (.int .i64)))) v0 → ∃ N0, ∀ N, N0 ≤ N → Z0 N v0 v1 (fun v4 => some ((), (v4, ()))) = some ((), ((g v0 v1), ()))
theorem ok : Spec := fun a left ha => ⟨0, fun N hN => by
  simp only [Z0, g]
  by_cases h : laws_heldIntS.g a.2.2 left < 0
  · rw [ct (dt h), if_pos h]
  · rw [cf (df h), if_neg h]⟩
end laws_heldMatrix
end
end Go.Fw
namespace Go.Fw
theorem mat_mark (x : Int × Int × List Int) (hs : x.2.2.length < 4611686018427387904) : laws_heldMatrix.g (x.1, (x.2.1, (laws_markMatrix.g x 1).1.2.2)) 1 = (laws_markMatrix.g x 1).2 ∧ ¬ (laws_markMatrix.g x 1).2 < 0 := by
  obtain ⟨h1, h2⟩ := int_mark _ hs
  have hn : ¬ (laws_markIntS.g x.2.2 1).2 < 0 := by omega
  refine ⟨?_, hn⟩
  unfold laws_heldMatrix.g
  show (if laws_heldIntS.g (laws_markIntS.g x.2.2 1).1 1 < 0 then -1 else laws_heldIntS.g (laws_markIntS.g x.2.2 1).1 1) = (laws_markIntS.g x.2.2 1).2
  rw [h1, if_neg hn]
end Go.Fw
namespace Go.Fw
noncomputable section
variable {ρ : Type}
namespace spec_l1Split
def P (s : ByteArray) (_ : Int) : Bool := decide (s.size ≤ 1048576)
def g (s : ByteArray) (by_ : Int) : List ByteArray := (partsK (fun b => decide ((b.toNat : Int) = by_)) s.data.toList).map baOf
end spec_l1Split
namespace spec_l1Split
def Z1 {ρ : Type} (N : Nat) (v0 : ByteArray) (v1 : Int) (kn : ByteArray → Int → Option ρ) : Option ρ :=
 kn v0 v1
def Z3 {ρ : Type} (N : Nat) (v0 : ByteArray) (v1 : Int) (kn : List ByteArray → ByteArray → Int → Option ρ) : Option ρ :=
 kn ([] : List ByteArray) v0 v1
def Z5 {ρ : Type} (N : Nat) (v5 : List ByteArray) (v0 : ByteArray) (v1 : Int) (kn : List ByteArray → ByteArray → I2 (Option ρ)) : Option ρ :=
 kn v5 v0 v1 0
def Z8 {ρ : Type} (N : Nat) (v5 : List ByteArray) (v0 : ByteArray) (v1 v6 : Int) (kn : List ByteArray → ByteArray → I3 (Option ρ)) : Option ρ :=
 kn v5 v0 v1 v6 0
def Z11 {ρ : Type} (N : Nat) (v5 : List ByteArray) (v0 : ByteArray) (v1 v6 v7 : Int) (kn : List ByteArray → ByteArray → I3 (Option ρ)) (k0 : List ByteArray → Option ρ) : Option ρ :=
 cond (lk N (decide (v7 ≤ (v0.size : Int))))
 (
  cond (lk N (decide (v7 = (v0.size : Int))))
  (
   cond (lk N (leB 0 v6 && (leB v6 v7 && leB v7 v0.size))) (
    cond (lk N (Nat.blt (v5.length + ([(v0.extract v6.toNat v7.toNat)] : List ByteArray).length) 1099511627776)) (
     kn (v5 ++ ([(v0.extract v6.toNat v7.toNat)] : List ByteArray)) v0 v1 (w64 (v7 + 1)) (w64 (v7 + 1))) none) none)
  (
   cond (lk N (decide (0 ≤ v7) && decide (v7 < (v0.size : Int)))) (
    cond (lk N (decide ((bt v0 v7) = v1)))
    (
     cond (lk N (leB 0 v6 && (leB v6 v7 && leB v7 v0.size))) (
      cond (lk N (Nat.blt (v5.length + ([(v0.extract v6.toNat v7.toNat)] : List ByteArray).length) 1099511627776)) (
       kn (v5 ++ ([(v0.extract v6.toNat v7.toNat)] : List ByteArray)) v0 v1 (w64 (v7 + 1)) (w64 (v7 + 1))) none) none)
    (
     kn v5 v0 v1 v6 (w64 (v7 + 1)))) none))
 (
  k0 v5)
def Z10L {ρ : Type} (N : Nat) (k0 : List ByteArray → Option ρ) : Nat → List ByteArray → ByteArray → Int → Int → Int → Option ρ
  | 0, _, _, _, _, _ => none
  | M + 1, v5, v0, v1, v6, v7 => Z11 N v5 v0 v1 v6 v7 (fun v5 v0 v1 v6 v7 => Z10L N k0 M v5 v0 v1 v6 v7) k0
def Z10 N v5 v0 v1 v6 v7 k0 := (Z10L N k0 N v5 v0 v1 v6 v7 : Option ρ)
def Z9 N v5 v0 v1 v6 v7 kn := (Z10 N v5 v0 v1 v6 v7 kn : Option ρ)
def Z7 N v5 v0 v1 v6 kn := (Z8 N v5 v0 v1 v6 (fun v5 v0 v1 v6 v7 => Z9 N v5 v0 v1 v6 v7 kn) : Option ρ)
def Z12 {ρ : Type} (N : Nat) (v5 : List ByteArray) (kr : List ByteArray → Option ρ) : Option ρ :=
 kr v5
def Z6 N v5 v0 v1 v6 kr := (Z7 N v5 v0 v1 v6 (fun v5 => Z12 N v5 kr) : Option ρ)
def Z4 N v5 v0 v1 kr := (Z5 N v5 v0 v1 (fun v5 v0 v1 v6 => Z6 N v5 v0 v1 v6 kr) : Option ρ)
def Z2 N v0 v1 kr := (Z3 N v0 v1 (fun v5 v0 v1 => Z4 N v5 v0 v1 kr) : Option ρ)
def Z0 N v0 v1 kr := (Z1 N v0 v1 (fun v0 v1 => Z2 N v0 v1 kr) : Option ρ)
def Spec : Prop := ∀  (v0 : ByteArray) (v1 : Int), P v0 v1 = true → ∃ N0, ∀ N, N0 ≤ N → Z0 N v0 v1 (fun v4 => some ((), (v4, ()))) = some ((), ((g v0 v1), ()))
theorem loop {ρ : Type} {N : Nat} {s : ByteArray} (hs : s.size ≤ 1048576) (by_ : Int) (k0 : List ByteArray → Option ρ) : ∀ (M i fr : Nat) (out : List ByteArray), fr ≤ i → i ≤ s.size → out.length + (s.size - i) ≤ 1048577 → s.size + 1 - i < M →
    Z10L N k0 M out s by_ (fr : Int) (i : Int) = k0 (out ++ (glue ((s.data.toList.drop fr).take (i - fr)) (partsK (fun b => decide ((b.toNat : Int) = by_)) (s.data.toList.drop i))).map baOf) := by
  have hsz := Lib.size_eq s
  intro M
  induction M with
  | zero => intro i fr out _ _ _ h; omega
  | succ M ih =>
    intro i fr out hf hi ho hM
    have hpiece : ∀ j : Nat, s.extract fr j = baOf ((s.data.toList.drop fr).take (j - fr)) := fun j => by rw [← Lib.extract_data, baOf_data]
    have hc : (leB 0 (fr : Int) && (leB (fr : Int) (i : Int) && leB (i : Int) s.size)) = true := by rw [leB_t (by omega), leB_t (by omega), leB_t (by omega)]; rfl
    have hb : ∀ x : ByteArray, Nat.blt (out.length + ([x] : List ByteArray).length) 1099511627776 = true := fun x => Nat.ble_eq_true_of_le (by simp; omega)
    simp only [Z10L, Z11]
    rw [ct (dt (by omega))]
    by_cases h : i = s.size
    · rw [ct (dt (by omega)), ct hc, ct (hb _), Int.toNat_natCast, Int.toNat_natCast, hpiece, w64_succ (by rw [maxLen_val]; omega)]
      obtain ⟨M, rfl⟩ : ∃ m, M = m + 1 := ⟨M - 1, by omega⟩
      simp only [Z10L, Z11]
      rw [cf (df (by omega)), List.drop_of_length_le (i := i) (by omega)]
      simp [partsK, glue]
    · have hlt : i < s.data.toList.length := by omega
      have hd : s.data.toList.drop i = s.data.toList[i] :: s.data.toList.drop (i + 1) := List.drop_eq_getElem_cons hlt
      have hbt : bt s (i : Int) = (s.data.toList[i].toNat : Int) := by
        unfold bt
        rw [Int.toNat_natCast, Array.getD_eq_getD_getElem?, Array.getElem?_eq_getElem (by simpa using hlt), Option.getD_some]
        simp
      rw [cf (df (by omega)), ct (show (decide (0 ≤ (i : Int)) && decide ((i : Int) < (s.size : Int))) = true by rw [dt (by omega), dt (by omega)]; rfl), hbt, hd]
      by_cases hsep : (s.data.toList[i].toNat : Int) = by_
      · rw [ct (dt hsep), ct hc, ct (hb _), Int.toNat_natCast, Int.toNat_natCast, hpiece, w64_succ (by rw [maxLen_val]; omega), glue_sep (by simpa using hsep)]
        rw [ih (i + 1) (i + 1) _ (Nat.le_refl _) (by omega) (by simp; omega) (by omega), Nat.sub_self, List.take_zero, glue_nil (parts_ne _ _)]
        simp
      · rw [cf (df hsep), w64_succ (by rw [maxLen_val]; omega), glue_go (by simpa using hsep), ih (i + 1) fr _ (by omega) (by omega) (by omega) (by omega)]
        congr 4
        obtain ⟨d, rfl⟩ : ∃ d, i = fr + d := ⟨i - fr, by omega⟩
        rw [show fr + d + 1 - fr = d + 1 by omega, show fr + d - fr = d by omega, List.take_add_one, List.getElem?_drop, List.getElem?_eq_getElem hlt]
        rfl
theorem ok : Spec := fun s by_ hp => ⟨s.size + 3, fun N hN => by
  have hs : s.size ≤ 1048576 := of_decide_eq_true hp
  simp only [Z1, Z3, Z5, Z8, Z11, Z10, Z9, Z7, Z12, Z6, Z4, Z2, Z0]
  refine (loop hs by_ _ N 0 0 [] (Nat.le_refl _) (Nat.zero_le _) (by simp; omega) (by omega)).trans ?_
  rw [Nat.sub_self, List.take_zero, List.drop_zero, glue_nil (parts_ne _ _), List.nil_append]
  rfl⟩
end spec_l1Split
end
end Go.Fw
namespace Go.Fw
noncomputable section
variable {ρ : Type}
namespace spec_FormatInt
noncomputable def g (n : Int) : ByteArray := itoaB n
def P (n : Int) : Bool := i64P n
end spec_FormatInt
namespace spec_FormatInt
def Z1 {ρ : Type} (N : Nat) (v0 : Int) (kn : Int → Option ρ) : Option ρ :=
 kn v0
def Z3 {ρ : Type} (N : Nat) (v0 : Int) (kn : List Int → Int → Option ρ) : Option ρ :=
 kn ([] : List Int) v0
def Z5 {ρ : Type} (N : Nat) (v3 : List Int) (v0 : Int) (kn : List Int → I2 (Option ρ)) : Option ρ :=
 kn v3 v0 v0
def Z9 {ρ : Type} (N : Nat) (v3 : List Int) (v0 v4 : Int) (kn : List Int → I2 (Option ρ)) (k0 : List Int → Int → Option ρ) : Option ρ :=
 cond (lk N (!(decide (v4 = 0))))
 (
  cond (lk N (true)) (
   cond (lk N (decide ((Int.tmod v4 10) < 0)))
   (
    cond (lk N (Nat.blt (v3.length + ([(w8 ((w64 (48 + (w64 (0 - (Int.tmod v4 10)))))))] : List Int).length) 1099511627776)) (
     cond (lk N (true)) (
      kn (v3 ++ ([(w8 ((w64 (48 + (w64 (0 - (Int.tmod v4 10)))))))] : List Int)) v0 (w64 (Int.tdiv v4 10))) none) none)
   (
    cond (lk N (Nat.blt (v3.length + ([(w8 ((w64 (48 + (Int.tmod v4 10)))))] : List Int).length) 1099511627776)) (
     cond (lk N (true)) (
      kn (v3 ++ ([(w8 ((w64 (48 + (Int.tmod v4 10)))))] : List Int)) v0 (w64 (Int.tdiv v4 10))) none) none)) none)
 (
  cond (lk N (decide ((v3.length : Int) = 0)))
  (
   cond (lk N (true)) (
    cond (lk N (decide ((Int.tmod v4 10) < 0)))
    (
     cond (lk N (Nat.blt (v3.length + ([(w8 ((w64 (48 + (w64 (0 - (Int.tmod v4 10)))))))] : List Int).length) 1099511627776)) (
      cond (lk N (true)) (
       kn (v3 ++ ([(w8 ((w64 (48 + (w64 (0 - (Int.tmod v4 10)))))))] : List Int)) v0 (w64 (Int.tdiv v4 10))) none) none)
    (
     cond (lk N (Nat.blt (v3.length + ([(w8 ((w64 (48 + (Int.tmod v4 10)))))] : List Int).length) 1099511627776)) (
      cond (lk N (true)) (
       kn (v3 ++ ([(w8 ((w64 (48 + (Int.tmod v4 10)))))] : List Int)) v0 (w64 (Int.tdiv v4 10))) none) none)) none)
  (
   k0 v3 v0))
def Z8L {ρ : Type} (N : Nat) (k0 : List Int → Int → Option ρ) : Nat → List Int → Int → Int → Option ρ
  | 0, _, _, _ => none
  | M + 1, v3, v0, v4 => Z9 N v3 v0 v4 (fun v3 v0 v4 => Z8L N k0 M v3 v0 v4) k0
def Z8 N v3 v0 v4 k0 := (Z8L N k0 N v3 v0 v4 : Option ρ)
def Z7 N v3 v0 v4 kn := (Z8 N v3 v0 v4 kn : Option ρ)
def Z11 {ρ : Type} (N : Nat) (v3 : List Int) (v0 : Int) (kn : List Int → List Int → Int → Option ρ) : Option ρ :=
 kn v3 ([] : List Int) v0
def Z13 {ρ : Type} (N : Nat) (v3 v6 : List Int) (v0 : Int) (kn : List Int → List Int → Option ρ) : Option ρ :=
 cond (lk N (decide (v0 < 0)))
 (
  cond (lk N (Nat.blt (v6.length + ([45] : List Int).length) 1099511627776)) (
   kn v3 (v6 ++ ([45] : List Int))) none)
 (
  kn v3 v6)
def Z16 {ρ : Type} (N : Nat) (v3 v6 : List Int) (kn : List Int → List Int → Int → Option ρ) : Option ρ :=
 kn v3 v6 (w64 ((v3.length : Int) - 1))
def Z19 {ρ : Type} (N : Nat) (v3 v6 : List Int) (v7 : Int) (kn : List Int → List Int → Int → Option ρ) (k2 : List Int → Option ρ) : Option ρ :=
 cond (lk N (decide (0 ≤ v7)))
 (
  cond (lk N (inB v7 v3.length)) (
   cond (lk N (Nat.blt (v6.length + ([(v3.getD v7.toNat 0)] : List Int).length) 1099511627776)) (
    kn v3 (v6 ++ ([(v3.getD v7.toNat 0)] : List Int)) (w64 (v7 - 1))) none) none)
 (
  k2 v6)
def Z18L {ρ : Type} (N : Nat) (k2 : List Int → Option ρ) : Nat → List Int → List Int → Int → Option ρ
  | 0, _, _, _ => none
  | M + 1, v3, v6, v7 => Z19 N v3 v6 v7 (fun v3 v6 v7 => Z18L N k2 M v3 v6 v7) k2
def Z18 N v3 v6 v7 k2 := (Z18L N k2 N v3 v6 v7 : Option ρ)
def Z17 N v3 v6 v7 kn := (Z18 N v3 v6 v7 kn : Option ρ)
def Z15 N v3 v6 kn := (Z16 N v3 v6 (fun v3 v6 v7 => Z17 N v3 v6 v7 kn) : Option ρ)
def Z20 {ρ : Type} (N : Nat) (v6 : List Int) (kr : ByteArray → Option ρ) : Option ρ :=
 kr (strOfNums v6)
def Z14 N v3 v6 kr := (Z15 N v3 v6 (fun v6 => Z20 N v6 kr) : Option ρ)
def Z12 N v3 v6 v0 kr := (Z13 N v3 v6 v0 (fun v3 v6 => Z14 N v3 v6 kr) : Option ρ)
def Z10 N v3 v0 kr := (Z11 N v3 v0 (fun v3 v6 v0 => Z12 N v3 v6 v0 kr) : Option ρ)
def Z6 N v3 v0 v4 kr := (Z7 N v3 v0 v4 (fun v3 v0 => Z10 N v3 v0 kr) : Option ρ)
def Z4 N v3 v0 kr := (Z5 N v3 v0 (fun v3 v0 v4 => Z6 N v3 v0 v4 kr) : Option ρ)
def Z2 N v0 kr := (Z3 N v0 (fun v3 v0 => Z4 N v3 v0 kr) : Option ρ)
def Z0 N v0 kr := (Z1 N v0 (fun v0 => Z2 N v0 kr) : Option ρ)
def Spec : Prop := ∀  (v0 : Int), P v0 = true → ∃ N0, ∀ N, N0 ≤ N → Z0 N v0 (fun v2 => some ((), (v2, ()))) = some ((), ((g v0), ()))
theorem done {ρ : Type} {N M : Nat} (k0 : List Int → Int → Option ρ) {ds : List Int} (hd : ds ≠ []) (n : Int) : Z8L N k0 (M + 1) ds n 0 = k0 ds n := by
  have hl : ds.length ≠ 0 := fun h => hd (List.length_eq_zero_iff.1 h)
  simp only [Z8L, Z9]
  rw [cf (show (!decide True) = false from rfl), cf (df (by omega))]
theorem loop {ρ : Type} {N : Nat} (k0 : List Int → Int → Option ρ) (n : Int) : ∀ (c M : Nat) (ds : List Int) (k : Int), k.natAbs < 10 ^ c → k.natAbs < 9223372036854775809 → 1 ≤ c → c < M → ds.length + c ≤ 100 → (k ≠ 0 ∨ ds = []) →
    Z8L N k0 M ds n k = k0 (ds ++ lsd k.natAbs) n := by
  intro c
  induction c with
  | zero => intro M ds k _ _ h; omega
  | succ c ih =>
    intro M ds k hk hk2 _ hM hd hor
    obtain ⟨M, rfl⟩ : ∃ m, M = m + 1 := ⟨M - 1, by omega⟩
    have hq : w64 (Int.tdiv k 10) = Int.tdiv k 10 := by
      have := natAbs_tdiv k
      exact w64_id (by omega) (by omega)
    have hstep : Z8L N k0 (M + 1) ds n k = Z8L N k0 M (ds ++ [48 + ((k.natAbs % 10 : Nat) : Int)]) n (Int.tdiv k 10) := by
      have hb : ∀ x : Int, Nat.blt (ds.length + ([x] : List Int).length) 1099511627776 = true := fun x => Nat.ble_eq_true_of_le (by simp; omega)
      simp only [Z8L, Z9, hq, hb, lk_eq, cond_true]
      by_cases hk0 : k = 0
      · subst hk0
        have hds : ds = [] := hor.resolve_left (by simp)
        subst hds
        rfl
      · rw [nt hk0, cond_true]
        by_cases hneg : Int.tmod k 10 < 0
        · rw [dt hneg, cond_true, dig_neg hneg]
        · rw [df hneg, cond_false, dig_pos hneg]
    rw [hstep]
    by_cases hsm : k.natAbs < 10
    · have e0 : Int.tdiv k 10 = 0 := by
        have := natAbs_tdiv k
        omega
      obtain ⟨M, rfl⟩ : ∃ m, M = m + 1 := ⟨M - 1, by omega⟩
      rw [e0, done k0 (by simp) n, lsd_small hsm, Nat.mod_eq_of_lt hsm]
    · have hc : 1 ≤ c := by
        rcases Nat.eq_zero_or_pos c with h | h
        · subst h
          omega
        · exact h
      have hd2 := natAbs_tdiv k
      rw [ih M _ (Int.tdiv k 10) (by rw [hd2, Nat.div_lt_iff_lt_mul (by omega), ← Nat.pow_succ]; exact hk) (by omega) hc (by omega) (by simp; omega) (.inl (by omega)), hd2, lsd_big hsm, List.append_assoc]
      rfl
theorem back {ρ : Type} {N : Nat} (k2 : List Int → Option ρ) {ds : List Int} (hd : ds.length ≤ 100) : ∀ (j M : Nat) (out : List Int), j ≤ ds.length → j < M → out.length + j ≤ 1000 → Z18L N k2 M ds out ((j : Int) - 1) = k2 (out ++ (ds.take j).reverse) := by
  intro j
  induction j with
  | zero =>
    intro M out _ hM _
    obtain ⟨M, rfl⟩ : ∃ m, M = m + 1 := ⟨M - 1, by omega⟩
    simp only [Z18L, Z19]
    rw [cf (df (by omega)), List.take_zero, List.reverse_nil, List.append_nil]
  | succ j ih =>
    intro M out hj hM ho
    obtain ⟨M, rfl⟩ : ∃ m, M = m + 1 := ⟨M - 1, by omega⟩
    have e : ((j + 1 : Nat) : Int) - 1 = (j : Int) := by omega
    have hb : ∀ x : Int, Nat.blt (out.length + ([x] : List Int).length) 1099511627776 = true := fun x => Nat.ble_eq_true_of_le (by simp; omega)
    simp only [Z18L, Z19, e]
    rw [ct (dt (by omega)), ct (inB_nat hj), ct (hb _), Int.toNat_natCast, w64_id (by omega) (by omega), ih M _ (by omega) (by omega) (by simp; omega), ← take_getD 0 hj, List.reverse_append, List.append_assoc]
    rfl
theorem lsd_len {u : Nat} : ∀ (c : Nat), u < 10 ^ c → 1 ≤ c → (lsd u).length ≤ c := by
  intro c
  induction c generalizing u with
  | zero => intro _ h; omega
  | succ c ih =>
    intro h _
    by_cases hs : u < 10
    · rw [lsd_small hs]
      simp
    · rw [lsd_big hs, List.length_cons]
      have hc : 1 ≤ c := by
        rcases Nat.eq_zero_or_pos c with h' | h'
        · subst h'
          omega
        · exact h'
      have := ih (u := u / 10) (by rw [Nat.div_lt_iff_lt_mul (by omega), ← Nat.pow_succ]; exact h) hc
      omega
theorem ok : Spec := fun n hp => ⟨200, fun N hN => by
  simp only [P, i64P, Bool.and_eq_true, decide_eq_true_eq] at hp
  have h19 : n.natAbs < 10 ^ 19 := by
    have : (10 : Nat) ^ 19 = 10000000000000000000 := by decide
    omega
  have hlen := lsd_len 19 h19 (by omega)
  simp only [Z0, Z1, Z2, Z3, Z4, Z5, Z6, Z7, Z8]
  refine (loop _ n 19 N [] n h19 (by omega) (by omega) (by omega) (by simp) (.inr rfl)).trans ?_
  rw [List.nil_append]
  have hl0 : lsd n.natAbs = (lsd n.natAbs).take (lsd n.natAbs).length := by rw [List.take_length]
  have fin : ∀ out : List Int, out.length ≤ 10 → Z18L N (fun out6 => some ((), (strOfNums out6, ()))) N (lsd n.natAbs) out (((lsd n.natAbs).length : Int) - 1) = some ((), (strOfNums (out ++ (lsd n.natAbs).reverse), ())) := fun out ho => by
    rw [back _ (by omega) _ N out (Nat.le_refl _) (by omega) (by omega), List.take_length]
  simp only [Z10, Z11, Z12, Z13]
  by_cases hneg : n < 0
  · rw [ct (dt hneg), ct (show Nat.blt (([] : List Int).length + ([45] : List Int).length) 1099511627776 = true from rfl)]
    simp only [Z14, Z15, Z16, Z17, Z18, Z20]
    rw [w64_id (by omega) (by omega), fin _ (by simp), g, itoaB, Lib.itoa, if_pos hneg]
    have := nums_neg n.natAbs
    simp only [List.nil_append, List.singleton_append]
    rw [this]
  · rw [cf (df hneg)]
    simp only [Z14, Z15, Z16, Z17, Z18, Z20]
    rw [w64_id (by omega) (by omega), fin _ (by simp), g, itoaB, Lib.itoa, if_neg hneg, List.nil_append, nums_lsd, show n.natAbs = n.toNat by omega]⟩
end spec_FormatInt
end
end Go.Fw
namespace Go.Fw
noncomputable section
variable {ρ : Type}
namespace spec_l1Number
noncomputable def g (s : ByteArray) : Int × Bool := numK s
end spec_l1Number
namespace spec_l1Number
def Z1 {ρ : Type} (N : Nat) (v0 : ByteArray) (kn : ByteArray → Option ρ) : Option ρ :=
 kn v0
def Z3 {ρ : Type} (N : Nat) (v0 : ByteArray) (kn : ByteArray → Int → Option ρ) : Option ρ :=
 kn v0 0
def Z5 {ρ : Type} (N : Nat) (v0 : ByteArray) (v4 : Int) (kn : ByteArray → Int → Option ρ) : Option ρ :=
 cond (lk N (decide (0 < (v0.size : Int))))
 (
  cond (lk N (decide (0 ≤ 0) && decide (0 < (v0.size : Int)))) (
   cond (lk N (decide ((bt v0 0) = 45)))
   (
    kn v0 1)
   (
    kn v0 v4)) none)
 (
  kn v0 v4)
def Z7 {ρ : Type} (N : Nat) (v0 : ByteArray) (v4 : Int) (kn : ByteArray → Int → Option ρ) (kr : Int → Bool → Option ρ) : Option ρ :=
 cond (lk N (decide ((v0.size : Int) = v4)))
 (
  kr 0 false)
 (
  cond (lk N (decide ((w64 (v4 + 9)) < (v0.size : Int))))
  (
   kr 0 false)
  (
   kn v0 v4))
def Z9 {ρ : Type} (N : Nat) (v0 : ByteArray) (v4 : Int) (kn : ByteArray → I2 (Option ρ)) : Option ρ :=
 kn v0 v4 0
def Z12 {ρ : Type} (N : Nat) (v0 : ByteArray) (v4 v5 : Int) (kn : ByteArray → I3 (Option ρ)) : Option ρ :=
 kn v0 v4 v5 v4
def Z15 {ρ : Type} (N : Nat) (v0 : ByteArray) (v4 v5 v6 : Int) (kn : ByteArray → I3 (Option ρ)) (k0 : ByteArray → I2 (Option ρ)) (kr : Int → Bool → Option ρ) : Option ρ :=
 cond (lk N (decide (v6 < (v0.size : Int))))
 (
  cond (lk N (decide (0 ≤ v6) && decide (v6 < (v0.size : Int)))) (
   cond (lk N (decide ((bt v0 v6) < 48)))
   (
    kr 0 false)
   (
    cond (lk N (decide (0 ≤ v6) && decide (v6 < (v0.size : Int)))) (
     cond (lk N (decide (57 < (bt v0 v6))))
     (
      kr 0 false)
     (
      cond (lk N (decide (0 ≤ v6) && decide (v6 < (v0.size : Int)))) (
       kn v0 v4 (w64 ((w64 (10 * v5)) + (w64 ((w8 ((bt v0 v6) - 48)))))) (w64 (v6 + 1))) none)) none)) none)
 (
  k0 v0 v4 v5)
def Z14L {ρ : Type} (N : Nat) (k0 : ByteArray → I2 (Option ρ)) (kr : Int → Bool → Option ρ) : Nat → ByteArray → Int → Int → Int → Option ρ
  | 0, _, _, _, _ => none
  | M + 1, v0, v4, v5, v6 => Z15 N v0 v4 v5 v6 (fun v0 v4 v5 v6 => Z14L N k0 kr M v0 v4 v5 v6) k0 kr
def Z14 N v0 v4 v5 v6 k0 kr := (Z14L N k0 kr N v0 v4 v5 v6 : Option ρ)
def Z13 N v0 v4 v5 v6 kn kr := (Z14 N v0 v4 v5 v6 kn kr : Option ρ)
def Z11 N v0 v4 v5 kn kr := (Z12 N v0 v4 v5 (fun v0 v4 v5 v6 => Z13 N v0 v4 v5 v6 kn kr) : Option ρ)
def Z16 {ρ : Type} (N : Nat) (v0 : ByteArray) (v4 v5 : Int) (kr : Int → Bool → Option ρ) : Option ρ :=
 cond (lk N (decide (v4 = 1)))
 (
  cond (lk N (spec_FormatInt.P (w64 (0 - v5)))) (
   kr (w64 (0 - v5)) (lk N (strEq (spec_FormatInt.g (w64 (0 - v5))) v0))) none)
 (
  cond (lk N (spec_FormatInt.P v5)) (
   kr v5 (lk N (strEq (spec_FormatInt.g v5) v0))) none)
def Z10 N v0 v4 v5 kr := (Z11 N v0 v4 v5 (fun v0 v4 v5 => Z16 N v0 v4 v5 kr) kr : Option ρ)
def Z8 N v0 v4 kr := (Z9 N v0 v4 (fun v0 v4 v5 => Z10 N v0 v4 v5 kr) : Option ρ)
def Z6 N v0 v4 kr := (Z7 N v0 v4 (fun v0 v4 => Z8 N v0 v4 kr) kr : Option ρ)
def Z4 N v0 v4 kr := (Z5 N v0 v4 (fun v0 v4 => Z6 N v0 v4 kr) : Option ρ)
def Z2 N v0 kr := (Z3 N v0 (fun v0 v4 => Z4 N v0 v4 kr) : Option ρ)
def Z0 N v0 kr := (Z1 N v0 (fun v0 => Z2 N v0 kr) : Option ρ)
def Spec : Prop := ∀  (v0 : ByteArray), ∃ N0, ∀ N, N0 ≤ N → Z0 N v0 (fun v2 v3 => some ((), (v2, (v3, ())))) = some ((), ((g v0).1, ((g v0).2, ())))
theorem loop {ρ : Type} {N : Nat} {s : ByteArray} (h100 : s.size ≤ 100) (at_ : Int) (k0 : ByteArray → Int → Int → Option ρ) (kr : Int → Bool → Option ρ) : ∀ (M i n : Nat), i ≤ s.size → s.size - i ≤ 9 → n * 10 ^ (s.size - i) + 10 ^ (s.size - i) ≤ 1000000000 → s.size - i < M →
    Z14L N k0 kr M s at_ (n : Int) (i : Int) = cond ((s.data.toList.drop i).all digB) (k0 s at_ (valD n (s.data.toList.drop i) : Nat)) (kr 0 false) := by
  have hsz := Lib.size_eq s
  intro M
  induction M with
  | zero => intro i n _ _ _ h; omega
  | succ M ih =>
    intro i n hi h9 hn hM
    simp only [Z14L, Z15]
    by_cases h : i < s.size
    · have hlt : i < s.data.toList.length := by omega
      have hd : s.data.toList.drop i = s.data.toList[i] :: s.data.toList.drop (i + 1) := List.drop_eq_getElem_cons hlt
      have hbt : bt s (i : Int) = (s.data.toList[i].toNat : Int) := by
        unfold bt
        rw [Int.toNat_natCast, Array.getD_eq_getD_getElem?, Array.getElem?_eq_getElem (by simpa using hlt), Option.getD_some]
        simp
      have hc : (decide (0 ≤ (i : Int)) && decide ((i : Int) < (s.size : Int))) = true := by rw [dt (by omega), dt (by omega)]; rfl
      rw [ct (dt (by omega)), ct hc, hbt, hd, List.all_cons]
      generalize s.data.toList[i] = c
      by_cases hlo : (c.toNat : Int) < 48
      · rw [ct (dt hlo), show digB c = false by simp only [digB, Bool.and_eq_false_iff, decide_eq_false_iff_not]; omega]
        rfl
      rw [cf (df hlo), ct hc]
      by_cases hhi : 57 < (c.toNat : Int)
      · rw [ct (dt hhi), show digB c = false by simp only [digB, Bool.and_eq_false_iff, decide_eq_false_iff_not]; omega]
        rfl
      have hdig : digB c = true := by simp only [digB, Bool.and_eq_true, decide_eq_true_eq]; omega
      obtain ⟨k, hk⟩ : ∃ k, s.size - i = k + 1 := ⟨s.size - i - 1, by omega⟩
      have hk2 : s.size - (i + 1) = k := by omega
      rw [hk, Nat.pow_succ] at hn
      have hs := dstep_eq n c
      have h10 : 10 * n + 10 ≤ 1000000000 := by
        have : 1 ≤ 10 ^ k := Nat.pow_pos (by omega)
        have h1 : n * 10 ≤ n * (10 ^ k * 10) := Nat.mul_le_mul_left _ (by omega)
        omega
      have e : w64 (w64 (10 * (n : Int)) + w64 (w8 ((c.toNat : Int) - 48))) = ((dstep n c : Nat) : Int) := by
        rw [w8_id (by omega) (by omega), w64_id (n := 10 * (n : Int)) (by omega) (by omega), w64_id (n := (c.toNat : Int) - 48) (by omega) (by omega), w64_id (by omega) (by omega), hs]
        omega
      rw [cf (df hhi), ct hc, e, w64_succ (by rw [maxLen_val]; omega), hdig, Bool.true_and, valD_cons]
      refine ih (i + 1) (dstep n c) h (by omega) ?_ (by omega)
      rw [hk2]
      have h2 : dstep n c * 10 ^ k + 10 ^ k = (dstep n c + 1) * 10 ^ k := by rw [Nat.add_mul, Nat.one_mul]
      have h3 : (dstep n c + 1) * 10 ^ k ≤ (n * 10 + 10) * 10 ^ k := Nat.mul_le_mul_right _ (by omega)
      have h4 : (n * 10 + 10) * 10 ^ k = n * (10 ^ k * 10) + 10 ^ k * 10 := by
        rw [Nat.add_mul, Nat.mul_assoc, Nat.mul_comm 10 (10 ^ k)]
      omega
    · rw [cf (df (by omega)), List.drop_of_length_le (by omega), valD_nil]
      rfl
theorem ok : Spec := fun s => ⟨100, fun N hN => by
  have hsz := Lib.size_eq s
  have main : ∀ a : Nat, a ≤ 1 → a = signN s.data.toList → a ≤ s.size → Z6 N s (a : Int) (fun t2 t3 => some ((), (t2, (t3, ())))) = some ((), ((numK s).1, ((numK s).2, ()))) := by
    intro a ha hsg has
    have hlen : (s.data.toList.drop a).length = s.size - a := by rw [List.length_drop, hsz]
    simp only [Z6, Z7, numK, ← hsg]
    by_cases h1 : s.size = a
    · rw [ct (dt (by omega)), if_pos (.inl (by omega))]
    rw [cf (df (by omega)), w64_id (n := (a : Int) + 9) (by omega) (by omega)]
    by_cases h2 : a + 9 < s.size
    · rw [ct (dt (by omega)), if_pos (.inr (by omega))]
    rw [cf (df (by omega)), if_neg (by omega)]
    simp only [Z8, Z9, Z10, Z11, Z12, Z13, Z14]
    have hpow : 10 ^ (s.size - a) ≤ 10 ^ 9 := Nat.pow_le_pow_right (by omega) (by omega)
    have h9' : (10 : Nat) ^ 9 = 1000000000 := by decide
    have hlp := loop (ρ := Unit × Int × Bool × Unit) (N := N) (s := s) (by omega) (a : Int) (fun s0 at4 n5 => Z16 N s0 at4 n5 (fun t2 t3 => some ((), (t2, (t3, ()))))) (fun t2 t3 => some ((), (t2, (t3, ())))) N a 0 has (by omega) (by omega) (by omega)
    refine hlp.trans ?_
    cases hall : (s.data.toList.drop a).all digB
    · rw [cond_false, if_neg (by simp)]
    · have hv := valD_lt _ 0 hall
      rw [hlen, Nat.zero_add, Nat.one_mul] at hv
      rw [cond_true, if_pos rfl]
      simp only [Z16]
      generalize valD 0 (s.data.toList.drop a) = v at hv
      by_cases h3 : a = 1
      · have e : w64 (0 - (v : Int)) = -(v : Int) := by rw [w64_id (by omega) (by omega)]; omega
        have hP : spec_FormatInt.P (-(v : Int)) = true := by
          show i64P _ = true
          simp only [i64P, Bool.and_eq_true, decide_eq_true_eq]
          omega
        rw [ct (dt (by omega)), e, ct hP, if_pos h3, lk_eq]
        rfl
      · have hP : spec_FormatInt.P (v : Int) = true := by
          show i64P _ = true
          simp only [i64P, Bool.and_eq_true, decide_eq_true_eq]
          omega
        rw [cf (df (by omega)), ct hP, if_neg h3, lk_eq]
        rfl
  simp only [Z0, Z1, Z2, Z3, Z4, Z5]
  cases hL : s.data.toList with
  | nil =>
    have h0 : s.size = 0 := by rw [hsz, hL]; rfl
    rw [cf (df (by omega))]
    exact main 0 (by omega) (by rw [hL]; rfl) (by omega)
  | cons c r =>
    have h0 : s.size = r.length + 1 := by rw [hsz, hL]; rfl
    have hbt : bt s 0 = (c.toNat : Int) := by
      unfold bt
      rw [Array.getD_eq_getD_getElem?, ← Array.getElem?_toList, hL]
      rfl
    rw [ct (dt (by omega)), ct (show (decide ((0 : Nat) ≤ 0) && decide ((0 : Int) < (s.size : Int))) = true by rw [dt (show (0 : Int) < (s.size : Int) by omega)]; rfl), hbt]
    by_cases hc : c = 45
    · have : (c.toNat : Int) = 45 := by rw [hc]; rfl
      rw [ct (dt this)]
      exact main 1 (by omega) (by rw [hL, hc]; rfl) (by omega)
    · have hne : ¬ (c.toNat : Int) = 45 := fun e => hc (by
        apply UInt8.toNat_inj.1
        rw [show (45 : UInt8).toNat = 45 from rfl]
        omega)
      rw [cf (df hne)]
      exact main 0 (by omega) (by rw [hL]; simp [signN, hc]) (by omega)⟩
end spec_l1Number
end
end Go.Fw
namespace Go.Fw
noncomputable section
variable {ρ : Type}
namespace spec_ParseInts
def P (s : ByteArray) : Bool := decide (s.size ≤ 1048576)
noncomputable def g (s : ByteArray) : List Int × Bool := parseS s
end spec_ParseInts
namespace spec_ParseInts
def Z1 {ρ : Type} (N : Nat) (v0 : ByteArray) (kn : ByteArray → Option ρ) : Option ρ :=
 kn v0
def Z3 {ρ : Type} (N : Nat) (v0 : ByteArray) (kn : LI → ByteArray → Option ρ) : Option ρ :=
 kn ([] : List Int) v0
def Z5 {ρ : Type} (N : Nat) (v4 : LI) (v0 : ByteArray) (kn : LI → ByteArray → Option ρ) (kr : LI → Bool → Option ρ) : Option ρ :=
 cond (lk N (strEq v0 ByteArray.empty))
 (
  kr v4 true)
 (
  kn v4 v0)
def Z7 {ρ : Type} (N : Nat) (v4 : LI) (v0 : ByteArray) (kn : LI → List ByteArray → Option ρ) : Option ρ :=
 cond (lk N (spec_l1Split.P v0 32)) (
  kn v4 (spec_l1Split.g v0 32)) none
def Z10 {ρ : Type} (N : Nat) (v4 : LI) (v5 : List ByteArray) (kn : LI → List ByteArray → Int → Option ρ) : Option ρ :=
 kn v4 v5 0
def Z13 {ρ : Type} (N : Nat) (v4 : LI) (v5 : List ByteArray) (v6 : Int) (kn : LI → List ByteArray → Int → Option ρ) (k0 : LI → Option ρ) (kr : LI → Bool → Option ρ) : Option ρ :=
 cond (lk N (decide (v6 < (v5.length : Int))))
 (
  cond (lk N (inB v6 v5.length)) (
   cond (!(lk N ((spec_l1Number.g (v5.getD v6.toNat ByteArray.empty)).2)))
   (
    kr ([] : List Int) false)
   (
    cond (lk N (Nat.blt (v4.length + ([(spec_l1Number.g (v5.getD v6.toNat ByteArray.empty)).1] : List Int).length) 1099511627776)) (
     kn (v4 ++ ([(spec_l1Number.g (v5.getD v6.toNat ByteArray.empty)).1] : List Int)) v5 (w64 (v6 + 1))) none)) none)
 (
  k0 v4)
def Z12L {ρ : Type} (N : Nat) (k0 : LI → Option ρ) (kr : LI → Bool → Option ρ) : Nat → LI → List ByteArray → Int → Option ρ
  | 0, _, _, _ => none
  | M + 1, v4, v5, v6 => Z13 N v4 v5 v6 (fun v4 v5 v6 => Z12L N k0 kr M v4 v5 v6) k0 kr
def Z12 N v4 v5 v6 k0 kr := (Z12L N k0 kr N v4 v5 v6 : Option ρ)
def Z11 N v4 v5 v6 kn kr := (Z12 N v4 v5 v6 kn kr : Option ρ)
def Z9 N v4 v5 kn kr := (Z10 N v4 v5 (fun v4 v5 v6 => Z11 N v4 v5 v6 kn kr) : Option ρ)
def Z14 {ρ : Type} (N : Nat) (v4 : LI) (kr : LI → Bool → Option ρ) : Option ρ :=
 kr v4 true
def Z8 N v4 v5 kr := (Z9 N v4 v5 (fun v4 => Z14 N v4 kr) kr : Option ρ)
def Z6 N v4 v0 kr := (Z7 N v4 v0 (fun v4 v5 => Z8 N v4 v5 kr) : Option ρ)
def Z4 N v4 v0 kr := (Z5 N v4 v0 (fun v4 v0 => Z6 N v4 v0 kr) kr : Option ρ)
def Z2 N v0 kr := (Z3 N v0 (fun v4 v0 => Z4 N v4 v0 kr) : Option ρ)
def Z0 N v0 kr := (Z1 N v0 (fun v0 => Z2 N v0 kr) : Option ρ)
def Spec : Prop := ∀  (v0 : ByteArray), P v0 = true → ∃ N0, ∀ N, N0 ≤ N → Z0 N v0 (fun v2 v3 => some ((), (v2, (v3, ())))) = some ((), ((g v0).1, ((g v0).2, ())))
theorem loop {ρ : Type} {N : Nat} (k0 : List Int → Option ρ) (kr : List Int → Bool → Option ρ) {ps : List ByteArray} (hps : ps.length ≤ 2000000) : ∀ (M i : Nat) (out : List Int), i ≤ ps.length → out.length + (ps.length - i) ≤ 2000000 → ps.length - i < M →
    Z12L N k0 kr M out ps (i : Int) = match allP partS (ps.drop i) with | some l => k0 (out ++ l) | none => kr [] false := by
  intro M
  induction M with
  | zero => intro i out _ _ h; omega
  | succ M ih =>
    intro i out hi ho hM
    simp only [Z12L, Z13]
    by_cases h : i < ps.length
    · have hb : ∀ x : Int, Nat.blt (out.length + ([x] : List Int).length) 1099511627776 = true := fun x => Nat.ble_eq_true_of_le (by simp; omega)
      have hg : spec_l1Number.g (ps.getD i ByteArray.empty) = numK (ps.getD i ByteArray.empty) := rfl
      rw [ct (dt (by omega)), ct (inB_nat h), Int.toNat_natCast, drop_getD (l := ps) ByteArray.empty h, allP, hg, lk_eq]
      rw [show partS (ps.getD i ByteArray.empty) = (if (numK (ps.getD i ByteArray.empty)).2 = true then some (numK (ps.getD i ByteArray.empty)).1 else none) from rfl]
      cases hok : (numK (ps.getD i ByteArray.empty)).2
      · rw [if_neg (by simp)]
        rfl
      · rw [if_pos rfl, cf' (show (!true) = false from rfl), ct (hb _), w64_succ (by rw [maxLen_val]; omega), ih (i + 1) _ h (by simp; omega) (by omega)]
        cases allP partS (ps.drop (i + 1)) with
        | none => rfl
        | some l => simp
    · rw [cf (df (by omega)), List.drop_of_length_le (by omega)]
      simp [allP]
theorem ok : Spec := fun s hp => ⟨s.size + 100, fun N hN => by
  have hs : s.size ≤ 1048576 := of_decide_eq_true hp
  have h1 : spec_l1Split.P s 32 = true := hp
  have h2 : spec_l1Split.g s 32 = prtB s := prt_int s
  have hl := prt_len s
  simp only [Z0, Z1, Z2, Z3, Z4, Z5, lk_eq, g, parseS]
  cases he : strEq s ByteArray.empty
  · rw [cond_false, if_neg (by simp)]
    simp only [Z6, Z7]
    rw [ct h1, h2]
    simp only [Z8, Z9, Z10, Z11, Z12]
    refine (loop _ _ (ps := prtB s) (by omega) N 0 [] (Nat.zero_le _) (by simp; omega) (by omega)).trans ?_
    rw [List.drop_zero]
    cases hq : allP partS (prtB s) with
    | none => rfl
    | some l => rfl
  · rfl⟩
end spec_ParseInts
end
end Go.Fw
namespace Go.Fw
noncomputable section
variable {ρ : Type}
namespace spec_l1In
def g (n low high : Int) : Bool := inK n low high
end spec_l1In
namespace spec_l1In
def Z0 {ρ : Type} (N : Nat) (v0 v1 v2 : Int) (kr : Bool → Option ρ) : Option ρ :=
 cond (lk N (decide (v1 ≤ v0)))
 (
  kr (lk N (decide (v0 ≤ v2))))
 (
  kr false)
def Spec : Prop := ∀  (v0 v1 v2 : Int), ∃ N0, ∀ N, N0 ≤ N → Z0 N v0 v1 v2 (fun v6 => some ((), (v6, ()))) = some ((), ((g v0 v1 v2), ()))
theorem ok : Spec := fun n low high => ⟨0, fun N hN => by
  simp only [Z0, lk_eq, g, inK]
  cases decide (low ≤ n) <;> rfl⟩
end spec_l1In
end
end Go.Fw
namespace Go.Fw
noncomputable section
variable {ρ : Type}
namespace spec_l1At
def P (m : Int × Int × List Int) (i j : Int) : Bool := atP m i j
def g (m : Int × Int × List Int) (i j : Int) : Int := atK m i j
end spec_l1At
namespace spec_l1At
def Z0 {ρ : Type} (N : Nat) (v0 : MT) (v1 v2 : Int) (kr : Int → Option ρ) : Option ρ :=
 cond (lk N (inB (w64 ((w64 (v1 * v0.1)) + v2)) v0.2.2.length)) (
  kr (v0.2.2.getD (w64 ((w64 (v1 * v0.1)) + v2)).toNat 0)) none
def Spec : Prop := ∀  (v0 : MT) (v1 v2 : Int), Ty.bd (.pair (.int .i64) (.pair (.int .i64) (.sl 0 (.int .i64)))) v0 → P v0 v1 v2 = true → ∃ N0, ∀ N, N0 ≤ N → Z0 N v0 v1 v2 (fun v6 => some ((), (v6, ()))) = some ((), ((g v0 v1 v2), ()))
theorem ok : Spec := fun m i j hb hp => ⟨0, fun N hN => by
  obtain ⟨h1, h2, h3⟩ := at_index hb.2.2.1 hp
  simp only [Z0, g, atK, h1]
  rw [ct (inB_int h2 h3)]⟩
end spec_l1At
end
end Go.Fw
namespace Go.Fw
noncomputable section
variable {ρ : Type}
namespace spec_l1Sizes
def g (m : Int × Int × List Int) : Bool := sizesK m
end spec_l1Sizes
namespace spec_l1Sizes
def Z1 {ρ : Type} (N : Nat) (v0 : MT) (kn : I2 (LI → Option ρ)) : Option ρ :=
 kn v0.1 v0.2.1 v0.2.2
def Z3 {ρ : Type} (N : Nat) (v1_0 v1_1 : Int) (v1_2 : LI) (kn : I2 (LI → Option ρ)) (kr : Bool → Option ρ) : Option ρ :=
 cond (!(lk N ((spec_l1In.g v1_0 1 5))))
 (
  kr false)
 (
  cond (!(lk N ((spec_l1In.g v1_1 v1_0 8))))
  (
   kr false)
  (
   cond (lk N (!(decide ((v1_2.length : Int) = (w64 (v1_0 * v1_1))))))
   (
    kr false)
   (
    kn v1_0 v1_1 v1_2)))
def Z6 {ρ : Type} (N : Nat) (v1_0 v1_1 : Int) (v1_2 : LI) (kn : I3 (LI → Option ρ)) : Option ρ :=
 kn 0 v1_0 v1_1 v1_2
def Z9 {ρ : Type} (N : Nat) (v3 v1_0 v1_1 : Int) (v1_2 : LI) (kn : I3 (LI → Option ρ)) (k0 : I2 (LI → Option ρ)) (kr : Bool → Option ρ) : Option ρ :=
 cond (lk N (decide (v3 < (v1_2.length : Int))))
 (
  cond (lk N (inB v3 v1_2.length)) (
   cond (!(lk N ((spec_l1In.g (v1_2.getD v3.toNat 0) (-99) 99))))
   (
    kr false)
   (
    kn (w64 (v3 + 1)) v1_0 v1_1 v1_2)) none)
 (
  k0 v1_0 v1_1 v1_2)
def Z8L {ρ : Type} (N : Nat) (k0 : I2 (LI → Option ρ)) (kr : Bool → Option ρ) : Nat → Int → Int → Int → LI → Option ρ
  | 0, _, _, _, _ => none
  | M + 1, v3, v1_0, v1_1, v1_2 => Z9 N v3 v1_0 v1_1 v1_2 (fun v3 v1_0 v1_1 v1_2 => Z8L N k0 kr M v3 v1_0 v1_1 v1_2) k0 kr
def Z8 N v3 v1_0 v1_1 v1_2 k0 kr := (Z8L N k0 kr N v3 v1_0 v1_1 v1_2 : Option ρ)
def Z7 N v3 v1_0 v1_1 v1_2 kn kr := (Z8 N v3 v1_0 v1_1 v1_2 kn kr : Option ρ)
def Z5 N v1_0 v1_1 v1_2 kn kr := (Z6 N v1_0 v1_1 v1_2 (fun v3 v1_0 v1_1 v1_2 => Z7 N v3 v1_0 v1_1 v1_2 kn kr) : Option ρ)
def Z12 {ρ : Type} (N : Nat) (v1_0 v1_1 : Int) (v1_2 : LI) (kn : I3 (LI → Option ρ)) : Option ρ :=
 kn 0 v1_0 v1_1 v1_2
def Z16 {ρ : Type} (N : Nat) (v4 v1_0 v1_1 : Int) (v1_2 : LI) (kn : I3 (LI → Option ρ)) (k2 : Option ρ) : Option ρ :=
 cond (lk N (decide (v4 < v1_0)))
 (
  kn v4 v1_0 v1_1 v1_2)
 (
  k2)
def Z20 {ρ : Type} (N : Nat) (v4 v1_0 v1_1 : Int) (v1_2 : LI) (kn : I4 (LI → Option ρ)) : Option ρ :=
 kn v4 0 v1_0 v1_1 v1_2
def Z23 {ρ : Type} (N : Nat) (v4 v5 v1_0 v1_1 : Int) (v1_2 : LI) (kn : I4 (LI → Option ρ)) (k4 : I3 (LI → Option ρ)) (kr : Bool → Option ρ) : Option ρ :=
 cond (lk N (decide (v5 < v1_0)))
 (
  cond (lk N (spec_l1At.P (v1_0, (v1_1, v1_2)) v4 v5)) (
   cond (lk N (spec_l1At.P (v1_0, (v1_1, v1_2)) v5 v4)) (
    cond (lk N (!(((lk N (decide (0 < (spec_l1At.g (v1_0, (v1_1, v1_2)) v4 v5)))) == (lk N (decide ((spec_l1At.g (v1_0, (v1_1, v1_2)) v5 v4) < 0)))))))
    (
     kr false)
    (
     cond (lk N (!(((lk N (decide ((spec_l1At.g (v1_0, (v1_1, v1_2)) v4 v5) = 0))) == (lk N (decide ((spec_l1At.g (v1_0, (v1_1, v1_2)) v5 v4) = 0)))))))
     (
      kr false)
     (
      kn v4 (w64 (v5 + 1)) v1_0 v1_1 v1_2))) none) none)
 (
  k4 v4 v1_0 v1_1 v1_2)
def Z22L {ρ : Type} (N : Nat) (k4 : I3 (LI → Option ρ)) (kr : Bool → Option ρ) : Nat → Int → Int → Int → Int → LI → Option ρ
  | 0, _, _, _, _, _ => none
  | M + 1, v4, v5, v1_0, v1_1, v1_2 => Z23 N v4 v5 v1_0 v1_1 v1_2 (fun v4 v5 v1_0 v1_1 v1_2 => Z22L N k4 kr M v4 v5 v1_0 v1_1 v1_2) k4 kr
def Z22 N v4 v5 v1_0 v1_1 v1_2 k4 kr := (Z22L N k4 kr N v4 v5 v1_0 v1_1 v1_2 : Option ρ)
def Z21 N v4 v5 v1_0 v1_1 v1_2 kn kr := (Z22 N v4 v5 v1_0 v1_1 v1_2 kn kr : Option ρ)
def Z19 N v4 v1_0 v1_1 v1_2 kn kr := (Z20 N v4 v1_0 v1_1 v1_2 (fun v4 v5 v1_0 v1_1 v1_2 => Z21 N v4 v5 v1_0 v1_1 v1_2 kn kr) : Option ρ)
def Z18 N v4 v1_0 v1_1 v1_2 kn kr := (Z19 N v4 v1_0 v1_1 v1_2 kn kr : Option ρ)
def Z24 {ρ : Type} (N : Nat) (v4 v1_0 v1_1 : Int) (v1_2 : LI) (kn : I3 (LI → Option ρ)) : Option ρ :=
 kn (w64 (v4 + 1)) v1_0 v1_1 v1_2
def Z17 N v4 v1_0 v1_1 v1_2 kn kr := (Z18 N v4 v1_0 v1_1 v1_2 (fun v4 v1_0 v1_1 v1_2 => Z24 N v4 v1_0 v1_1 v1_2 kn) kr : Option ρ)
def Z15 N v4 v1_0 v1_1 v1_2 kn k2 kr := (Z16 N v4 v1_0 v1_1 v1_2 (fun v4 v1_0 v1_1 v1_2 => Z17 N v4 v1_0 v1_1 v1_2 kn kr) k2 : Option ρ)
def Z14L {ρ : Type} (N : Nat) (k2 : Option ρ) (kr : Bool → Option ρ) : Nat → Int → Int → Int → LI → Option ρ
  | 0, _, _, _, _ => none
  | M + 1, v4, v1_0, v1_1, v1_2 => Z15 N v4 v1_0 v1_1 v1_2 (fun v4 v1_0 v1_1 v1_2 => Z14L N k2 kr M v4 v1_0 v1_1 v1_2) k2 kr
def Z14 N v4 v1_0 v1_1 v1_2 k2 kr := (Z14L N k2 kr N v4 v1_0 v1_1 v1_2 : Option ρ)
def Z13 N v4 v1_0 v1_1 v1_2 kn kr := (Z14 N v4 v1_0 v1_1 v1_2 kn kr : Option ρ)
def Z11 N v1_0 v1_1 v1_2 kn kr := (Z12 N v1_0 v1_1 v1_2 (fun v4 v1_0 v1_1 v1_2 => Z13 N v4 v1_0 v1_1 v1_2 kn kr) : Option ρ)
def Z25 {ρ : Type} (N : Nat)  (kr : Bool → Option ρ) : Option ρ :=
 kr true
def Z10 N v1_0 v1_1 v1_2 kr := (Z11 N v1_0 v1_1 v1_2 (Z25 N kr) kr : Option ρ)
def Z4 N v1_0 v1_1 v1_2 kr := (Z5 N v1_0 v1_1 v1_2 (fun v1_0 v1_1 v1_2 => Z10 N v1_0 v1_1 v1_2 kr) kr : Option ρ)
def Z2 N v1_0 v1_1 v1_2 kr := (Z3 N v1_0 v1_1 v1_2 (fun v1_0 v1_1 v1_2 => Z4 N v1_0 v1_1 v1_2 kr) kr : Option ρ)
def Z0 N v0 kr := (Z1 N v0 (fun v1_0 v1_1 v1_2 => Z2 N v1_0 v1_1 v1_2 kr) : Option ρ)
def Spec : Prop := ∀  (v0 : MT), Ty.bd (.pair (.int .i64) (.pair (.int .i64) (.sl 0 (.int .i64)))) v0 → ∃ N0, ∀ N, N0 ≤ N → Z0 N v0 (fun v2 => some ((), (v2, ()))) = some ((), ((g v0), ()))
section
variable {ρ : Type} {N : Nat} {m : Int × Int × List Int}
theorem at_g (hd : 0 ≤ m.1) (a b : Nat) : spec_l1At.g (m.1, (m.2.1, m.2.2)) (a : Int) (b : Int) = ent m a b := atK_nat hd a b
theorem at_p (hd : dimK m = true) {a b : Nat} (ha : a < m.1.toNat) (hb : b < m.1.toNat) : spec_l1At.P (m.1, (m.2.1, m.2.2)) (a : Int) (b : Int) = true := by
  obtain ⟨n, r, hn, hr, hn1, hn5, hnr, hr8, hl⟩ := dim_nat hd
  exact at_ok hd (by omega) hb
theorem loop1 (hl : m.2.2.length ≤ maxLen) (k0 : Int → Int → List Int → Option ρ) (kr : Bool → Option ρ) : ∀ (M j : Nat), j ≤ m.2.2.length → m.2.2.length - j < M →
    Z8L N k0 kr M (j : Int) m.1 m.2.1 m.2.2 = cond (entK (m.2.2.drop j)) (k0 m.1 m.2.1 m.2.2) (kr false) := by
  intro M
  induction M with
  | zero => intro j _ h; omega
  | succ M ih =>
    intro j hj hM
    simp only [Z8L, Z9]
    by_cases h : j < m.2.2.length
    · rw [ct (dt (by omega)), ct (inB_nat h), Int.toNat_natCast, w64_succ (by omega), drop_getD 0 h, entK, List.all_cons, ih (j + 1) h (by omega)]
      simp only [lk_eq, spec_l1In.g]
      cases inK (m.2.2.getD j 0) (-99) 99 <;> rfl
    · rw [cf (df (by omega)), List.drop_of_length_le (by omega)]; rfl
theorem loop3 (hd : dimK m = true) (k4 : Int → Int → Int → List Int → Option ρ) (kr : Bool → Option ρ) {i : Nat} (hi : i < m.1.toNat) : ∀ (M j : Nat), j ≤ m.1.toNat → m.1.toNat - j < M →
    Z22L N k4 kr M (i : Int) (j : Int) m.1 m.2.1 m.2.2 = cond (((List.range m.1.toNat).drop j).all fun j => signK (ent m i j) (ent m j i)) (k4 (i : Int) m.1 m.2.1 m.2.2) (kr false) := by
  obtain ⟨n, r, hn, hr, hn1, hn5, hnr, hr8, hl⟩ := dim_nat hd
  intro M
  induction M with
  | zero => intro j _ h; omega
  | succ M ih =>
    intro j hj hM
    simp only [Z22L, Z23]
    by_cases h : j < m.1.toNat
    · rw [ct (dt (by omega)), ct (at_p hd hi h), ct (at_p hd h hi), range_drop h, List.all_cons, w64_succ (by rw [maxLen_val]; omega), ih (j + 1) h (by omega)]
      have hA : spec_l1At.g (m.1, (m.2.1, m.2.2)) (i : Int) (j : Int) = ent m i j := at_g (by omega) _ _
      have hB : spec_l1At.g (m.1, (m.2.1, m.2.2)) (j : Int) (i : Int) = ent m j i := at_g (by omega) _ _
      simp only [lk_eq, hA, hB, signK]
      cases (decide (0 < ent m i j) == decide (ent m j i < 0)) <;> cases (decide (ent m i j = 0) == decide (ent m j i = 0)) <;> rfl
    · rw [cf (df (by omega)), List.drop_of_length_le (by simp; omega)]; rfl
theorem loop2 (hN : 10 ≤ N) (hd : dimK m = true) (k2 : Option ρ) (kr : Bool → Option ρ) : ∀ (M i : Nat), i ≤ m.1.toNat → m.1.toNat - i < M →
    Z14L N k2 kr M (i : Int) m.1 m.2.1 m.2.2 = cond (((List.range m.1.toNat).drop i).all fun i => (List.range m.1.toNat).all fun j => signK (ent m i j) (ent m j i)) k2 (kr false) := by
  obtain ⟨n, r, hn, hr, hn1, hn5, hnr, hr8, hl⟩ := dim_nat hd
  intro M
  induction M with
  | zero => intro i _ h; omega
  | succ M ih =>
    intro i hi hM
    simp only [Z14L, Z15, Z16]
    by_cases h : i < m.1.toNat
    · rw [ct (dt (by omega))]
      simp only [Z17, Z18, Z19, Z20, Z21, Z22]
      have h3 := loop3 (ρ := ρ) (N := N) hd (fun a b c d => Z24 N a b c d (fun a b c d => Z14L N k2 kr M a b c d)) kr h N 0 (by omega) (by omega)
      rw [show ((0 : Nat) : Int) = 0 from rfl] at h3
      rw [h3, range_drop h, List.all_cons, List.drop_zero]
      simp only [Z24]
      rw [w64_succ (by rw [maxLen_val]; omega), ih (i + 1) h (by omega)]
      cases ((List.range m.1.toNat).all fun j => signK (ent m i j) (ent m j i)) <;> rfl
    · rw [cf (df (by omega)), List.drop_of_length_le (by simp; omega)]; rfl
end
theorem ok : Spec := fun m hb => ⟨m.2.2.length + 10, fun N hN => by
  have hlen : m.2.2.length ≤ maxLen := hb.2.2.1
  simp only [Z0, Z1, Z2, Z3, spec_l1In.g, g, sizesK, shapedK]
  have main : dimK m = true → Z4 N m.1 m.2.1 m.2.2 (fun t => some ((), (t, ()))) = some ((), ((entK m.2.2 && (List.range m.1.toNat).all fun i => (List.range m.1.toNat).all fun j => signK (ent m i j) (ent m j i)), ())) := by
    intro hd
    obtain ⟨n, r, hn, hr, hn1, hn5, hnr, hr8, hl⟩ := dim_nat hd
    simp only [Z4, Z5, Z6, Z7, Z8]
    have h1 := loop1 (N := N) hlen (fun a b c => Z10 N a b c (fun t => some ((), (t, ())))) (fun t => some ((), (t, ()))) N 0 (by omega) (by omega)
    rw [show ((0 : Nat) : Int) = 0 from rfl] at h1
    rw [h1, List.drop_zero]
    simp only [Z10, Z11, Z12, Z13, Z14, Z25]
    have h2 := loop2 (N := N) (by omega) hd (some ((), (true, ()))) (fun t => some ((), (t, ()))) N 0 (by omega) (by omega)
    rw [show ((0 : Nat) : Int) = 0 from rfl] at h2
    rw [h2, List.drop_zero]
    cases entK m.2.2 <;> cases ((List.range m.1.toNat).all fun i => (List.range m.1.toNat).all fun j => signK (ent m i j) (ent m j i)) <;> rfl
  cases h1 : inK m.1 1 5
  · rw [dimK, h1]; simp [lk_eq]
  cases h2 : inK m.2.1 m.1 8
  · rw [dimK, h1, h2]; simp [lk_eq]
  have e1 := inK_iff.1 h1
  have e2 := inK_iff.1 h2
  have e3 : 0 ≤ m.1 * m.2.1 := Int.mul_nonneg (by omega) (by omega)
  have e4 : m.1 * m.2.1 ≤ 5 * 8 := Int.mul_le_mul (by omega) (by omega) (by omega) (by omega)
  rw [w64_id (by omega) (by omega)]
  by_cases h3 : (m.2.2.length : Int) = m.1 * m.2.1
  · have hd : dimK m = true := by rw [dimK, h1, h2, dt h3]; rfl
    rw [cf' (by simp [lk_eq]), cf' (by simp [lk_eq]), cf (nf h3), main hd, hd]
    rfl
  · have hd : dimK m = false := by rw [dimK, h1, h2, df h3]; rfl
    rw [cf' (by simp [lk_eq]), cf' (by simp [lk_eq]), ct (nt h3), hd]
    rfl⟩
end spec_l1Sizes
end
end Go.Fw
namespace Go.Fw
noncomputable section
variable {ρ : Type}
namespace spec_l1Has
def g (l : List Int) (n : Int) : Bool := l.any fun x => decide (x = n)
end spec_l1Has
namespace spec_l1Has
def Z1 {ρ : Type} (N : Nat) (v0 : LI) (v1 : Int) (kn : LI → Int → Option ρ) : Option ρ :=
 kn v0 v1
def Z4 {ρ : Type} (N : Nat) (v0 : LI) (v1 : Int) (kn : LI → I2 (Option ρ)) : Option ρ :=
 kn v0 v1 0
def Z7 {ρ : Type} (N : Nat) (v0 : LI) (v1 v5 : Int) (kn : LI → I2 (Option ρ)) (k0 : Option ρ) (kr : Bool → Option ρ) : Option ρ :=
 cond (lk N (decide (v5 < (v0.length : Int))))
 (
  cond (lk N (inB v5 v0.length)) (
   cond (lk N (decide ((v0.getD v5.toNat 0) = v1)))
   (
    kr true)
   (
    kn v0 v1 (w64 (v5 + 1)))) none)
 (
  k0)
def Z6L {ρ : Type} (N : Nat) (k0 : Option ρ) (kr : Bool → Option ρ) : Nat → LI → Int → Int → Option ρ
  | 0, _, _, _ => none
  | M + 1, v0, v1, v5 => Z7 N v0 v1 v5 (fun v0 v1 v5 => Z6L N k0 kr M v0 v1 v5) k0 kr
def Z6 N v0 v1 v5 k0 kr := (Z6L N k0 kr N v0 v1 v5 : Option ρ)
def Z5 N v0 v1 v5 kn kr := (Z6 N v0 v1 v5 kn kr : Option ρ)
def Z3 N v0 v1 kn kr := (Z4 N v0 v1 (fun v0 v1 v5 => Z5 N v0 v1 v5 kn kr) : Option ρ)
def Z8 {ρ : Type} (N : Nat)  (kr : Bool → Option ρ) : Option ρ :=
 kr false
def Z2 N v0 v1 kr := (Z3 N v0 v1 (Z8 N kr) kr : Option ρ)
def Z0 N v0 v1 kr := (Z1 N v0 v1 (fun v0 v1 => Z2 N v0 v1 kr) : Option ρ)
def Spec : Prop := ∀  (v0 : LI) (v1 : Int), Ty.bd (.sl 0 (.int .i64)) v0 → ∃ N0, ∀ N, N0 ≤ N → Z0 N v0 v1 (fun v4 => some ((), (v4, ()))) = some ((), ((g v0 v1), ()))
theorem loop {ρ : Type} (N : Nat) (kr : Bool → Option ρ) (n : Int) (a : List Int) (ha : a.length ≤ maxLen) : ∀ (M j : Nat), j ≤ a.length → a.length - j < M →
    Z6L N (kr false) kr M a n (j : Int) = kr (g (a.drop j) n) := by
  intro M
  induction M with
  | zero => intro j _ h; omega
  | succ M ih =>
    intro j hj hM
    simp only [Z6L, Z7]
    by_cases h : j < a.length
    · rw [ct (dt (by omega)), ct (inB_nat h), Int.toNat_natCast, w64_succ (by omega), ih (j + 1) h (by omega), drop_getD 0 h]
      simp only [g, List.any_cons, lk_eq]
      cases decide (a.getD j 0 = n) <;> rfl
    · rw [cf (df (by omega)), List.drop_of_length_le (by omega)]; rfl
theorem ok : Spec := fun a n ha => ⟨a.length + 1, fun N hN => by
  simp only [Z1, Z4, Z7, Z6, Z5, Z3, Z8, Z2, Z0]
  exact (loop N (fun t => some ((), (t, ()))) n a ha.1 N 0 (by omega) (by omega)).trans rfl⟩
theorem g_iff {l : List Int} {n : Int} : g l n = true ↔ n ∈ l := by
  simp [g]
end spec_l1Has
end
end Go.Fw
namespace Go.Fw
noncomputable section
variable {ρ : Type}
namespace spec_l1Piece
def P (m : Int × Int × List Int) (i : Int) : Bool := dimK m && (decide (0 ≤ i) && decide (i < m.1))
def g (m : Int × Int × List Int) (i : Int) : List Int × List Int := (ints (pieceK m i.toNat).1, ints (pieceK m i.toNat).2)
end spec_l1Piece
namespace spec_l1Piece
def Z1 {ρ : Type} (N : Nat) (v0 : MT) (v1 : Int) (kn : I3 (LI → Option ρ)) : Option ρ :=
 kn v1 v0.1 v0.2.1 v0.2.2
def Z3 {ρ : Type} (N : Nat) (v1 v2_0 v2_1 : Int) (v2_2 : LI) (kn : LI → I3 (LI → Option ρ)) : Option ρ :=
 kn ([v1] : List Int) v1 v2_0 v2_1 v2_2
def Z5 {ρ : Type} (N : Nat) (v6 : LI) (v1 v2_0 v2_1 : Int) (v2_2 : LI) (kn : LI → LI → I2 (LI → Option ρ)) : Option ρ :=
 kn v6 ([v1] : List Int) v2_0 v2_1 v2_2
def Z8 {ρ : Type} (N : Nat) (v6 v7 : LI) (v2_0 v2_1 : Int) (v2_2 : LI) (kn : LI → LI → I3 (LI → Option ρ)) : Option ρ :=
 kn v6 v7 0 v2_0 v2_1 v2_2
def Z12 {ρ : Type} (N : Nat) (v6 v7 : LI) (v8 v2_0 v2_1 : Int) (v2_2 : LI) (kn : LI → LI → I3 (LI → Option ρ)) (k0 : LI → LI → Option ρ) : Option ρ :=
 cond (lk N (decide (v8 < (v6.length : Int))))
 (
  kn v6 v7 v8 v2_0 v2_1 v2_2)
 (
  k0 v6 v7)
def Z16 {ρ : Type} (N : Nat) (v6 v7 : LI) (v8 v2_0 v2_1 : Int) (v2_2 : LI) (kn : LI → LI → I4 (LI → Option ρ)) : Option ρ :=
 kn v6 v7 v8 0 v2_0 v2_1 v2_2
def Z19 {ρ : Type} (N : Nat) (v6 v7 : LI) (v8 v9 v2_0 v2_1 : Int) (v2_2 : LI) (kn : LI → LI → I4 (LI → Option ρ)) (k2 : LI → LI → I3 (LI → Option ρ)) : Option ρ :=
 cond (lk N (decide (v9 < v2_0)))
 (
  cond (lk N (inB v8 v6.length)) (
   cond (lk N (spec_l1At.P (v2_0, (v2_1, v2_2)) (v6.getD v8.toNat 0) v9)) (
    cond (lk N (!(decide ((spec_l1At.g (v2_0, (v2_1, v2_2)) (v6.getD v8.toNat 0) v9) = 0))))
    (
     cond (!(lk N ((spec_l1Has.g v6 v9))))
     (
      cond (lk N (Nat.blt (v6.length + ([v9] : List Int).length) 1099511627776)) (
       cond (lk N (inB v8 (v6 ++ ([v9] : List Int)).length)) (
        cond (lk N (Nat.blt (v7.length + ([((v6 ++ ([v9] : List Int)).getD v8.toNat 0)] : List Int).length) 1099511627776)) (
         kn (v6 ++ ([v9] : List Int)) (v7 ++ ([((v6 ++ ([v9] : List Int)).getD v8.toNat 0)] : List Int)) v8 (w64 (v9 + 1)) v2_0 v2_1 v2_2) none) none) none)
     (
      kn v6 v7 v8 (w64 (v9 + 1)) v2_0 v2_1 v2_2))
    (
     kn v6 v7 v8 (w64 (v9 + 1)) v2_0 v2_1 v2_2)) none) none)
 (
  k2 v6 v7 v8 v2_0 v2_1 v2_2)
def Z18L {ρ : Type} (N : Nat) (k2 : LI → LI → I3 (LI → Option ρ)) : Nat → LI → LI → Int → Int → Int → Int → LI → Option ρ
  | 0, _, _, _, _, _, _, _ => none
  | M + 1, v6, v7, v8, v9, v2_0, v2_1, v2_2 => Z19 N v6 v7 v8 v9 v2_0 v2_1 v2_2 (fun v6 v7 v8 v9 v2_0 v2_1 v2_2 => Z18L N k2 M v6 v7 v8 v9 v2_0 v2_1 v2_2) k2
def Z18 N v6 v7 v8 v9 v2_0 v2_1 v2_2 k2 := (Z18L N k2 N v6 v7 v8 v9 v2_0 v2_1 v2_2 : Option ρ)
def Z17 N v6 v7 v8 v9 v2_0 v2_1 v2_2 kn := (Z18 N v6 v7 v8 v9 v2_0 v2_1 v2_2 kn : Option ρ)
def Z15 N v6 v7 v8 v2_0 v2_1 v2_2 kn := (Z16 N v6 v7 v8 v2_0 v2_1 v2_2 (fun v6 v7 v8 v9 v2_0 v2_1 v2_2 => Z17 N v6 v7 v8 v9 v2_0 v2_1 v2_2 kn) : Option ρ)
def Z14 N v6 v7 v8 v2_0 v2_1 v2_2 kn := (Z15 N v6 v7 v8 v2_0 v2_1 v2_2 kn : Option ρ)
def Z20 {ρ : Type} (N : Nat) (v6 v7 : LI) (v8 v2_0 v2_1 : Int) (v2_2 : LI) (kn : LI → LI → I3 (LI → Option ρ)) : Option ρ :=
 kn v6 v7 (w64 (v8 + 1)) v2_0 v2_1 v2_2
def Z13 N v6 v7 v8 v2_0 v2_1 v2_2 kn := (Z14 N v6 v7 v8 v2_0 v2_1 v2_2 (fun v6 v7 v8 v2_0 v2_1 v2_2 => Z20 N v6 v7 v8 v2_0 v2_1 v2_2 kn) : Option ρ)
def Z11 N v6 v7 v8 v2_0 v2_1 v2_2 kn k0 := (Z12 N v6 v7 v8 v2_0 v2_1 v2_2 (fun v6 v7 v8 v2_0 v2_1 v2_2 => Z13 N v6 v7 v8 v2_0 v2_1 v2_2 kn) k0 : Option ρ)
def Z10L {ρ : Type} (N : Nat) (k0 : LI → LI → Option ρ) : Nat → LI → LI → Int → Int → Int → LI → Option ρ
  | 0, _, _, _, _, _, _ => none
  | M + 1, v6, v7, v8, v2_0, v2_1, v2_2 => Z11 N v6 v7 v8 v2_0 v2_1 v2_2 (fun v6 v7 v8 v2_0 v2_1 v2_2 => Z10L N k0 M v6 v7 v8 v2_0 v2_1 v2_2) k0
def Z10 N v6 v7 v8 v2_0 v2_1 v2_2 k0 := (Z10L N k0 N v6 v7 v8 v2_0 v2_1 v2_2 : Option ρ)
def Z9 N v6 v7 v8 v2_0 v2_1 v2_2 kn := (Z10 N v6 v7 v8 v2_0 v2_1 v2_2 kn : Option ρ)
def Z7 N v6 v7 v2_0 v2_1 v2_2 kn := (Z8 N v6 v7 v2_0 v2_1 v2_2 (fun v6 v7 v8 v2_0 v2_1 v2_2 => Z9 N v6 v7 v8 v2_0 v2_1 v2_2 kn) : Option ρ)
def Z21 {ρ : Type} (N : Nat) (v6 v7 : LI) (kr : LI → LI → Option ρ) : Option ρ :=
 kr v6 v7
def Z6 N v6 v7 v2_0 v2_1 v2_2 kr := (Z7 N v6 v7 v2_0 v2_1 v2_2 (fun v6 v7 => Z21 N v6 v7 kr) : Option ρ)
def Z4 N v6 v1 v2_0 v2_1 v2_2 kr := (Z5 N v6 v1 v2_0 v2_1 v2_2 (fun v6 v7 v2_0 v2_1 v2_2 => Z6 N v6 v7 v2_0 v2_1 v2_2 kr) : Option ρ)
def Z2 N v1 v2_0 v2_1 v2_2 kr := (Z3 N v1 v2_0 v2_1 v2_2 (fun v6 v1 v2_0 v2_1 v2_2 => Z4 N v6 v1 v2_0 v2_1 v2_2 kr) : Option ρ)
def Z0 N v0 v1 kr := (Z1 N v0 v1 (fun v1 v2_0 v2_1 v2_2 => Z2 N v1 v2_0 v2_1 v2_2 kr) : Option ρ)
def Spec : Prop := ∀  (v0 : MT) (v1 : Int), Ty.bd (.pair (.int .i64) (.pair (.int .i64) (.sl 0 (.int .i64)))) v0 → P v0 v1 = true → ∃ N0, ∀ N, N0 ≤ N → Z0 N v0 v1 (fun v4 v5 => some ((), (v4, (v5, ())))) = some ((), ((g v0 v1).1, ((g v0 v1).2, ())))
theorem inner {ρ : Type} (N : Nat) (k2 : List Int → List Int → Int → Int → Int → List Int → Option ρ) (m : Int × Int × List Int) (hd : dimK m = true) (i p : Nat) : ∀ (M j : Nat) (s : List Nat × List Nat), PInv m.1.toNat (ent m) i s → p < s.1.length → j ≤ m.1.toNat → m.1.toNat - j < M →
    Z18L N k2 M (ints s.1) (ints s.2) (p : Int) (j : Int) m.1 m.2.1 m.2.2 =
      k2 (ints (pIn (ent m) (s.1.getD p 0) ((List.range m.1.toNat).drop j) s).1) (ints (pIn (ent m) (s.1.getD p 0) ((List.range m.1.toNat).drop j) s).2) (p : Int) m.1 m.2.1 m.2.2 := by
  obtain ⟨n, r, hn, hr, hn1, hn5, hnr, hr8, hl⟩ := dim_nat hd
  intro M
  induction M with
  | zero => intro j s _ _ _ h; omega
  | succ M ih =>
    intro j s hs hp hj hM
    have hle := hs.le
    have hlen := hs.len
    simp only [Z18L, Z19]
    by_cases h : j < m.1.toNat
    · have hx : s.1.getD p 0 < m.1.toNat := hs.lt _ (getD_mem 0 hp)
      have h1 : Nat.blt ((ints s.1).length + ([(j : Int)]).length) 1099511627776 = true := by
        simp [ints_len, Nat.blt_eq]; omega
      have h2 : Nat.blt ((ints s.2).length + ([((ints (s.1 ++ [j])).getD (p : Int).toNat 0)]).length) 1099511627776 = true := by
        simp [ints_len, Nat.blt_eq]; omega
      rw [ct (dt (by omega)), ct (inB_nat (by rw [ints_len]; exact hp)), range_drop h, pIn]
      simp only [Int.toNat_natCast, ints_getD]
      rw [ct (show spec_l1At.P (m.1, (m.2.1, m.2.2)) _ _ = true from at_ok hd (by omega) h), w64_succ (by rw [maxLen_val]; omega)]
      have hA : spec_l1At.g (m.1, (m.2.1, m.2.2)) ((s.1.getD p 0 : Nat) : Int) (j : Int) = ent m (s.1.getD p 0) j := atK_nat (by omega) _ _
      by_cases ha : ent m (s.1.getD p 0) j = 0
      · rw [cf (nf (hA.trans ha)), if_neg (fun hc => hc.1 ha)]
        exact ih (j + 1) s hs hp h (by omega)
      · rw [ct (nt (fun hc => ha (hA.symm.trans hc)))]
        by_cases hm : j ∈ s.1
        · rw [cf' (by rw [lk_eq, spec_l1Has.g_iff.2 (mem_ints.2 hm)]; rfl), if_neg (fun hc => hc.2 hm)]
          exact ih (j + 1) s hs hp h (by omega)
        · have hf : spec_l1Has.g (ints s.1) (j : Int) = false := by
            cases hc : spec_l1Has.g (ints s.1) (j : Int)
            · rfl
            · exact absurd (mem_ints.1 (spec_l1Has.g_iff.1 hc)) hm
          rw [ct' (by rw [lk_eq, hf]; rfl), ct h1, ints_append, ct (inB_nat (by rw [ints_len]; simp; omega)), if_pos ⟨ha, hm⟩]
          have e : (s.1 ++ [j]).getD p 0 = s.1.getD p 0 := getD_append_lt hp
          rw [ints_getD, e, ints_append]
          rw [ints_getD, Int.toNat_natCast, e] at h2
          rw [ct h2]
          have := ih (j + 1) (s.1 ++ [j], s.2 ++ [s.1.getD p 0]) (hs.step hp h ⟨ha, hm⟩) (by simp; omega) h (by omega)
          simp only [e] at this
          exact this
    · rw [cf (df (by omega)), List.drop_of_length_le (by simp; omega), pIn]
theorem loop {ρ : Type} (N : Nat) (hN : 10 ≤ N) (k0 : List Int → List Int → Option ρ) (m : Int × Int × List Int) (hd : dimK m = true) (i : Nat) : ∀ (M p : Nat) (s : List Nat × List Nat), PInv m.1.toNat (ent m) i s → p ≤ m.1.toNat → m.1.toNat - p < M →
    Z10L N k0 M (ints s.1) (ints s.2) (p : Int) m.1 m.2.1 m.2.2 = k0 (ints (pGo (ent m) m.1.toNat (m.1.toNat - p) p s).1) (ints (pGo (ent m) m.1.toNat (m.1.toNat - p) p s).2) := by
  obtain ⟨n, r, hn, hr, hn1, hn5, hnr, hr8, hl⟩ := dim_nat hd
  intro M
  induction M with
  | zero => intro p s _ _ h; omega
  | succ M ih =>
    intro p s hs hp hM
    have hle := hs.le
    simp only [Z10L, Z11, Z12]
    by_cases h : p < s.1.length
    · rw [ct (dt (by rw [ints_len]; omega))]
      simp only [Z13, Z14, Z15, Z16, Z17, Z18, Z20]
      have hin := inner (ρ := ρ) N (fun a b c d e f => Z10L N k0 M a b (w64 (c + 1)) d e f) m hd i p N 0 s hs h (by omega) (by omega)
      rw [show ((0 : Nat) : Int) = 0 from rfl] at hin
      rw [hin, w64_succ (by rw [maxLen_val]; omega), List.drop_zero]
      obtain ⟨h1, h2, h3⟩ := pIn_inv (p := p) (List.range m.1.toNat) s hs h (fun x hx => List.mem_range.1 hx)
      rw [ih (p + 1) _ h1 (by omega) (by omega), show m.1.toNat - p = (m.1.toNat - (p + 1)) + 1 by omega, pGo, if_pos h]
    · rw [cf (df (by rw [ints_len]; omega))]
      cases hc : m.1.toNat - p with
      | zero => rfl
      | succ f => rw [pGo, if_neg h]
theorem ok : Spec := fun m i hb hp => ⟨10, fun N hN => by
  simp only [P, Bool.and_eq_true, decide_eq_true_eq] at hp
  obtain ⟨hd, h0, h1⟩ := hp
  obtain ⟨x, rfl⟩ := Int.eq_ofNat_of_zero_le h0
  obtain ⟨n, r, hn, hr, hn1, hn5, hnr, hr8, hl⟩ := dim_nat hd
  simp only [Z0, Z1, Z2, Z3, Z4, Z5, Z6, Z7, Z8, Z9, Z10, Z21]
  have := loop (ρ := Unit × List Int × List Int × Unit) N hN (fun a b => some ((), (a, (b, ())))) m hd x N 0 ([x], [x]) (PInv.first (by omega)) (by omega) (by omega)
  exact this⟩
end spec_l1Piece
end
end Go.Fw
namespace Go.Fw
noncomputable section
variable {ρ : Type}
namespace spec_l1Abs
def g (n : Int) : Int := mx n (w64 (0 - n))
end spec_l1Abs
namespace spec_l1Abs
def Z0 {ρ : Type} (N : Nat) (v0 : Int) (kr : Int → Option ρ) : Option ρ :=
 kr (mx v0 (w64 (0 - v0)))
def Spec : Prop := ∀  (v0 : Int), ∃ N0, ∀ N, N0 ≤ N → Z0 N v0 (fun v2 => some ((), (v2, ()))) = some ((), ((g v0), ()))
theorem ok : Spec := fun n => ⟨0, fun N hN => by
  simp only [Z0, g]⟩
end spec_l1Abs
end
end Go.Fw
namespace Go.Fw
noncomputable section
variable {ρ : Type}
namespace spec_l1Gcd
def P (a b : Int) : Bool := decide (0 ≤ a) && (decide (a < 9223372036854775808) && (decide (0 ≤ b) && decide (b < 9223372036854775808)))
def g (a b : Int) : Int := (Int.gcd a b : Int)
end spec_l1Gcd
namespace spec_l1Gcd
def Z1 {ρ : Type} (N : Nat) (v0 v1 : Int) (kn : I2 (Option ρ)) : Option ρ :=
 kn v0 v1
def Z5 {ρ : Type} (N : Nat) (v0 v1 : Int) (kn : I2 (Option ρ)) (k0 : Int → Option ρ) : Option ρ :=
 cond (lk N (!(decide (v1 = 0))))
 (
  cond (lk N (!(decide (v1 = 0)))) (
   kn v1 (Int.tmod v0 v1)) none)
 (
  k0 v0)
def Z4L {ρ : Type} (N : Nat) (k0 : Int → Option ρ) : Nat → Int → Int → Option ρ
  | 0, _, _ => none
  | M + 1, v0, v1 => Z5 N v0 v1 (fun v0 v1 => Z4L N k0 M v0 v1) k0
def Z4 N v0 v1 k0 := (Z4L N k0 N v0 v1 : Option ρ)
def Z3 N v0 v1 kn := (Z4 N v0 v1 kn : Option ρ)
def Z6 {ρ : Type} (N : Nat) (v0 : Int) (kr : Int → Option ρ) : Option ρ :=
 kr v0
def Z2 N v0 v1 kr := (Z3 N v0 v1 (fun v0 => Z6 N v0 kr) : Option ρ)
def Z0 N v0 v1 kr := (Z1 N v0 v1 (fun v0 v1 => Z2 N v0 v1 kr) : Option ρ)
def Spec : Prop := ∀  (v0 v1 : Int), P v0 v1 = true → ∃ N0, ∀ N, N0 ≤ N → Z0 N v0 v1 (fun v4 => some ((), (v4, ()))) = some ((), ((g v0 v1), ()))
theorem loop {ρ : Type} (N : Nat) (k0 : Int → Option ρ) : ∀ (M : Nat) (a b : Nat), b < M → Z4L N k0 M (a : Int) (b : Int) = k0 (Nat.gcd b a : Nat) := by
  intro M
  induction M with
  | zero => intro a b h; omega
  | succ M ih =>
    intro a b hM
    simp only [Z4L, Z5]
    by_cases h : b = 0
    · subst h
      rw [cf (by simp), Nat.gcd_zero_left]
    · rw [ct (nt (by omega)), ct (nt (by omega)), show Int.tmod (a : Int) (b : Int) = ((a % b : Nat) : Int) from rfl, ih _ _ (by have := Nat.mod_lt a (Nat.pos_of_ne_zero h); omega), ← Nat.gcd_rec]
theorem ok : Spec := fun a b hp => ⟨b.toNat + 1, fun N hN => by
  simp only [P, Bool.and_eq_true, decide_eq_true_eq] at hp
  obtain ⟨h1, h2, h3, h4⟩ := hp
  obtain ⟨x, rfl⟩ := Int.eq_ofNat_of_zero_le h1
  obtain ⟨y, rfl⟩ := Int.eq_ofNat_of_zero_le h3
  simp only [Z1, Z5, Z4, Z3, Z6, Z2, Z0, g]
  rw [loop N _ N x y (by omega), Nat.gcd_comm]
  rfl⟩
end spec_l1Gcd
end
end Go.Fw
namespace Go.Fw
noncomputable section
variable {ρ : Type}
namespace spec_l1Factors
def P (m : Int × Int × List Int) : Bool := sizesK m
def g (m : Int × Int × List Int) : List Int × Bool := (facK m, !decide (facK m = []))
end spec_l1Factors
namespace spec_l1Factors
def Z1 {ρ : Type} (N : Nat) (v0 : MT) (kn : I2 (LI → Option ρ)) : Option ρ :=
 kn v0.1 v0.2.1 v0.2.2
def Z3 {ρ : Type} (N : Nat) (v1_0 v1_1 : Int) (v1_2 : LI) (kn : LI → I2 (LI → Option ρ)) : Option ρ :=
 cond (lk N (leB 0 v1_0 && decide (v1_0 < 1099511627776))) (
  kn (List.replicate v1_0.toNat (0 : Int)) v1_0 v1_1 v1_2) none
def Z6 {ρ : Type} (N : Nat) (v4 : LI) (v1_0 v1_1 : Int) (v1_2 : LI) (kn : LI → I3 (LI → Option ρ)) : Option ρ :=
 kn v4 0 v1_0 v1_1 v1_2
def Z10 {ρ : Type} (N : Nat) (v4 : LI) (v5 v1_0 v1_1 : Int) (v1_2 : LI) (kn : LI → I3 (LI → Option ρ)) (k0 : LI → I2 (LI → Option ρ)) : Option ρ :=
 cond (lk N (decide (v5 < v1_0)))
 (
  kn v4 v5 v1_0 v1_1 v1_2)
 (
  k0 v4 v1_0 v1_1 v1_2)
def Z14 {ρ : Type} (N : Nat) (v4 : LI) (v5 v1_0 v1_1 : Int) (v1_2 : LI) (kn k1 : LI → I3 (LI → Option ρ)) : Option ρ :=
 cond (lk N (inB v5 v4.length)) (
  cond (lk N (decide (0 < (v4.getD v5.toNat 0))))
  (
   k1 v4 v5 v1_0 v1_1 v1_2)
  (
   kn v4 v5 v1_0 v1_1 v1_2)) none
def Z16 {ρ : Type} (N : Nat) (v4 : LI) (v5 v1_0 v1_1 : Int) (v1_2 : LI) (kn : LI → LI → LI → I3 (LI → Option ρ)) : Option ρ :=
 cond (lk N (spec_l1Piece.P (v1_0, (v1_1, v1_2)) v5)) (
  kn v4 (spec_l1Piece.g (v1_0, (v1_1, v1_2)) v5).1 (spec_l1Piece.g (v1_0, (v1_1, v1_2)) v5).2 v5 v1_0 v1_1 v1_2) none
def Z18 {ρ : Type} (N : Nat) (v4 v6 v7 : LI) (v5 v1_0 v1_1 : Int) (v1_2 : LI) (kn : LI → LI → LI → I3 (LI → Option ρ)) : Option ρ :=
 cond (lk N (inB v5 v4.length)) (
  kn (v4.set v5.toNat 1) v6 v7 v5 v1_0 v1_1 v1_2) none
def Z21 {ρ : Type} (N : Nat) (v4 v6 v7 : LI) (v5 v1_0 v1_1 : Int) (v1_2 : LI) (kn : LI → LI → LI → I4 (LI → Option ρ)) : Option ρ :=
 kn v4 v6 v7 v5 1 v1_0 v1_1 v1_2
def Z24 {ρ : Type} (N : Nat) (v4 v6 v7 : LI) (v5 v8 v1_0 v1_1 : Int) (v1_2 : LI) (kn : LI → LI → LI → I4 (LI → Option ρ)) (k2 : LI → LI → LI → I3 (LI → Option ρ)) : Option ρ :=
 cond (lk N (decide (v8 < (v6.length : Int))))
 (
  cond (lk N (inB v5 v4.length)) (
   cond (lk N (inB v8 v6.length)) (
    cond (lk N (inB v8 v7.length)) (
     cond (lk N (spec_l1At.P (v1_0, (v1_1, v1_2)) (v6.getD v8.toNat 0) (v7.getD v8.toNat 0))) (
      cond (lk N (inB v5 v4.length)) (
       kn (v4.set v5.toNat (w64 ((v4.getD v5.toNat 0) * (spec_l1Abs.g (spec_l1At.g (v1_0, (v1_1, v1_2)) (v6.getD v8.toNat 0) (v7.getD v8.toNat 0)))))) v6 v7 v5 (w64 (v8 + 1)) v1_0 v1_1 v1_2) none) none) none) none) none)
 (
  k2 v4 v6 v7 v5 v1_0 v1_1 v1_2)
def Z23L {ρ : Type} (N : Nat) (k2 : LI → LI → LI → I3 (LI → Option ρ)) : Nat → LI → LI → LI → Int → Int → Int → Int → LI → Option ρ
  | 0, _, _, _, _, _, _, _, _ => none
  | M + 1, v4, v6, v7, v5, v8, v1_0, v1_1, v1_2 => Z24 N v4 v6 v7 v5 v8 v1_0 v1_1 v1_2 (fun v4 v6 v7 v5 v8 v1_0 v1_1 v1_2 => Z23L N k2 M v4 v6 v7 v5 v8 v1_0 v1_1 v1_2) k2
def Z23 N v4 v6 v7 v5 v8 v1_0 v1_1 v1_2 k2 := (Z23L N k2 N v4 v6 v7 v5 v8 v1_0 v1_1 v1_2 : Option ρ)
def Z22 N v4 v6 v7 v5 v8 v1_0 v1_1 v1_2 kn := (Z23 N v4 v6 v7 v5 v8 v1_0 v1_1 v1_2 kn : Option ρ)
def Z20 N v4 v6 v7 v5 v1_0 v1_1 v1_2 kn := (Z21 N v4 v6 v7 v5 v1_0 v1_1 v1_2 (fun v4 v6 v7 v5 v8 v1_0 v1_1 v1_2 => Z22 N v4 v6 v7 v5 v8 v1_0 v1_1 v1_2 kn) : Option ρ)
def Z26 {ρ : Type} (N : Nat) (v4 v6 v7 : LI) (v5 v1_0 v1_1 : Int) (v1_2 : LI) (kn : LI → LI → LI → I4 (LI → Option ρ)) : Option ρ :=
 cond (lk N (inB v5 v4.length)) (
  kn v4 v6 v7 v5 (v4.getD v5.toNat 0) v1_0 v1_1 v1_2) none
def Z29 {ρ : Type} (N : Nat) (v4 v6 v7 : LI) (v5 v9 v1_0 v1_1 : Int) (v1_2 : LI) (kn : LI → LI → LI → I5 (LI → Option ρ)) : Option ρ :=
 kn v4 v6 v7 v5 v9 1 v1_0 v1_1 v1_2
def Z32 {ρ : Type} (N : Nat) (v4 v6 v7 : LI) (v5 v9 v10 v1_0 v1_1 : Int) (v1_2 : LI) (kn : LI → LI → LI → I5 (LI → Option ρ)) (k4 : LI → LI → I4 (LI → Option ρ)) : Option ρ :=
 cond (lk N (decide (v10 < (v6.length : Int))))
 (
  cond (lk N (inB v10 v6.length)) (
   cond (lk N (inB v10 v7.length)) (
    cond (lk N (inB (v7.getD v10.toNat 0) v4.length)) (
     cond (lk N (inB v10 v7.length)) (
      cond (lk N (inB v10 v6.length)) (
       cond (lk N (inB v10 v6.length)) (
        cond (lk N (inB v10 v7.length)) (
         cond (lk N (spec_l1At.P (v1_0, (v1_1, v1_2)) (v7.getD v10.toNat 0) (v6.getD v10.toNat 0))) (
          cond (lk N (spec_l1At.P (v1_0, (v1_1, v1_2)) (v6.getD v10.toNat 0) (v7.getD v10.toNat 0))) (
           cond (lk N (!(decide ((spec_l1Abs.g (spec_l1At.g (v1_0, (v1_1, v1_2)) (v6.getD v10.toNat 0) (v7.getD v10.toNat 0))) = 0)))) (
            cond (lk N (inB (v6.getD v10.toNat 0) v4.length)) (
             cond (lk N (inB v10 v6.length)) (
              cond (lk N (inB (v6.getD v10.toNat 0) (v4.set (v6.getD v10.toNat 0).toNat (w64 (Int.tdiv (w64 ((v4.getD (v7.getD v10.toNat 0).toNat 0) * (spec_l1Abs.g (spec_l1At.g (v1_0, (v1_1, v1_2)) (v7.getD v10.toNat 0) (v6.getD v10.toNat 0))))) (spec_l1Abs.g (spec_l1At.g (v1_0, (v1_1, v1_2)) (v6.getD v10.toNat 0) (v7.getD v10.toNat 0)))))).length)) (
               cond (lk N (spec_l1Gcd.P v9 ((v4.set (v6.getD v10.toNat 0).toNat (w64 (Int.tdiv (w64 ((v4.getD (v7.getD v10.toNat 0).toNat 0) * (spec_l1Abs.g (spec_l1At.g (v1_0, (v1_1, v1_2)) (v7.getD v10.toNat 0) (v6.getD v10.toNat 0))))) (spec_l1Abs.g (spec_l1At.g (v1_0, (v1_1, v1_2)) (v6.getD v10.toNat 0) (v7.getD v10.toNat 0)))))).getD (v6.getD v10.toNat 0).toNat 0))) (
                kn (v4.set (v6.getD v10.toNat 0).toNat (w64 (Int.tdiv (w64 ((v4.getD (v7.getD v10.toNat 0).toNat 0) * (spec_l1Abs.g (spec_l1At.g (v1_0, (v1_1, v1_2)) (v7.getD v10.toNat 0) (v6.getD v10.toNat 0))))) (spec_l1Abs.g (spec_l1At.g (v1_0, (v1_1, v1_2)) (v6.getD v10.toNat 0) (v7.getD v10.toNat 0)))))) v6 v7 v5 (spec_l1Gcd.g v9 ((v4.set (v6.getD v10.toNat 0).toNat (w64 (Int.tdiv (w64 ((v4.getD (v7.getD v10.toNat 0).toNat 0) * (spec_l1Abs.g (spec_l1At.g (v1_0, (v1_1, v1_2)) (v7.getD v10.toNat 0) (v6.getD v10.toNat 0))))) (spec_l1Abs.g (spec_l1At.g (v1_0, (v1_1, v1_2)) (v6.getD v10.toNat 0) (v7.getD v10.toNat 0)))))).getD (v6.getD v10.toNat 0).toNat 0)) (w64 (v10 + 1)) v1_0 v1_1 v1_2) none) none) none) none) none) none) none) none) none) none) none) none) none) none)
 (
  k4 v4 v6 v5 v9 v1_0 v1_1 v1_2)
def Z31L {ρ : Type} (N : Nat) (k4 : LI → LI → I4 (LI → Option ρ)) : Nat → LI → LI → LI → Int → Int → Int → Int → Int → LI → Option ρ
  | 0, _, _, _, _, _, _, _, _, _ => none
  | M + 1, v4, v6, v7, v5, v9, v10, v1_0, v1_1, v1_2 => Z32 N v4 v6 v7 v5 v9 v10 v1_0 v1_1 v1_2 (fun v4 v6 v7 v5 v9 v10 v1_0 v1_1 v1_2 => Z31L N k4 M v4 v6 v7 v5 v9 v10 v1_0 v1_1 v1_2) k4
def Z31 N v4 v6 v7 v5 v9 v10 v1_0 v1_1 v1_2 k4 := (Z31L N k4 N v4 v6 v7 v5 v9 v10 v1_0 v1_1 v1_2 : Option ρ)
def Z30 N v4 v6 v7 v5 v9 v10 v1_0 v1_1 v1_2 kn := (Z31 N v4 v6 v7 v5 v9 v10 v1_0 v1_1 v1_2 kn : Option ρ)
def Z28 N v4 v6 v7 v5 v9 v1_0 v1_1 v1_2 kn := (Z29 N v4 v6 v7 v5 v9 v1_0 v1_1 v1_2 (fun v4 v6 v7 v5 v9 v10 v1_0 v1_1 v1_2 => Z30 N v4 v6 v7 v5 v9 v10 v1_0 v1_1 v1_2 kn) : Option ρ)
def Z34 {ρ : Type} (N : Nat) (v4 v6 : LI) (v5 v9 v1_0 v1_1 : Int) (v1_2 : LI) (kn : LI → LI → I5 (LI → Option ρ)) : Option ρ :=
 kn v4 v6 v5 v9 0 v1_0 v1_1 v1_2
def Z37 {ρ : Type} (N : Nat) (v4 v6 : LI) (v5 v9 v11 v1_0 v1_1 : Int) (v1_2 : LI) (kn : LI → LI → I5 (LI → Option ρ)) (k6 : LI → I3 (LI → Option ρ)) : Option ρ :=
 cond (lk N (decide (v11 < (v6.length : Int))))
 (
  cond (lk N (inB v11 v6.length)) (
   cond (lk N (inB v11 v6.length)) (
    cond (lk N (inB (v6.getD v11.toNat 0) v4.length)) (
     cond (lk N (!(decide (v9 = 0)))) (
      cond (lk N (inB (v6.getD v11.toNat 0) v4.length)) (
       kn (v4.set (v6.getD v11.toNat 0).toNat (w64 (Int.tdiv (v4.getD (v6.getD v11.toNat 0).toNat 0) v9))) v6 v5 v9 (w64 (v11 + 1)) v1_0 v1_1 v1_2) none) none) none) none) none)
 (
  k6 v4 v5 v1_0 v1_1 v1_2)
def Z36L {ρ : Type} (N : Nat) (k6 : LI → I3 (LI → Option ρ)) : Nat → LI → LI → Int → Int → Int → Int → Int → LI → Option ρ
  | 0, _, _, _, _, _, _, _, _ => none
  | M + 1, v4, v6, v5, v9, v11, v1_0, v1_1, v1_2 => Z37 N v4 v6 v5 v9 v11 v1_0 v1_1 v1_2 (fun v4 v6 v5 v9 v11 v1_0 v1_1 v1_2 => Z36L N k6 M v4 v6 v5 v9 v11 v1_0 v1_1 v1_2) k6
def Z36 N v4 v6 v5 v9 v11 v1_0 v1_1 v1_2 k6 := (Z36L N k6 N v4 v6 v5 v9 v11 v1_0 v1_1 v1_2 : Option ρ)
def Z35 N v4 v6 v5 v9 v11 v1_0 v1_1 v1_2 kn := (Z36 N v4 v6 v5 v9 v11 v1_0 v1_1 v1_2 kn : Option ρ)
def Z33 N v4 v6 v5 v9 v1_0 v1_1 v1_2 kn := (Z34 N v4 v6 v5 v9 v1_0 v1_1 v1_2 (fun v4 v6 v5 v9 v11 v1_0 v1_1 v1_2 => Z35 N v4 v6 v5 v9 v11 v1_0 v1_1 v1_2 kn) : Option ρ)
def Z27 N v4 v6 v7 v5 v9 v1_0 v1_1 v1_2 kn := (Z28 N v4 v6 v7 v5 v9 v1_0 v1_1 v1_2 (fun v4 v6 v5 v9 v1_0 v1_1 v1_2 => Z33 N v4 v6 v5 v9 v1_0 v1_1 v1_2 kn) : Option ρ)
def Z25 N v4 v6 v7 v5 v1_0 v1_1 v1_2 kn := (Z26 N v4 v6 v7 v5 v1_0 v1_1 v1_2 (fun v4 v6 v7 v5 v9 v1_0 v1_1 v1_2 => Z27 N v4 v6 v7 v5 v9 v1_0 v1_1 v1_2 kn) : Option ρ)
def Z19 N v4 v6 v7 v5 v1_0 v1_1 v1_2 kn := (Z20 N v4 v6 v7 v5 v1_0 v1_1 v1_2 (fun v4 v6 v7 v5 v1_0 v1_1 v1_2 => Z25 N v4 v6 v7 v5 v1_0 v1_1 v1_2 kn) : Option ρ)
def Z17 N v4 v6 v7 v5 v1_0 v1_1 v1_2 kn := (Z18 N v4 v6 v7 v5 v1_0 v1_1 v1_2 (fun v4 v6 v7 v5 v1_0 v1_1 v1_2 => Z19 N v4 v6 v7 v5 v1_0 v1_1 v1_2 kn) : Option ρ)
def Z15 N v4 v5 v1_0 v1_1 v1_2 kn := (Z16 N v4 v5 v1_0 v1_1 v1_2 (fun v4 v6 v7 v5 v1_0 v1_1 v1_2 => Z17 N v4 v6 v7 v5 v1_0 v1_1 v1_2 kn) : Option ρ)
def Z13 N v4 v5 v1_0 v1_1 v1_2 kn k1 := (Z14 N v4 v5 v1_0 v1_1 v1_2 (fun v4 v5 v1_0 v1_1 v1_2 => Z15 N v4 v5 v1_0 v1_1 v1_2 kn) k1 : Option ρ)
def Z12 N v4 v5 v1_0 v1_1 v1_2 kn := (Z13 N v4 v5 v1_0 v1_1 v1_2 kn kn : Option ρ)
def Z38 {ρ : Type} (N : Nat) (v4 : LI) (v5 v1_0 v1_1 : Int) (v1_2 : LI) (kn : LI → I3 (LI → Option ρ)) : Option ρ :=
 kn v4 (w64 (v5 + 1)) v1_0 v1_1 v1_2
def Z11 N v4 v5 v1_0 v1_1 v1_2 kn := (Z12 N v4 v5 v1_0 v1_1 v1_2 (fun v4 v5 v1_0 v1_1 v1_2 => Z38 N v4 v5 v1_0 v1_1 v1_2 kn) : Option ρ)
def Z9 N v4 v5 v1_0 v1_1 v1_2 kn k0 := (Z10 N v4 v5 v1_0 v1_1 v1_2 (fun v4 v5 v1_0 v1_1 v1_2 => Z11 N v4 v5 v1_0 v1_1 v1_2 kn) k0 : Option ρ)
def Z8L {ρ : Type} (N : Nat) (k0 : LI → I2 (LI → Option ρ)) : Nat → LI → Int → Int → Int → LI → Option ρ
  | 0, _, _, _, _, _ => none
  | M + 1, v4, v5, v1_0, v1_1, v1_2 => Z9 N v4 v5 v1_0 v1_1 v1_2 (fun v4 v5 v1_0 v1_1 v1_2 => Z8L N k0 M v4 v5 v1_0 v1_1 v1_2) k0
def Z8 N v4 v5 v1_0 v1_1 v1_2 k0 := (Z8L N k0 N v4 v5 v1_0 v1_1 v1_2 : Option ρ)
def Z7 N v4 v5 v1_0 v1_1 v1_2 kn := (Z8 N v4 v5 v1_0 v1_1 v1_2 kn : Option ρ)
def Z5 N v4 v1_0 v1_1 v1_2 kn := (Z6 N v4 v1_0 v1_1 v1_2 (fun v4 v5 v1_0 v1_1 v1_2 => Z7 N v4 v5 v1_0 v1_1 v1_2 kn) : Option ρ)
def Z41 {ρ : Type} (N : Nat) (v4 : LI) (v1_0 v1_1 : Int) (v1_2 : LI) (kn : LI → I3 (LI → Option ρ)) : Option ρ :=
 kn v4 0 v1_0 v1_1 v1_2
def Z45 {ρ : Type} (N : Nat) (v4 : LI) (v12 v1_0 v1_1 : Int) (v1_2 : LI) (kn : LI → I3 (LI → Option ρ)) (k8 : LI → Option ρ) : Option ρ :=
 cond (lk N (decide (v12 < v1_0)))
 (
  kn v4 v12 v1_0 v1_1 v1_2)
 (
  k8 v4)
def Z49 {ρ : Type} (N : Nat) (v4 : LI) (v12 v1_0 v1_1 : Int) (v1_2 : LI) (kn : LI → I4 (LI → Option ρ)) : Option ρ :=
 kn v4 v12 0 v1_0 v1_1 v1_2
def Z52 {ρ : Type} (N : Nat) (v4 : LI) (v12 v13 v1_0 v1_1 : Int) (v1_2 : LI) (kn : LI → I4 (LI → Option ρ)) (k10 : LI → I3 (LI → Option ρ)) (kr : LI → Bool → Option ρ) : Option ρ :=
 cond (lk N (decide (v13 < v1_0)))
 (
  cond (lk N (inB v12 v4.length)) (
   cond (lk N (inB v13 v4.length)) (
    cond (lk N (spec_l1At.P (v1_0, (v1_1, v1_2)) v12 v13)) (
     cond (lk N (spec_l1At.P (v1_0, (v1_1, v1_2)) v13 v12)) (
      cond (lk N (!(decide ((w64 ((v4.getD v12.toNat 0) * (spec_l1At.g (v1_0, (v1_1, v1_2)) v12 v13))) = (w64 (0 - (w64 ((v4.getD v13.toNat 0) * (spec_l1At.g (v1_0, (v1_1, v1_2)) v13 v12)))))))))
      (
       kr ([] : List Int) false)
      (
       kn v4 v12 (w64 (v13 + 1)) v1_0 v1_1 v1_2)) none) none) none) none)
 (
  k10 v4 v12 v1_0 v1_1 v1_2)
def Z51L {ρ : Type} (N : Nat) (k10 : LI → I3 (LI → Option ρ)) (kr : LI → Bool → Option ρ) : Nat → LI → Int → Int → Int → Int → LI → Option ρ
  | 0, _, _, _, _, _, _ => none
  | M + 1, v4, v12, v13, v1_0, v1_1, v1_2 => Z52 N v4 v12 v13 v1_0 v1_1 v1_2 (fun v4 v12 v13 v1_0 v1_1 v1_2 => Z51L N k10 kr M v4 v12 v13 v1_0 v1_1 v1_2) k10 kr
def Z51 N v4 v12 v13 v1_0 v1_1 v1_2 k10 kr := (Z51L N k10 kr N v4 v12 v13 v1_0 v1_1 v1_2 : Option ρ)
def Z50 N v4 v12 v13 v1_0 v1_1 v1_2 kn kr := (Z51 N v4 v12 v13 v1_0 v1_1 v1_2 kn kr : Option ρ)
def Z48 N v4 v12 v1_0 v1_1 v1_2 kn kr := (Z49 N v4 v12 v1_0 v1_1 v1_2 (fun v4 v12 v13 v1_0 v1_1 v1_2 => Z50 N v4 v12 v13 v1_0 v1_1 v1_2 kn kr) : Option ρ)
def Z47 N v4 v12 v1_0 v1_1 v1_2 kn kr := (Z48 N v4 v12 v1_0 v1_1 v1_2 kn kr : Option ρ)
def Z53 {ρ : Type} (N : Nat) (v4 : LI) (v12 v1_0 v1_1 : Int) (v1_2 : LI) (kn : LI → I3 (LI → Option ρ)) : Option ρ :=
 kn v4 (w64 (v12 + 1)) v1_0 v1_1 v1_2
def Z46 N v4 v12 v1_0 v1_1 v1_2 kn kr := (Z47 N v4 v12 v1_0 v1_1 v1_2 (fun v4 v12 v1_0 v1_1 v1_2 => Z53 N v4 v12 v1_0 v1_1 v1_2 kn) kr : Option ρ)
def Z44 N v4 v12 v1_0 v1_1 v1_2 kn k8 kr := (Z45 N v4 v12 v1_0 v1_1 v1_2 (fun v4 v12 v1_0 v1_1 v1_2 => Z46 N v4 v12 v1_0 v1_1 v1_2 kn kr) k8 : Option ρ)
def Z43L {ρ : Type} (N : Nat) (k8 : LI → Option ρ) (kr : LI → Bool → Option ρ) : Nat → LI → Int → Int → Int → LI → Option ρ
  | 0, _, _, _, _, _ => none
  | M + 1, v4, v12, v1_0, v1_1, v1_2 => Z44 N v4 v12 v1_0 v1_1 v1_2 (fun v4 v12 v1_0 v1_1 v1_2 => Z43L N k8 kr M v4 v12 v1_0 v1_1 v1_2) k8 kr
def Z43 N v4 v12 v1_0 v1_1 v1_2 k8 kr := (Z43L N k8 kr N v4 v12 v1_0 v1_1 v1_2 : Option ρ)
def Z42 N v4 v12 v1_0 v1_1 v1_2 kn kr := (Z43 N v4 v12 v1_0 v1_1 v1_2 kn kr : Option ρ)
def Z40 N v4 v1_0 v1_1 v1_2 kn kr := (Z41 N v4 v1_0 v1_1 v1_2 (fun v4 v12 v1_0 v1_1 v1_2 => Z42 N v4 v12 v1_0 v1_1 v1_2 kn kr) : Option ρ)
def Z54 {ρ : Type} (N : Nat) (v4 : LI) (kr : LI → Bool → Option ρ) : Option ρ :=
 kr v4 true
def Z39 N v4 v1_0 v1_1 v1_2 kr := (Z40 N v4 v1_0 v1_1 v1_2 (fun v4 => Z54 N v4 kr) kr : Option ρ)
def Z4 N v4 v1_0 v1_1 v1_2 kr := (Z5 N v4 v1_0 v1_1 v1_2 (fun v4 v1_0 v1_1 v1_2 => Z39 N v4 v1_0 v1_1 v1_2 kr) : Option ρ)
def Z2 N v1_0 v1_1 v1_2 kr := (Z3 N v1_0 v1_1 v1_2 (fun v4 v1_0 v1_1 v1_2 => Z4 N v4 v1_0 v1_1 v1_2 kr) : Option ρ)
def Z0 N v0 kr := (Z1 N v0 (fun v1_0 v1_1 v1_2 => Z2 N v1_0 v1_1 v1_2 kr) : Option ρ)
def Spec : Prop := ∀  (v0 : MT), Ty.bd (.pair (.int .i64) (.pair (.int .i64) (.sl 0 (.int .i64)))) v0 → P v0 = true → ∃ N0, ∀ N, N0 ≤ N → Z0 N v0 (fun v2 v3 => some ((), (v2, (v3, ())))) = some ((), ((g v0).1, ((g v0).2, ())))
theorem abs_eq {a : Int} (h : -99 ≤ a ∧ a ≤ 99) : spec_l1Abs.g a = absK a := by
  unfold spec_l1Abs.g
  rw [w64_id (by omega) (by omega), mx_eq]
  unfold absK
  omega
section
variable {ρ : Type} {N : Nat} {m : Int × Int × List Int} {s : List Nat × List Nat} {i : Nat}
theorem at_g (hd : 0 ≤ m.1) (a b : Nat) : spec_l1At.g (m.1, (m.2.1, m.2.2)) (a : Int) (b : Int) = ent m a b := atK_nat hd a b
theorem at_p (hd : dimK m = true) {a b : Nat} (ha : a < m.1.toNat) (hb : b < m.1.toNat) : spec_l1At.P (m.1, (m.2.1, m.2.2)) (a : Int) (b : Int) = true := by
  obtain ⟨n, r, hn, hr, hn1, hn5, hnr, hr8, hl⟩ := dim_nat hd
  exact at_ok hd (by omega) hb
theorem loop1 (hs : sizesK m = true) (h : PInv m.1.toNat (ent m) i s) (hi : i < m.1.toNat) (k2 : List Int → List Int → List Int → Int → Int → Int → List Int → Option ρ) (d0 : List Int) (hd0 : d0.length = m.1.toNat) : ∀ (M k : Nat), 1 ≤ k → k ≤ s.1.length → s.1.length - k < M →
    Z23L N k2 M (d0.set i (prodK (qK m s) k)) (ints s.1) (ints s.2) (i : Int) (k : Int) m.1 m.2.1 m.2.2 = k2 (d0.set i (prodK (qK m s) s.1.length)) (ints s.1) (ints s.2) (i : Int) m.1 m.2.1 m.2.2 := by
  have hdim := shaped_dim (sizes_shaped hs)
  obtain ⟨n, r, hn, hr, hn1, hn5, hnr, hr8, hl⟩ := dim_nat hdim
  have hle := h.le
  intro M
  induction M with
  | zero => intro k _ _ hM; omega
  | succ M ih =>
    intro k h1 hk hM
    simp only [Z23L, Z24]
    by_cases hlt : k < s.1.length
    · have hb := prodK_bound (q_range hs h) (k + 1) (by omega)
      have hp9 := pow99 (k := k + 1) (by omega)
      have e : qK m s k = spec_l1Abs.g (ent m (s.1.getD k 0) (s.2.getD k 0)) := by
        rw [abs_eq (ent_bound (sizes_shaped hs) _ _), qK, if_neg (by omega)]
      rw [ct (dt (by rw [ints_len]; omega)), ct (inB_nat (by rw [List.length_set]; omega)), ct (inB_nat (by rw [ints_len]; omega)), ct (inB_nat (by rw [ints_len, h.len]; omega))]
      simp only [Int.toNat_natCast, ints_getD]
      rw [ct (at_p hdim (h.lt _ (getD_mem 0 hlt)) (src_lt h h1 hlt)), ct (inB_nat (by rw [List.length_set]; omega)), List.set_set, getD_put (by omega), if_pos rfl, at_g (by omega), ← e,
        show prodK (qK m s) k * qK m s k = prodK (qK m s) (k + 1) from rfl, w64_id (by omega) (by omega), w64_succ (by rw [maxLen_val]; omega)]
      exact ih (k + 1) (by omega) (by omega) (by omega)
    · rw [cf (df (by rw [ints_len]; omega)), show k = s.1.length by omega]
theorem loop2 (hs : sizesK m = true) (h : PInv m.1.toNat (ent m) i s) (k4 : List Int → List Int → Int → Int → Int → Int → List Int → Option ρ) (d0 : List Int) : ∀ (M k : Nat) (d : List Int) (g : Int), 1 ≤ k → k ≤ s.1.length → s.1.length - k < M → T2 m s d0 k d g →
    ∃ d' g', T2 m s d0 s.1.length d' g' ∧ Z31L N k4 M d (ints s.1) (ints s.2) (i : Int) g (k : Int) m.1 m.2.1 m.2.2 = k4 d' (ints s.1) (i : Int) g' m.1 m.2.1 m.2.2 := by
  have hdim := shaped_dim (sizes_shaped hs)
  obtain ⟨n, r, hn, hr, hn1, hn5, hnr, hr8, hl⟩ := dim_nat hdim
  have hle := h.le
  intro M
  induction M with
  | zero => intro k _ _ _ _ hM; omega
  | succ M ih =>
    intro k d g h1 hk hM ht
    simp only [Z31L, Z32]
    by_cases hlt : k < s.1.length
    · obtain ⟨⟨a1, a2⟩, ⟨b1, b2⟩, hst⟩ := ht.step hs h (by omega) h1 hlt
      obtain ⟨⟨hq, _⟩, hp, _⟩ := pq_range hs h h1 hlt
      have hg := ht.g_range h1
      have hx := h.lt _ (getD_mem 0 hlt)
      have hf := src_lt h h1 hlt
      have e1 : spec_l1Abs.g (ent m (s.1.getD k 0) (s.2.getD k 0)) = qK m s k := by
        rw [abs_eq (ent_bound (sizes_shaped hs) _ _), qK, if_neg (by omega)]
      have e2 : spec_l1Abs.g (ent m (s.2.getD k 0) (s.1.getD k 0)) = pK m s k := by
        rw [abs_eq (ent_bound (sizes_shaped hs) _ _), pK]
      have c1 : inB (k : Int) (ints s.1).length = true := inB_nat (by rw [ints_len]; omega)
      have c2 : inB (k : Int) (ints s.2).length = true := inB_nat (by rw [ints_len, h.len]; omega)
      rw [ct (dt (by rw [ints_len]; omega)), ct c1, ct c2]
      simp only [Int.toNat_natCast, ints_getD]
      rw [ct (inB_nat (by rw [ht.len]; exact hf)), ct c2, ct c1, ct c1, ct c2, ct (at_p hdim hf hx), ct (at_p hdim hx hf)]
      simp only [at_g (show 0 ≤ m.1 by omega), e1, e2]
      rw [ct (nt (by omega)), ct (inB_nat (by rw [ht.len]; exact hx)), ct c1]
      simp only [w64_id (show -9223372036854775808 ≤ d.getD (s.2.getD k 0) 0 * pK m s k by omega) (by omega)]
      simp only [w64_id (show -9223372036854775808 ≤ Int.tdiv (d.getD (s.2.getD k 0) 0 * pK m s k) (qK m s k) by omega) (by omega)]
      rw [ct (inB_nat (by rw [List.length_set, ht.len]; exact hx)), getD_put (by rw [ht.len]; exact hx), if_pos rfl]
      rw [ct (show spec_l1Gcd.P g _ = true by
        simp only [spec_l1Gcd.P, Bool.and_eq_true, decide_eq_true_eq]
        exact ⟨by omega, by omega, by omega, by omega⟩), w64_succ (by rw [maxLen_val]; omega)]
      exact ih (k + 1) _ _ (by omega) (by omega) (by omega) hst
    · have e : k = s.1.length := by omega
      subst e
      exact ⟨d, g, ht, by rw [cf (df (by rw [ints_len]; omega))]⟩
theorem loop3 (hs : sizesK m = true) (h : PInv m.1.toNat (ent m) i s) (k6 : List Int → Int → Int → Int → List Int → Option ρ) (d0 d2 : List Int) (g : Int) (h2 : T2 m s d0 s.1.length d2 g) : ∀ (M k : Nat) (d : List Int), k ≤ s.1.length → s.1.length - k < M → T3 m s d2 g k d →
    ∃ d', T3 m s d2 g s.1.length d' ∧ Z36L N k6 M d (ints s.1) (i : Int) g (k : Int) m.1 m.2.1 m.2.2 = k6 d' (i : Int) m.1 m.2.1 m.2.2 := by
  have hle := h.le
  have hdim := shaped_dim (sizes_shaped hs)
  obtain ⟨n, r, hn, hr, hn1, hn5, hnr, hr8, hl⟩ := dim_nat hdim
  have hg := h2.g_range h.pos
  intro M
  induction M with
  | zero => intro k _ _ hM; omega
  | succ M ih =>
    intro k d hk hM ht
    simp only [Z36L, Z37]
    by_cases hlt : k < s.1.length
    · have hx := h.lt _ (getD_mem 0 hlt)
      have c1 : inB (k : Int) (ints s.1).length = true := inB_nat (by rw [ints_len]; omega)
      have hv := h2.val k hlt
      have hp8 := pow99 (k := 4 + k) (by omega)
      have hdv : 0 ≤ Int.tdiv (d2.getD (s.1.getD k 0) 0) g ∧ Int.tdiv (d2.getD (s.1.getD k 0) 0) g ≤ 9227446944279201 := by
        rw [Int.tdiv_eq_ediv_of_nonneg (by omega)]
        refine ⟨Int.ediv_nonneg (by omega) (by omega), ?_⟩
        have := Int.ediv_le_self (a := d2.getD (s.1.getD k 0) 0) g (by omega)
        omega
      rw [ct (dt (by rw [ints_len]; omega)), ct c1, ct c1]
      simp only [Int.toNat_natCast, ints_getD]
      rw [ct (inB_nat (by rw [ht.len]; exact hx)), ct (nt (by omega)), ct (inB_nat (by rw [ht.len]; exact hx)), ht.cur h.nd h.lt hlt, w64_id (by omega) (by omega), w64_succ (by rw [maxLen_val]; omega)]
      exact ih (k + 1) _ (by omega) (by omega) (ht.step h.nd h.lt hlt)
    · have e : k = s.1.length := by omega
      subst e
      exact ⟨d, ht, by rw [cf (df (by rw [ints_len]; omega))]⟩
theorem outer (hN : 10 ≤ N) (hs : sizesK m = true) (k0 : List Int → Int → Int → List Int → Option ρ) : ∀ (M i : Nat) (d : List Int), i ≤ m.1.toNat → m.1.toNat - i < M → d.length = m.1.toNat → Part m.1.toNat (ent m) (fun x => d.getD x 0) → (∀ x, x < i → 0 < d.getD x 0) →
    ∃ d', (d'.length = m.1.toNat ∧ Part m.1.toNat (ent m) (fun x => d'.getD x 0) ∧ ∀ x, x < m.1.toNat → 0 < d'.getD x 0) ∧ Z8L N k0 M d (i : Int) m.1 m.2.1 m.2.2 = k0 d' m.1 m.2.1 m.2.2 := by
  have hdim := shaped_dim (sizes_shaped hs)
  obtain ⟨n, r, hn, hr, hn1, hn5, hnr, hr8, hl⟩ := dim_nat hdim
  intro M
  induction M with
  | zero => intro i _ _ hM; omega
  | succ M ih =>
    intro i d hi hM hdl hpt hpos
    simp only [Z8L, Z9, Z10]
    by_cases hlt : i < m.1.toNat
    · rw [ct (dt (by omega))]
      simp only [Z11, Z12, Z13, Z14]
      rw [ct (inB_nat (by omega)), Int.toNat_natCast]
      by_cases hd : 0 < d.getD i 0
      · rw [ct (dt hd)]
        simp only [Z38]
        rw [w64_succ (by rw [maxLen_val]; omega)]
        exact ih (i + 1) d hlt (by omega) hdl hpt (fun x hx => by
          by_cases e : x = i
          · subst e; exact hd
          · exact hpos x (by omega))
      · rw [cf (df hd)]
        obtain ⟨h, hcl⟩ := piece_ok hlt
        simp only [Z15, Z16]
        rw [ct (show spec_l1Piece.P (m.1, (m.2.1, m.2.2)) (i : Int) = true by
          simp only [spec_l1Piece.P, Bool.and_eq_true, decide_eq_true_eq]
          exact ⟨hdim, by omega, by omega⟩)]
        simp only [Z17, Z18]
        rw [ct (inB_nat (by omega)), Int.toNat_natCast]
        have eP : spec_l1Piece.g (m.1, (m.2.1, m.2.2)) (i : Int) = (ints (pieceK m i).1, ints (pieceK m i).2) := rfl
        rw [eP]
        generalize pieceK m i = s at h hcl
        have hle := h.le
        simp only [Z19, Z20, Z21, Z22, Z23]
        have l1 := loop1 (ρ := ρ) (N := N) hs h hlt (fun a b c d e f g => Z25 N a b c d e f g (fun a b c d e => Z38 N a b c d e (fun a b c d e => Z8L N k0 M a b c d e))) d hdl N 1 (by omega) h.pos (by omega)
        rw [show prodK (qK m s) 1 = 1 by simp [prodK, qK]] at l1
        rw [show (((1 : Nat) : Int)) = 1 from rfl] at l1
        rw [l1]
        simp only [Z25, Z26]
        have hset : ∀ v, (d.set i v).length = m.1.toNat := fun v => by rw [List.length_set]; exact hdl
        rw [ct (inB_nat (by rw [hset]; exact hlt)), Int.toNat_natCast, getD_put (by omega), if_pos rfl]
        simp only [Z27, Z28, Z29, Z30, Z31]
        have hH := prodK_bound (q_range hs h) s.1.length (by omega)
        have hHp : (99 : Int) ^ s.1.length ≤ 99 ^ (4 + 0) ∨ s.1.length = 5 := by
          by_cases e : s.1.length = 5
          · exact Or.inr e
          · left
            have : 99 ^ s.1.length ≤ 99 ^ (4 + 0) := Nat.pow_le_pow_right (by omega) (by omega)
            exact_mod_cast this
        have hH4 : prodK (qK m s) s.1.length ≤ 99 ^ (4 + 0) := by
          rcases hHp with hc | hc
          · omega
          · rw [hc]
            have q1 : prodK (qK m s) 1 = 1 := by simp [prodK, qK]
            have b : ∀ k, 1 ≤ k → k ≤ s.1.length → prodK (qK m s) k ≤ 99 ^ (k - 1) := by
              intro k
              induction k with
              | zero => intro h _; omega
              | succ k ihk =>
                intro _ hk
                by_cases e : k = 0
                · subst e; rw [q1]; decide
                · have c1 := ihk (by omega) (by omega)
                  have c2 := q_range hs h k (by omega)
                  have c3 := prodK_bound (q_range hs h) k (by omega)
                  have : prodK (qK m s) k * qK m s k ≤ 99 ^ (k - 1) * 99 := Int.mul_le_mul c1 c2.2 (by omega) (Int.pow_nonneg (by omega))
                  rw [← Int.pow_succ, show (k - 1).succ = k by omega] at this
                  exact this
            exact b 5 (by omega) (by omega)
        have t0 : T2 m s d 1 (d.set i (prodK (qK m s) s.1.length)) (prodK (qK m s) s.1.length) := by
          refine ⟨hset _, ?_, ?_, fun k h1 h2 => by omega, ?_⟩
          · intro x hx hall
            rw [getD_put (by omega), if_neg (fun e => hall 0 (by omega) (by rw [h.hd]; exact e.symm))]
          · intro k hk
            have e : k = 0 := by omega
            subst e
            rw [h.hd, getD_put (by omega), if_pos rfl]
            refine ⟨hH.1, hH4, ⟨prodK (qK m s) 1, rfl⟩⟩
          · show _ = ((gcdL [(d.set i (prodK (qK m s) s.1.length)).getD (s.1.getD 0 0) 0] : Nat) : Int)
            rw [h.hd, getD_put (by omega), if_pos rfl, gcdL, gcdL, Nat.gcd_zero_right]
            omega
        obtain ⟨d2, g2, ht2, l2⟩ := loop2 (ρ := ρ) (N := N) hs h (fun a b c d e f g => Z33 N a b c d e f g (fun a b c d e => Z38 N a b c d e (fun a b c d e => Z8L N k0 M a b c d e))) d N 1 _ _ (by omega) h.pos (by omega) t0
        rw [show (((1 : Nat) : Int)) = 1 from rfl] at l2
        rw [l2]
        simp only [Z33, Z34, Z35, Z36]
        obtain ⟨d3, ht3, l3⟩ := loop3 (ρ := ρ) (N := N) hs h (fun a b c d e => Z38 N a b c d e (fun a b c d e => Z8L N k0 M a b c d e)) d d2 g2 ht2 N 0 d2 (by omega) (by omega) ⟨ht2.len, fun _ _ _ => rfl, fun k hk => by omega⟩
        rw [show (((0 : Nat) : Int)) = 0 from rfl] at l3
        rw [l3]
        obtain ⟨p1, p2, p3⟩ := part_step hs hlt h (by omega) hcl hpt (by omega) ht2 ht3
        simp only [Z38]
        rw [w64_succ (by rw [maxLen_val]; omega)]
        exact ih (i + 1) d3 hlt (by omega) ht3.len p1 (fun x hx => by
          by_cases e : x = i
          · subst e; exact p2
          · exact p3 x (by omega) (hpos x (by omega)))
    · rw [cf (df (by omega))]
      exact ⟨d, ⟨hdl, hpt, fun x hx => hpos x (by omega)⟩, rfl⟩
def edge (m : Int × Int × List Int) (d : List Int) (i j : Nat) : Prop := d.getD i 0 * ent m i j = -(d.getD j 0 * ent m j i)
theorem edge_w (hs : shapedK m = true) {d : List Int} (hd : Part m.1.toNat (ent m) (fun x => d.getD x 0)) {i j : Nat} (hi : i < m.1.toNat) (hj : j < m.1.toNat) :
    (w64 (d.getD i 0 * ent m i j) = w64 (0 - w64 (d.getD j 0 * ent m j i))) ↔ edge m d i j := by
  have key : ∀ a b : Nat, a < m.1.toNat → -913517247483640899 ≤ d.getD a 0 * ent m a b ∧ d.getD a 0 * ent m a b ≤ 913517247483640899 := by
    intro a b ha
    obtain ⟨h1, h2, _⟩ := hd a ha
    have h3 := ent_bound hs a b
    have h1' : 0 ≤ d.getD a 0 := h1
    have h2' : d.getD a 0 ≤ 9227446944279201 := h2
    have c1 : d.getD a 0 * ent m a b ≤ d.getD a 0 * 99 := Int.mul_le_mul_of_nonneg_left h3.2 h1'
    have c2 : d.getD a 0 * (-99) ≤ d.getD a 0 * ent m a b := Int.mul_le_mul_of_nonneg_left h3.1 h1'
    omega
  have k1 := key i j hi
  have k2 := key j i hj
  rw [w64_id (by omega) (by omega), w64_id (n := d.getD j 0 * ent m j i) (by omega) (by omega), w64_id (by omega) (by omega), Int.zero_sub]
  rfl
theorem check1 (hs : sizesK m = true) {d : List Int} (hdl : d.length = m.1.toNat) (hd : Part m.1.toNat (ent m) (fun x => d.getD x 0)) (k10 : List Int → Int → Int → Int → List Int → Option ρ) (kr : List Int → Bool → Option ρ) {i : Nat} (hi : i < m.1.toNat) : ∀ (M j : Nat), j ≤ m.1.toNat → m.1.toNat - j < M →
    (Z51L N k10 kr M d (i : Int) (j : Int) m.1 m.2.1 m.2.2 = kr [] false ∧ ∃ j', j' < m.1.toNat ∧ ¬ edge m d i j') ∨
    (Z51L N k10 kr M d (i : Int) (j : Int) m.1 m.2.1 m.2.2 = k10 d (i : Int) m.1 m.2.1 m.2.2 ∧ ∀ j', j ≤ j' → j' < m.1.toNat → edge m d i j') := by
  have hdim := shaped_dim (sizes_shaped hs)
  obtain ⟨n, r, hn, hr, hn1, hn5, hnr, hr8, hl⟩ := dim_nat hdim
  intro M
  induction M with
  | zero => intro j _ hM; omega
  | succ M ih =>
    intro j hj hM
    simp only [Z51L, Z52]
    by_cases hlt : j < m.1.toNat
    · rw [ct (dt (by omega)), ct (inB_nat (by omega)), ct (inB_nat (by omega)), ct (at_p hdim hi hlt), ct (at_p hdim hlt hi)]
      have hA : spec_l1At.g (m.1, (m.2.1, m.2.2)) (i : Int) (j : Int) = ent m i j := at_g (by omega) _ _
      have hB : spec_l1At.g (m.1, (m.2.1, m.2.2)) (j : Int) (i : Int) = ent m j i := at_g (by omega) _ _
      simp only [Int.toNat_natCast, hA, hB]
      by_cases he : edge m d i j
      · rw [cf (nf ((edge_w (sizes_shaped hs) hd hi hlt).2 he)), w64_succ (by rw [maxLen_val]; omega)]
        rcases ih (j + 1) hlt (by omega) with hc | hc
        · exact Or.inl hc
        · refine Or.inr ⟨hc.1, fun j' h1 h2 => ?_⟩
          by_cases e : j' = j
          · subst e; exact he
          · exact hc.2 j' (by omega) h2
      · rw [ct (nt (fun hc => he ((edge_w (sizes_shaped hs) hd hi hlt).1 hc)))]
        exact Or.inl ⟨rfl, j, hlt, he⟩
    · rw [cf (df (by omega))]
      exact Or.inr ⟨rfl, fun j' h1 h2 => by omega⟩
theorem check2 (hN : 10 ≤ N) (hs : sizesK m = true) {d : List Int} (hdl : d.length = m.1.toNat) (hd : Part m.1.toNat (ent m) (fun x => d.getD x 0)) (k8 : List Int → Option ρ) (kr : List Int → Bool → Option ρ) : ∀ (M i : Nat), i ≤ m.1.toNat → m.1.toNat - i < M →
    (Z43L N k8 kr M d (i : Int) m.1 m.2.1 m.2.2 = kr [] false ∧ ∃ i' j', i' < m.1.toNat ∧ j' < m.1.toNat ∧ ¬ edge m d i' j') ∨
    (Z43L N k8 kr M d (i : Int) m.1 m.2.1 m.2.2 = k8 d ∧ ∀ i', i ≤ i' → i' < m.1.toNat → ∀ j', j' < m.1.toNat → edge m d i' j') := by
  have hdim := shaped_dim (sizes_shaped hs)
  obtain ⟨n, r, hn, hr, hn1, hn5, hnr, hr8, hl⟩ := dim_nat hdim
  intro M
  induction M with
  | zero => intro i _ hM; omega
  | succ M ih =>
    intro i hi hM
    simp only [Z43L, Z44, Z45]
    by_cases hlt : i < m.1.toNat
    · rw [ct (dt (by omega))]
      simp only [Z46, Z47, Z48, Z49, Z50, Z51]
      have hc := check1 (ρ := ρ) (N := N) hs hdl hd (fun a b c d e => Z53 N a b c d e (fun a b c d e => Z43L N k8 kr M a b c d e)) kr hlt N 0 (by omega) (by omega)
      rw [show ((0 : Nat) : Int) = 0 from rfl] at hc
      rcases hc with ⟨hc, j', h1, h2⟩ | ⟨hc, h1⟩
      · exact Or.inl ⟨hc, i, j', hlt, h1, h2⟩
      · rw [hc]
        simp only [Z53]
        rw [w64_succ (by rw [maxLen_val]; omega)]
        rcases ih (i + 1) hlt (by omega) with h2 | h2
        · exact Or.inl h2
        · refine Or.inr ⟨h2.1, fun i' h3 h4 => ?_⟩
          by_cases e : i' = i
          · subst e; exact fun j' hj' => h1 j' (by omega) hj'
          · exact h2.2 i' (by omega) h4
    · rw [cf (df (by omega))]
      exact Or.inr ⟨rfl, fun i' h1 h2 => by omega⟩
end
theorem ok : Spec := fun m hb hp => ⟨10, fun N hN => by
  have hs : sizesK m = true := hp
  have hdim := shaped_dim (sizes_shaped hs)
  obtain ⟨n, r, hn, hr, hn1, hn5, hnr, hr8, hl⟩ := dim_nat hdim
  simp only [Z0, Z1, Z2, Z3]
  rw [ct (by rw [leB_t (by omega), dt (by omega)]; rfl)]
  simp only [Z4, Z5, Z6, Z7, Z8]
  have hz : ∀ x, (List.replicate m.1.toNat (0 : Int)).getD x 0 = 0 := fun x => by
    rw [List.getD_eq_getElem?_getD, List.getElem?_replicate]
    split <;> rfl
  obtain ⟨d, ⟨h1, h2, h3⟩, h4⟩ := outer (ρ := Unit × List Int × Bool × Unit) hN hs (fun a b c d => Z39 N a b c d (fun t2 t3 => some ((), (t2, (t3, ()))))) N 0 (List.replicate m.1.toNat 0) (by omega) (by omega) (by simp) (fun j hj => by
    show 0 ≤ (List.replicate m.1.toNat (0 : Int)).getD j 0 ∧ (List.replicate m.1.toNat (0 : Int)).getD j 0 ≤ _ ∧ (0 < (List.replicate m.1.toNat (0 : Int)).getD j 0 → _)
    rw [hz]
    exact ⟨by omega, by omega, fun hc => by omega⟩) (fun x hx => by omega)
  rw [show ((0 : Nat) : Int) = 0 from rfl] at h4
  rw [h4]
  simp only [Z39, Z40, Z41, Z42, Z43]
  have hc := check2 (ρ := Unit × List Int × Bool × Unit) hN hs h1 h2 (fun d4 => Z54 N d4 (fun t2 t3 => some ((), (t2, (t3, ()))))) (fun t2 t3 => some ((), (t2, (t3, ())))) N 0 (by omega) (by omega)
  rw [show ((0 : Nat) : Int) = 0 from rfl] at hc
  rcases hc with ⟨hc, i', j', h5, h6, h7⟩ | ⟨hc, h5⟩
  · rw [hc, g, part_none hs h2 h3 h5 h6 h7]
    rfl
  · have h6 := part_fac h1 h2 h3 (fun i hi j hj => h5 i (by omega) hi j hj)
    rw [hc, g, h6]
    simp only [Z54]
    rw [df (fun e => by rw [e] at h1; simp at h1; omega)]
    rfl⟩
theorem fac_ex {m : Int × Int × List Int} (hs : sizesK m = true) (h : ∃ e, Good m.1.toNat (ent m) e) : facK m ≠ [] := by
  have hdim := shaped_dim (sizes_shaped hs)
  obtain ⟨n, r, hn, hr, hn1, hn5, hnr, hr8, hl⟩ := dim_nat hdim
  have hz : ∀ x, (List.replicate m.1.toNat (0 : Int)).getD x 0 = 0 := fun x => by
    rw [List.getD_eq_getElem?_getD, List.getElem?_replicate]
    split <;> rfl
  obtain ⟨d, ⟨h1, h2, h3⟩, h4⟩ := outer (ρ := Unit) (N := 10) (Nat.le_refl _) hs (fun _ _ _ _ => none) 10 0 (List.replicate m.1.toNat 0) (by omega) (by omega) (by simp) (fun j hj => by
    show 0 ≤ (List.replicate m.1.toNat (0 : Int)).getD j 0 ∧ (List.replicate m.1.toNat (0 : Int)).getD j 0 ≤ _ ∧ (0 < (List.replicate m.1.toNat (0 : Int)).getD j 0 → _)
    rw [hz]
    exact ⟨by omega, by omega, fun hc => by omega⟩) (fun x hx => by omega)
  obtain ⟨e, he⟩ := h
  rw [part_fac h1 h2 h3 (fun i hi j hj => part_edge hs h2 h3 he hi hj)]
  intro hc
  rw [hc] at h1
  simp at h1
  omega
end spec_l1Factors
end
end Go.Fw
namespace Go.Fw
noncomputable section
variable {ρ : Type}
namespace spec_MatrixOk
def g (m : Int × Int × List Int) : Bool := sizesK m && !decide (facK m = [])
end spec_MatrixOk
namespace spec_MatrixOk
def Z0 {ρ : Type} (N : Nat) (v0 : MT) (kr : Bool → Option ρ) : Option ρ :=
 cond (!(lk N ((spec_l1Sizes.g v0))))
 (
  kr false)
 (
  cond (lk N (spec_l1Factors.P v0)) (
   kr (lk N ((spec_l1Factors.g v0).2))) none)
def Spec : Prop := ∀  (v0 : MT), Ty.bd (.pair (.int .i64) (.pair (.int .i64) (.sl 0 (.int .i64)))) v0 → ∃ N0, ∀ N, N0 ≤ N → Z0 N v0 (fun v2 => some ((), (v2, ()))) = some ((), ((g v0), ()))
theorem ok : Spec := fun m hb => ⟨0, fun N hN => by
  simp only [Z0, lk_eq, g, spec_l1Sizes.g, spec_l1Factors.P, spec_l1Factors.g]
  cases sizesK m <;> rfl⟩
end spec_MatrixOk
end
end Go.Fw
namespace Go.Fw
noncomputable section
variable {ρ : Type}
namespace spec_FormatInts
noncomputable def g (l : List Int) : ByteArray := itoasB l
def P (l : List Int) : Bool := rowP l
end spec_FormatInts
namespace spec_FormatInts
def Z1 {ρ : Type} (N : Nat) (v0 : LI) (kn : LI → Option ρ) : Option ρ :=
 kn v0
def Z3 {ρ : Type} (N : Nat) (v0 : LI) (kn : LI → ByteArray → Option ρ) : Option ρ :=
 kn v0 ByteArray.empty
def Z6 {ρ : Type} (N : Nat) (v0 : LI) (v3 : ByteArray) (kn : LI → ByteArray → Int → Option ρ) : Option ρ :=
 kn v0 v3 0
def Z9 {ρ : Type} (N : Nat) (v0 : LI) (v3 : ByteArray) (v4 : Int) (kn : LI → ByteArray → Int → Option ρ) (k0 : ByteArray → Option ρ) : Option ρ :=
 cond (lk N (decide (v4 < (v0.length : Int))))
 (
  cond (lk N (decide (0 < v4)))
  (
   cond (Nat.blt (v3.size + (⟨#[32]⟩ : ByteArray).size) 4611686018427387904) (
    cond (lk N (inB v4 v0.length)) (
     cond (lk N (spec_FormatInt.P (v0.getD v4.toNat 0))) (
      cond (Nat.blt ((v3 ++ (⟨#[32]⟩ : ByteArray)).size + (spec_FormatInt.g (v0.getD v4.toNat 0)).size) 4611686018427387904) (
       kn v0 ((v3 ++ (⟨#[32]⟩ : ByteArray)) ++ (spec_FormatInt.g (v0.getD v4.toNat 0))) (w64 (v4 + 1))) none) none) none) none)
  (
   cond (lk N (inB v4 v0.length)) (
    cond (lk N (spec_FormatInt.P (v0.getD v4.toNat 0))) (
     cond (Nat.blt (v3.size + (spec_FormatInt.g (v0.getD v4.toNat 0)).size) 4611686018427387904) (
      kn v0 (v3 ++ (spec_FormatInt.g (v0.getD v4.toNat 0))) (w64 (v4 + 1))) none) none) none))
 (
  k0 v3)
def Z8L {ρ : Type} (N : Nat) (k0 : ByteArray → Option ρ) : Nat → LI → ByteArray → Int → Option ρ
  | 0, _, _, _ => none
  | M + 1, v0, v3, v4 => Z9 N v0 v3 v4 (fun v0 v3 v4 => Z8L N k0 M v0 v3 v4) k0
def Z8 N v0 v3 v4 k0 := (Z8L N k0 N v0 v3 v4 : Option ρ)
def Z7 N v0 v3 v4 kn := (Z8 N v0 v3 v4 kn : Option ρ)
def Z5 N v0 v3 kn := (Z6 N v0 v3 (fun v0 v3 v4 => Z7 N v0 v3 v4 kn) : Option ρ)
def Z10 {ρ : Type} (N : Nat) (v3 : ByteArray) (kr : ByteArray → Option ρ) : Option ρ :=
 kr v3
def Z4 N v0 v3 kr := (Z5 N v0 v3 (fun v3 => Z10 N v3 kr) : Option ρ)
def Z2 N v0 kr := (Z3 N v0 (fun v0 v3 => Z4 N v0 v3 kr) : Option ρ)
def Z0 N v0 kr := (Z1 N v0 (fun v0 => Z2 N v0 kr) : Option ρ)
def Spec : Prop := ∀  (v0 : LI), Ty.bd (.sl 0 (.int .i64)) v0 → P v0 = true → ∃ N0, ∀ N, N0 ≤ N → Z0 N v0 (fun v2 => some ((), (v2, ()))) = some ((), ((g v0), ()))
theorem loop {ρ : Type} {N : Nat} (k0 : ByteArray → Option ρ) {l : List Int} (hp : rowP l = true) : ∀ (M j : Nat), j ≤ l.length → l.length - j < M → Z8L N k0 M l (itoasB (l.take j)) (j : Int) = k0 (itoasB l) := by
  simp only [rowP, Bool.and_eq_true, decide_eq_true_eq] at hp
  intro M
  induction M with
  | zero => intro j _ h; omega
  | succ M ih =>
    intro j hj hM
    simp only [Z8L, Z9]
    by_cases h : j < l.length
    · have hi : i64P (l.getD j 0) = true := List.all_eq_true.1 hp.2 _ (getD_mem 0 h)
      have h1 : spec_FormatInt.P (l.getD j 0) = true := hi
      have h2 : spec_FormatInt.g (l.getD j 0) = itoaB (l.getD j 0) := rfl
      have hsz := itoaB_size hi
      have hall : (l.take j).all i64P = true := List.all_eq_true.2 fun x hx => List.all_eq_true.1 hp.2 x (List.mem_of_mem_take hx)
      have hlen := itoas_len hall
      have hs : (itoasB (l.take j)).size ≤ 22 * j := by
        have e : (itoasB (l.take j)).size = (itoasL (l.take j)).length := by simp [itoasB, ByteArray.size]
        rw [List.length_take] at hlen
        omega
      have e1 : (⟨#[32]⟩ : ByteArray).size = 1 := rfl
      have e3 : itoasB (l.take j) ++ (⟨#[32]⟩ : ByteArray) = ⟨(itoasL (l.take j) ++ [32]).toArray⟩ := ba_app _ [32]
      rw [ct (dt (by omega)), w64_succ (by rw [maxLen_val]; omega), Int.toNat_natCast]
      by_cases h0 : j = 0
      · subst h0
        rw [cf (df (by omega)), ct (inB_nat h), ct h1, h2, ct' (show Nat.blt ((itoasB (l.take 0)).size + (itoaB (l.getD 0 0)).size) 4611686018427387904 = true from Nat.ble_eq_true_of_le (by omega))]
        have e : itoasB (l.take 0) ++ itoaB (l.getD 0 0) = itoasB (l.take (0 + 1)) := by
          rw [← take_getD 0 h, List.take_zero, List.nil_append]
          show (⟨([] : List UInt8).toArray⟩ : ByteArray) ++ ⟨(Lib.itoa (l.getD 0 0)).toArray⟩ = ⟨(itoasL [l.getD 0 0]).toArray⟩
          rw [ba_app, itoas_one, List.nil_append]
        rw [e]
        exact ih 1 h (by omega)
      · have hne : l.take j ≠ [] := fun e => by
          have := congrArg List.length e
          rw [List.length_take, List.length_nil] at this
          omega
        have hs2 : (itoasB (l.take j) ++ (⟨#[32]⟩ : ByteArray)).size ≤ 22 * j + 1 := by
          rw [ByteArray.size_append, e1]
          omega
        rw [ct (dt (by omega)), ct' (show Nat.blt ((itoasB (l.take j)).size + (⟨#[32]⟩ : ByteArray).size) 4611686018427387904 = true from Nat.ble_eq_true_of_le (by omega)), ct (inB_nat h), ct h1, h2,
          ct' (show Nat.blt ((itoasB (l.take j) ++ (⟨#[32]⟩ : ByteArray)).size + (itoaB (l.getD j 0)).size) 4611686018427387904 = true from Nat.ble_eq_true_of_le (by omega))]
        have e : itoasB (l.take j) ++ (⟨#[32]⟩ : ByteArray) ++ itoaB (l.getD j 0) = itoasB (l.take (j + 1)) := by
          rw [e3, ← take_getD 0 h]
          show _ ++ (⟨(Lib.itoa (l.getD j 0)).toArray⟩ : ByteArray) = ⟨(itoasL (l.take j ++ [l.getD j 0])).toArray⟩
          rw [ba_app, itoas_snoc hne]
        rw [e]
        exact ih (j + 1) h (by omega)
    · rw [cf (df (by omega)), List.take_of_length_le (by omega)]
theorem ok : Spec := fun l hb hp => ⟨l.length + 1, fun N hN => by
  simp only [Z1, Z3, Z6, Z9, Z8, Z7, Z5, Z10, Z4, Z2, Z0]
  exact loop (fun s3 => some ((), (s3, ()))) hp N 0 (Nat.zero_le _) (by omega)⟩
end spec_FormatInts
end
end Go.Fw
namespace Go.Fw
noncomputable section
variable {ρ : Type}
namespace spec_FormatMatrix
noncomputable def g (m : Int × Int × List Int) : ByteArray := if (sizesK m && !decide (facK m = [])) = true then fmtM m else ByteArray.empty
end spec_FormatMatrix
namespace spec_FormatMatrix
def Z1 {ρ : Type} (N : Nat) (v0 : MT) (kn : I2 (LI → Option ρ)) : Option ρ :=
 kn v0.1 v0.2.1 v0.2.2
def Z3 {ρ : Type} (N : Nat) (v1_0 v1_1 : Int) (v1_2 : LI) (kn : I2 (LI → Option ρ)) (kr : ByteArray → Option ρ) : Option ρ :=
 cond (!(lk N ((spec_MatrixOk.g (v1_0, (v1_1, v1_2))))))
 (
  kr ByteArray.empty)
 (
  kn v1_0 v1_1 v1_2)
def Z5 {ρ : Type} (N : Nat) (v1_0 v1_1 : Int) (v1_2 : LI) (kn : ByteArray → I2 (LI → Option ρ)) : Option ρ :=
 kn ByteArray.empty v1_0 v1_1 v1_2
def Z8 {ρ : Type} (N : Nat) (v3 : ByteArray) (v1_0 v1_1 : Int) (v1_2 : LI) (kn : ByteArray → I3 (LI → Option ρ)) : Option ρ :=
 kn v3 0 v1_0 v1_1 v1_2
def Z11 {ρ : Type} (N : Nat) (v3 : ByteArray) (v4 v1_0 v1_1 : Int) (v1_2 : LI) (kn : ByteArray → I3 (LI → Option ρ)) (k0 : ByteArray → Option ρ) : Option ρ :=
 cond (lk N (decide (v4 < v1_1)))
 (
  cond (lk N (decide (0 < v4)))
  (
   cond (Nat.blt (v3.size + (⟨#[59, 32]⟩ : ByteArray).size) 4611686018427387904) (
    cond (lk N (leB 0 (w64 (v4 * v1_0)) && (leB (w64 (v4 * v1_0)) (w64 ((w64 (v4 * v1_0)) + v1_0)) && leB (w64 ((w64 (v4 * v1_0)) + v1_0)) v1_2.length))) (
     cond (lk N (spec_FormatInts.P ((v1_2.drop (w64 (v4 * v1_0)).toNat).take ((w64 ((w64 (v4 * v1_0)) + v1_0)) - (w64 (v4 * v1_0))).toNat))) (
      cond (Nat.blt ((v3 ++ (⟨#[59, 32]⟩ : ByteArray)).size + (spec_FormatInts.g ((v1_2.drop (w64 (v4 * v1_0)).toNat).take ((w64 ((w64 (v4 * v1_0)) + v1_0)) - (w64 (v4 * v1_0))).toNat)).size) 4611686018427387904) (
       kn ((v3 ++ (⟨#[59, 32]⟩ : ByteArray)) ++ (spec_FormatInts.g ((v1_2.drop (w64 (v4 * v1_0)).toNat).take ((w64 ((w64 (v4 * v1_0)) + v1_0)) - (w64 (v4 * v1_0))).toNat))) (w64 (v4 + 1)) v1_0 v1_1 v1_2) none) none) none) none)
  (
   cond (lk N (leB 0 (w64 (v4 * v1_0)) && (leB (w64 (v4 * v1_0)) (w64 ((w64 (v4 * v1_0)) + v1_0)) && leB (w64 ((w64 (v4 * v1_0)) + v1_0)) v1_2.length))) (
    cond (lk N (spec_FormatInts.P ((v1_2.drop (w64 (v4 * v1_0)).toNat).take ((w64 ((w64 (v4 * v1_0)) + v1_0)) - (w64 (v4 * v1_0))).toNat))) (
     cond (Nat.blt (v3.size + (spec_FormatInts.g ((v1_2.drop (w64 (v4 * v1_0)).toNat).take ((w64 ((w64 (v4 * v1_0)) + v1_0)) - (w64 (v4 * v1_0))).toNat)).size) 4611686018427387904) (
      kn (v3 ++ (spec_FormatInts.g ((v1_2.drop (w64 (v4 * v1_0)).toNat).take ((w64 ((w64 (v4 * v1_0)) + v1_0)) - (w64 (v4 * v1_0))).toNat))) (w64 (v4 + 1)) v1_0 v1_1 v1_2) none) none) none))
 (
  k0 v3)
def Z10L {ρ : Type} (N : Nat) (k0 : ByteArray → Option ρ) : Nat → ByteArray → Int → Int → Int → LI → Option ρ
  | 0, _, _, _, _, _ => none
  | M + 1, v3, v4, v1_0, v1_1, v1_2 => Z11 N v3 v4 v1_0 v1_1 v1_2 (fun v3 v4 v1_0 v1_1 v1_2 => Z10L N k0 M v3 v4 v1_0 v1_1 v1_2) k0
def Z10 N v3 v4 v1_0 v1_1 v1_2 k0 := (Z10L N k0 N v3 v4 v1_0 v1_1 v1_2 : Option ρ)
def Z9 N v3 v4 v1_0 v1_1 v1_2 kn := (Z10 N v3 v4 v1_0 v1_1 v1_2 kn : Option ρ)
def Z7 N v3 v1_0 v1_1 v1_2 kn := (Z8 N v3 v1_0 v1_1 v1_2 (fun v3 v4 v1_0 v1_1 v1_2 => Z9 N v3 v4 v1_0 v1_1 v1_2 kn) : Option ρ)
def Z12 {ρ : Type} (N : Nat) (v3 : ByteArray) (kr : ByteArray → Option ρ) : Option ρ :=
 kr v3
def Z6 N v3 v1_0 v1_1 v1_2 kr := (Z7 N v3 v1_0 v1_1 v1_2 (fun v3 => Z12 N v3 kr) : Option ρ)
def Z4 N v1_0 v1_1 v1_2 kr := (Z5 N v1_0 v1_1 v1_2 (fun v3 v1_0 v1_1 v1_2 => Z6 N v3 v1_0 v1_1 v1_2 kr) : Option ρ)
def Z2 N v1_0 v1_1 v1_2 kr := (Z3 N v1_0 v1_1 v1_2 (fun v1_0 v1_1 v1_2 => Z4 N v1_0 v1_1 v1_2 kr) kr : Option ρ)
def Z0 N v0 kr := (Z1 N v0 (fun v1_0 v1_1 v1_2 => Z2 N v1_0 v1_1 v1_2 kr) : Option ρ)
def Spec : Prop := ∀  (v0 : MT), Ty.bd (.pair (.int .i64) (.pair (.int .i64) (.sl 0 (.int .i64)))) v0 → ∃ N0, ∀ N, N0 ≤ N → Z0 N v0 (fun v2 => some ((), (v2, ()))) = some ((), ((g v0), ()))
theorem loop {ρ : Type} {N : Nat} {m : Int × Int × List Int} (hs : shapedK m = true) (k0 : ByteArray → Option ρ) : ∀ (M j : Nat), j ≤ m.2.1.toNat → m.2.1.toNat - j < M →
    Z10L N k0 M (txt (Lib.join ((rowsT m).take j) [59, 32])) (j : Int) m.1 m.2.1 m.2.2 = k0 (fmtM m) := by
  have hs' := hs
  simp only [shapedK, Bool.and_eq_true] at hs'
  obtain ⟨n, r, hn, hr, hn1, hn5, hnr, hr8, hl⟩ := dim_nat hs'.1
  intro M
  induction M with
  | zero => intro j _ h; omega
  | succ M ih =>
    intro j hj hM
    simp only [Z10L, Z11]
    by_cases h : j < m.2.1.toNat
    · have hjn : j * n ≤ 8 * 5 := Nat.mul_le_mul (by omega) hn5
      have e1 : w64 ((j : Int) * m.1) = ((j * n : Nat) : Int) := by rw [hn, ← Int.natCast_mul]; exact w64_id (by omega) (by omega)
      have e2 : w64 (((j * n : Nat) : Int) + m.1) = ((j * n + n : Nat) : Int) := by rw [hn, w64_id (by omega) (by omega)]; omega
      have hlt : j * n + n ≤ m.2.2.length := by
        have := Nat.mul_le_mul_right n (show j + 1 ≤ r by omega)
        rw [Nat.add_mul, Nat.one_mul] at this
        rw [hl]
        exact this
      have hc : (leB 0 ((j * n : Nat) : Int) && (leB ((j * n : Nat) : Int) ((j * n + n : Nat) : Int) && leB ((j * n + n : Nat) : Int) m.2.2.length)) = true := by rw [leB_t (by omega), leB_t (by omega), leB_t (by omega)]; rfl
      have hrow : (m.2.2.drop (j * n)).take (((j * n + n : Nat) : Int) - ((j * n : Nat) : Int)).toNat = rowD m j := by
        unfold rowD
        rw [show m.1.toNat = n by omega, show (((j * n + n : Nat) : Int) - ((j * n : Nat) : Int)).toNat = n by omega]
      have hP : spec_FormatInts.P (rowD m j) = true := rowD_ok hs j
      have hg : spec_FormatInts.g (rowD m j) = txt (itoasL (rowD m j)) := rfl
      have hlen := rowD_len hs j
      have hpl := part_len hs j
      have hj8 : 112 * j ≤ 112 * 8 := Nat.mul_le_mul_left _ (by omega)
      have e3 : (⟨#[59, 32]⟩ : ByteArray) = txt [59, 32] := rfl
      rw [ct (dt (by omega)), e1, e2, Int.toNat_natCast, hrow, hg, e3]
      by_cases h0 : j = 0
      · subst h0
        have e4 : txt (Lib.join ((rowsT m).take 0) [59, 32]) ++ txt (itoasL (rowD m 0)) = txt (Lib.join ((rowsT m).take (0 + 1)) [59, 32]) := by
          rw [txt_app, ← take_getD [] (by rw [rowsT_len]; exact h), rowsT_get h, List.take_zero, List.nil_append, Lib.join_one, Lib.join_nil, List.nil_append]
        rw [cf (df (by omega)), ct hc, ct hP, ct' (show Nat.blt ((txt (Lib.join ((rowsT m).take 0) [59, 32])).size + (txt (itoasL (rowD m 0))).size) 4611686018427387904 = true from Nat.ble_eq_true_of_le (by rw [txt_size, txt_size]; omega)),
          e4, w64_succ (by rw [maxLen_val]; omega)]
        exact ih 1 h (by omega)
      · have hne : (rowsT m).take j ≠ [] := fun e => by
          have := congrArg List.length e
          rw [List.length_take, rowsT_len, List.length_nil] at this
          omega
        have e4 : txt (Lib.join ((rowsT m).take j) [59, 32]) ++ txt [59, 32] ++ txt (itoasL (rowD m j)) = txt (Lib.join ((rowsT m).take (j + 1)) [59, 32]) := by
          rw [txt_app, txt_app, ← take_getD [] (by rw [rowsT_len]; exact h), rowsT_get h, join_snoc hne]
        rw [ct (dt (by omega)), ct' (show Nat.blt ((txt (Lib.join ((rowsT m).take j) [59, 32])).size + (txt [59, 32]).size) 4611686018427387904 = true from Nat.ble_eq_true_of_le (by rw [txt_size, txt_size]; simp; omega)), ct hc, ct hP,
          ct' (show Nat.blt ((txt (Lib.join ((rowsT m).take j) [59, 32]) ++ txt [59, 32]).size + (txt (itoasL (rowD m j))).size) 4611686018427387904 = true from Nat.ble_eq_true_of_le (by rw [ByteArray.size_append, txt_size, txt_size, txt_size]; simp; omega)),
          e4, w64_succ (by rw [maxLen_val]; omega)]
        exact ih (j + 1) h (by omega)
    · rw [cf (df (by omega)), List.take_of_length_le (by rw [rowsT_len]; omega)]
      rfl
theorem ok : Spec := fun m hb => ⟨100, fun N hN => by
  have e0 : spec_MatrixOk.g (m.1, (m.2.1, m.2.2)) = (sizesK m && !decide (facK m = [])) := rfl
  simp only [Z0, Z1, Z2, Z3, e0, lk_eq, g]
  cases h1 : (sizesK m && !decide (facK m = []))
  · rfl
  have hs : shapedK m = true := by
    simp only [Bool.and_eq_true] at h1
    exact sizes_shaped h1.1
  obtain ⟨n, r, hn, hr, hn1, hn5, hnr, hr8, hl⟩ := dim_nat (shaped_dim hs)
  simp only [Bool.not_true, cond_false, Z4, Z5, Z6, Z7, Z8, Z9, Z10]
  exact loop hs (fun s3 => Z12 N s3 (fun t2 => some ((), (t2, ())))) N 0 (Nat.zero_le _) (by omega)⟩
end spec_FormatMatrix
end
end Go.Fw
namespace Go.Fw
noncomputable section
variable {ρ : Type}
namespace spec_ParseMatrix
def P (s : ByteArray) : Bool := decide (s.size ≤ 1048576)
noncomputable def g (s : ByteArray) : (Int × Int × List Int) × Bool := readS s
end spec_ParseMatrix
namespace spec_ParseMatrix
def Z1 {ρ : Type} (N : Nat) (v0 : ByteArray) (kn : ByteArray → I2 (Option ρ)) : Option ρ :=
 kn v0 0 0
def Z3 {ρ : Type} (N : Nat) (v0 : ByteArray) (v2_0 v2_1 : Int) (kn : List ByteArray → ByteArray → I2 (Option ρ)) : Option ρ :=
 cond (lk N (spec_l1Split.P v0 59)) (
  kn (spec_l1Split.g v0 59) v0 v2_0 v2_1) none
def Z5 {ρ : Type} (N : Nat) (v4 : List ByteArray) (v0 : ByteArray) (v2_0 v2_1 : Int) (kn : List ByteArray → LI → ByteArray → I4 (Option ρ)) : Option ρ :=
 kn v4 ([] : List Int) v0 v2_0 v2_1 0 (v4.length : Int)
def Z8 {ρ : Type} (N : Nat) (v4 : List ByteArray) (v5_2 : LI) (v0 : ByteArray) (v2_0 v2_1 v5_0 v5_1 : Int) (kn : List ByteArray → LI → ByteArray → I5 (Option ρ)) : Option ρ :=
 kn v4 v5_2 v0 0 v2_0 v2_1 v5_0 v5_1
def Z11 {ρ : Type} (N : Nat) (v4 : List ByteArray) (v5_2 : LI) (v0 : ByteArray) (v6 v2_0 v2_1 v5_0 v5_1 : Int) (kn : List ByteArray → LI → ByteArray → I5 (Option ρ)) (k0 : LI → ByteArray → I4 (Option ρ)) (kr : LI → Bool → I2 (Option ρ)) : Option ρ :=
 cond (lk N (decide (v6 < (v4.length : Int))))
 (
  cond (lk N (decide (v6 ≤ 8)))
  (
   cond (lk N (inB v6 v4.length)) (
    cond (lk N (decide (0 < v6)))
    (
     cond (lk N (decide (0 < ((v4.getD v6.toNat ByteArray.empty).size : Int))))
     (
      cond (lk N (leB 0 1 && leB 1 (v4.getD v6.toNat ByteArray.empty).size)) (
       cond (lk N (spec_ParseInts.P ((v4.getD v6.toNat ByteArray.empty).extract 1 (v4.getD v6.toNat ByteArray.empty).size))) (
        cond (!(lk N ((spec_ParseInts.g ((v4.getD v6.toNat ByteArray.empty).extract 1 (v4.getD v6.toNat ByteArray.empty).size)).2)))
        (
         kr ([] : List Int) false 0 0)
        (
         cond (lk N (Nat.blt (v5_2.length + (spec_ParseInts.g ((v4.getD v6.toNat ByteArray.empty).extract 1 (v4.getD v6.toNat ByteArray.empty).size)).1.length) 1099511627776)) (
          kn v4 (v5_2 ++ (spec_ParseInts.g ((v4.getD v6.toNat ByteArray.empty).extract 1 (v4.getD v6.toNat ByteArray.empty).size)).1) v0 (w64 (v6 + 1)) v2_0 v2_1 ((spec_ParseInts.g ((v4.getD v6.toNat ByteArray.empty).extract 1 (v4.getD v6.toNat ByteArray.empty).size)).1.length : Int) v5_1) none)) none) none)
     (
      cond (lk N (spec_ParseInts.P (v4.getD v6.toNat ByteArray.empty))) (
       cond (!(lk N ((spec_ParseInts.g (v4.getD v6.toNat ByteArray.empty)).2)))
       (
        kr ([] : List Int) false 0 0)
       (
        cond (lk N (Nat.blt (v5_2.length + (spec_ParseInts.g (v4.getD v6.toNat ByteArray.empty)).1.length) 1099511627776)) (
         kn v4 (v5_2 ++ (spec_ParseInts.g (v4.getD v6.toNat ByteArray.empty)).1) v0 (w64 (v6 + 1)) v2_0 v2_1 ((spec_ParseInts.g (v4.getD v6.toNat ByteArray.empty)).1.length : Int) v5_1) none)) none))
    (
     cond (lk N (spec_ParseInts.P (v4.getD v6.toNat ByteArray.empty))) (
      cond (!(lk N ((spec_ParseInts.g (v4.getD v6.toNat ByteArray.empty)).2)))
      (
       kr ([] : List Int) false 0 0)
      (
       cond (lk N (Nat.blt (v5_2.length + (spec_ParseInts.g (v4.getD v6.toNat ByteArray.empty)).1.length) 1099511627776)) (
        kn v4 (v5_2 ++ (spec_ParseInts.g (v4.getD v6.toNat ByteArray.empty)).1) v0 (w64 (v6 + 1)) v2_0 v2_1 ((spec_ParseInts.g (v4.getD v6.toNat ByteArray.empty)).1.length : Int) v5_1) none)) none)) none)
  (
   k0 v5_2 v0 v2_0 v2_1 v5_0 v5_1))
 (
  k0 v5_2 v0 v2_0 v2_1 v5_0 v5_1)
def Z10L {ρ : Type} (N : Nat) (k0 : LI → ByteArray → I4 (Option ρ)) (kr : LI → Bool → I2 (Option ρ)) : Nat → List ByteArray → LI → ByteArray → Int → Int → Int → Int → Int → Option ρ
  | 0, _, _, _, _, _, _, _, _ => none
  | M + 1, v4, v5_2, v0, v6, v2_0, v2_1, v5_0, v5_1 => Z11 N v4 v5_2 v0 v6 v2_0 v2_1 v5_0 v5_1 (fun v4 v5_2 v0 v6 v2_0 v2_1 v5_0 v5_1 => Z10L N k0 kr M v4 v5_2 v0 v6 v2_0 v2_1 v5_0 v5_1) k0 kr
def Z10 N v4 v5_2 v0 v6 v2_0 v2_1 v5_0 v5_1 k0 kr := (Z10L N k0 kr N v4 v5_2 v0 v6 v2_0 v2_1 v5_0 v5_1 : Option ρ)
def Z9 N v4 v5_2 v0 v6 v2_0 v2_1 v5_0 v5_1 kn kr := (Z10 N v4 v5_2 v0 v6 v2_0 v2_1 v5_0 v5_1 kn kr : Option ρ)
def Z7 N v4 v5_2 v0 v2_0 v2_1 v5_0 v5_1 kn kr := (Z8 N v4 v5_2 v0 v2_0 v2_1 v5_0 v5_1 (fun v4 v5_2 v0 v6 v2_0 v2_1 v5_0 v5_1 => Z9 N v4 v5_2 v0 v6 v2_0 v2_1 v5_0 v5_1 kn kr) : Option ρ)
def Z12 {ρ : Type} (N : Nat) (v5_2 : LI) (v0 : ByteArray) (v2_0 v2_1 v5_0 v5_1 : Int) (kr : LI → Bool → I2 (Option ρ)) : Option ρ :=
 cond (lk N (!(strEq (spec_FormatMatrix.g (v5_0, (v5_1, v5_2))) v0)))
 (
  kr ([] : List Int) false 0 0)
 (
  cond (lk N (strEq v0 ByteArray.empty))
  (
   kr ([] : List Int) false 0 0)
  (
   kr v5_2 true v5_0 v5_1))
def Z6 N v4 v5_2 v0 v2_0 v2_1 v5_0 v5_1 kr := (Z7 N v4 v5_2 v0 v2_0 v2_1 v5_0 v5_1 (fun v5_2 v0 v2_0 v2_1 v5_0 v5_1 => Z12 N v5_2 v0 v2_0 v2_1 v5_0 v5_1 kr) kr : Option ρ)
def Z4 N v4 v0 v2_0 v2_1 kr := (Z5 N v4 v0 v2_0 v2_1 (fun v4 v5_2 v0 v2_0 v2_1 v5_0 v5_1 => Z6 N v4 v5_2 v0 v2_0 v2_1 v5_0 v5_1 kr) : Option ρ)
def Z2 N v0 v2_0 v2_1 kr := (Z3 N v0 v2_0 v2_1 (fun v4 v0 v2_0 v2_1 => Z4 N v4 v0 v2_0 v2_1 kr) : Option ρ)
def Z0 N v0 kr := (Z1 N v0 (fun v0 v2_0 v2_1 => Z2 N v0 v2_0 v2_1 kr) : Option ρ)
def Spec : Prop := ∀  (v0 : ByteArray), P v0 = true → ∃ N0, ∀ N, N0 ≤ N → Z0 N v0 (fun v2_2 v3 v2_0 v2_1 => some ((), ((v2_0, (v2_1, v2_2)), (v3, ())))) = some ((), ((g v0).1, ((g v0).2, ())))
theorem loop {ρ : Type} {N : Nat} (k0 : List Int → ByteArray → Int → Int → Int → Int → Option ρ) (kr : List Int → Bool → Int → Int → Option ρ) (s : ByteArray) (t0 t1 R : Int) {ps : List ByteArray} (hps : ps.length ≤ 2000000) (hsz : ∀ w ∈ ps, w.size ≤ 1048576) : ∀ (M i : Nat) (out : List Int) (c : Int), i ≤ (ps.take 9).length → out.length ≤ i * 1048577 → (ps.take 9).length - i < M →
    Z10L N k0 kr M ps out s (i : Int) t0 t1 c R = match goS ((ps.take 9).drop i) i out c with | some q => k0 q.1 s t0 t1 q.2 R | none => kr [] false 0 0 := by
  intro M
  induction M with
  | zero => intro i out c _ _ h; omega
  | succ M ih =>
    intro i out c hi ho hM
    have hL : (ps.take 9).length = min 9 ps.length := List.length_take
    simp only [Z10L, Z11]
    by_cases h : i < (ps.take 9).length
    · have hlt : i < ps.length := by omega
      have hmem := hsz _ (getD_mem (l := ps) ByteArray.empty hlt)
      have hge : (ps.take 9).getD i ByteArray.empty = ps.getD i ByteArray.empty := by
        rw [List.getD_eq_getElem?_getD, List.getD_eq_getElem?_getD, List.getElem?_take, if_pos (by omega)]
      rw [ct (dt (by omega)), ct (dt (by omega)), ct (inB_nat hlt), Int.toNat_natCast, drop_getD (l := ps.take 9) ByteArray.empty h, hge]
      generalize hp : ps.getD i ByteArray.empty = p at hmem
      have step : ∀ w : ByteArray, w.size ≤ 1048576 → w = cutP i p →
          (cond (lk N (spec_ParseInts.P w)) (cond (!(lk N ((spec_ParseInts.g w).2))) (kr ([] : List Int) false 0 0) (cond (lk N (Nat.blt (out.length + (spec_ParseInts.g w).1.length) 1099511627776)) (Z10L N k0 kr M ps (out ++ (spec_ParseInts.g w).1) s (w64 ((i : Int) + 1)) t0 t1 ((spec_ParseInts.g w).1.length : Int) R) none)) none) =
            match goS (p :: (ps.take 9).drop (i + 1)) i out c with | some q => k0 q.1 s t0 t1 q.2 R | none => kr [] false 0 0 := fun w hw e => by
        have hg : spec_ParseInts.g w = parseS w := rfl
        have hlen := parseS_len hw
        have h9 : i * 1048577 ≤ 8 * 1048577 := Nat.mul_le_mul_right _ (by omega)
        rw [ct (show spec_ParseInts.P w = true from dt hw), hg, lk_eq, goS, ← e]
        cases hok : (parseS w).2
        · rfl
        · rw [if_pos rfl, cf' (show (!true) = false from rfl), ct (show Nat.blt (out.length + (parseS w).1.length) 1099511627776 = true from Nat.ble_eq_true_of_le (by omega)), w64_succ (by rw [maxLen_val]; omega)]
          exact ih (i + 1) _ _ h (by rw [List.length_append, Nat.add_mul, Nat.one_mul]; omega) (by omega)
      by_cases h0 : 0 < i
      · rw [ct (dt (by omega))]
        by_cases h1 : 0 < p.size
        · rw [ct (dt (by omega)), ct (show (leB 0 1 && leB 1 p.size) = true by rw [leB_t (by omega), leB_t (by omega)]; rfl)]
          refine step _ ?_ ?_
          · rw [Lib.size_eq, Lib.extract_data]
            have := Lib.size_eq p
            simp
            omega
          · unfold cutP
            rw [if_pos (dt h0), if_pos (dt (by omega))]
        · rw [cf (df (by omega))]
          refine step _ hmem ?_
          unfold cutP
          rw [if_pos (dt h0), if_neg (by rw [decide_eq_true_eq]; omega)]
      · rw [cf (df (by omega))]
        refine step _ hmem ?_
        unfold cutP
        rw [if_neg (by rw [decide_eq_true_eq]; omega)]
    · rw [List.drop_of_length_le (by omega), goS]
      by_cases hlt : i < ps.length
      · rw [ct (dt (by omega)), cf (df (by omega))]
      · rw [cf (df (by omega))]
theorem ok : Spec := fun s hp => ⟨s.size + 100, fun N hN => by
  have hs : s.size ≤ 1048576 := of_decide_eq_true hp
  have h1 : spec_l1Split.P s 59 = true := hp
  have h2 : spec_l1Split.g s 59 = partsS s := rfl
  have hd := Lib.size_eq s
  have hsz : ∀ w ∈ partsS s, w.size ≤ 1048576 := fun w hw => by
    obtain ⟨x, hx, rfl⟩ := List.mem_map.1 hw
    have := parts_size _ _ x hx
    rw [Lib.size_eq]
    simp [baOf]
    omega
  have hl : (partsS s).length ≤ 2000000 := by
    have := parts_len (fun b => decide ((b.toNat : Int) = 59)) s.data.toList
    unfold partsS
    rw [List.length_map]
    omega
  have hL : ((partsS s).take 9).length ≤ 9 := by rw [List.length_take]; omega
  simp only [Z0, Z1, Z2, Z3]
  rw [ct h1, h2]
  simp only [Z4, Z5, Z6, Z7, Z8, Z9, Z10]
  refine (loop _ _ s 0 0 _ hl hsz N 0 [] 0 (Nat.zero_le _) (by simp) (by omega)).trans ?_
  rw [List.drop_zero]
  simp only [g, readS]
  cases hq : goS ((partsS s).take 9) 0 [] 0 with
  | none => rfl
  | some q =>
    have e : spec_FormatMatrix.g (q.2, (((partsS s).length : Int), q.1)) = if (sizesK (q.2, (((partsS s).length : Int), q.1)) && !decide (facK (q.2, (((partsS s).length : Int), q.1)) = [])) = true then fmtM (q.2, (((partsS s).length : Int), q.1)) else ByteArray.empty := rfl
    simp only [Z12, lk_eq, endPS, e]
    cases strEq (if (sizesK (q.2, (((partsS s).length : Int), q.1)) && !decide (facK (q.2, (((partsS s).length : Int), q.1)) = [])) = true then fmtM (q.2, (((partsS s).length : Int), q.1)) else ByteArray.empty) s
    · rfl
    · cases strEq s ByteArray.empty <;> rfl⟩
end spec_ParseMatrix
end
end Go.Fw
namespace Go.Fw
noncomputable section
variable {ρ : Type}
namespace strings_Split
noncomputable def g (s sep : ByteArray) : List ByteArray := Lib.splitB sep 0 (Lib.countB s sep) s
def P (s sep : ByteArray) : Bool := Nat.blt s.size 4294967281 && Nat.ble 1 sep.size
end strings_Split
namespace strings_Split
theorem ok : True := trivial
end strings_Split
end
end Go.Fw
namespace Go.Fw
noncomputable section
variable {ρ : Type}
namespace strconv_Atoi
def g (s : ByteArray) : Int × Bool := atoiW s
def P (s : ByteArray) : Bool := decide (s.size ≤ 1048576)
end strconv_Atoi
namespace strconv_Atoi
theorem ok : True := trivial
end strconv_Atoi
end
end Go.Fw
namespace Go.Fw
noncomputable section
variable {ρ : Type}
namespace impl_within
def g (n low high : Int) : Bool := inK n low high
end impl_within
namespace impl_within
def Z0 {ρ : Type} (N : Nat) (v0 v1 v2 : Int) (kr : Bool → Option ρ) : Option ρ :=
 cond (lk N (decide (v1 ≤ v0)))
 (
  kr (lk N (decide (v0 ≤ v2))))
 (
  kr false)
def Spec : Prop := ∀  (v0 v1 v2 : Int), ∃ N0, ∀ N, N0 ≤ N → Z0 N v0 v1 v2 (fun v6 => some ((), (v6, ()))) = some ((), ((g v0 v1 v2), ()))
theorem ok : Spec := fun n low high => ⟨0, fun N hN => by
  simp only [Z0, lk_eq, g, inK]
  cases decide (low ≤ n) <;> rfl⟩
end impl_within
end
end Go.Fw
namespace Go.Fw
noncomputable section
variable {ρ : Type}
namespace strconv_Itoa
noncomputable def g (n : Int) : ByteArray := itoaB n
def P (n : Int) : Bool := i64P n
end strconv_Itoa
namespace strconv_Itoa
theorem ok : True := trivial
end strconv_Itoa
end
end Go.Fw
namespace Go.Fw
noncomputable section
variable {ρ : Type}
namespace impl_FormatInt
noncomputable def g (n : Int) : ByteArray := itoaB n
def P (n : Int) : Bool := i64P n
end impl_FormatInt
namespace impl_FormatInt
def Z0 {ρ : Type} (N : Nat) (v0 : Int) (kr : ByteArray → Option ρ) : Option ρ :=
 cond (lk N (strconv_Itoa.P v0)) (
  kr (strconv_Itoa.g v0)) none
def Spec : Prop := ∀  (v0 : Int), P v0 = true → ∃ N0, ∀ N, N0 ≤ N → Z0 N v0 (fun v2 => some ((), (v2, ()))) = some ((), ((g v0), ()))
theorem ok : Spec := fun n hp => ⟨0, fun N hN => by
  simp only [Z0]
  rw [ct (show strconv_Itoa.P n = true from hp)]
  rfl⟩
end impl_FormatInt
end
end Go.Fw
namespace Go.Fw
noncomputable section
variable {ρ : Type}
namespace strings_Join
noncomputable def g (xs : List ByteArray) (sep : ByteArray) : ByteArray := ⟨(Lib.join (xs.map (·.data.toList)) sep.data.toList).toArray⟩
noncomputable def P (xs : List ByteArray) (sep : ByteArray) : Bool := Nat.ble xs.length 140737488355328 && Nat.ble (Lib.join (xs.map (·.data.toList)) sep.data.toList).length 140737488355328
end strings_Join
namespace strings_Join
theorem ok : True := trivial
end strings_Join
end
end Go.Fw
namespace Go.Fw
noncomputable section
variable {ρ : Type}
namespace impl_FormatInts
noncomputable def g (l : List Int) : ByteArray := itoasB l
def P (l : List Int) : Bool := rowP l
end impl_FormatInts
namespace impl_FormatInts
def Z1 {ρ : Type} (N : Nat) (v0 : LI) (kn : LI → Option ρ) : Option ρ :=
 kn v0
def Z3 {ρ : Type} (N : Nat) (v0 : LI) (kn : LI → Option ρ) : Option ρ :=
 kn v0
def Z6 {ρ : Type} (N : Nat) (v0 : LI) (kn : LI → I2 (Option ρ)) : Option ρ :=
 kn v0 (v0.length : Int) 0
def Z9 {ρ : Type} (N : Nat) (v3 : List ByteArray) (v6 : LI) (v7 v8 : Int) (kn : List ByteArray → LI → I2 (Option ρ)) (k0 : List ByteArray → Option ρ) : Option ρ :=
 cond (lk N (decide (v8 < v7)))
 (
  cond (lk N (inB v8 v6.length)) (
   cond (lk N (impl_FormatInt.P (v6.getD v8.toNat 0))) (
    cond (lk N (Nat.blt (v3.length + ([(impl_FormatInt.g (v6.getD v8.toNat 0))] : List ByteArray).length) 1099511627776)) (
     kn (v3 ++ ([(impl_FormatInt.g (v6.getD v8.toNat 0))] : List ByteArray)) v6 v7 (w64 (v8 + 1))) none) none) none)
 (
  k0 v3)
def Z8L {ρ : Type} (N : Nat) (k0 : List ByteArray → Option ρ) : Nat → List ByteArray → LI → Int → Int → Option ρ
  | 0, _, _, _, _ => none
  | M + 1, v3, v6, v7, v8 => Z9 N v3 v6 v7 v8 (fun v3 v6 v7 v8 => Z8L N k0 M v3 v6 v7 v8) k0
def Z8 N v6 v7 v8 k0 := (Z8L N k0 N ([] : List ByteArray) v6 v7 v8 : Option ρ)
def Z7 N v6 v7 v8 kn := (Z8 N v6 v7 v8 kn : Option ρ)
def Z5 N v0 kn := (Z6 N v0 (fun v6 v7 v8 => Z7 N v6 v7 v8 kn) : Option ρ)
def Z10 {ρ : Type} (N : Nat) (v3 : List ByteArray) (kr : ByteArray → Option ρ) : Option ρ :=
 cond (lk N (strings_Join.P v3 (⟨#[32]⟩ : ByteArray))) (
  kr (strings_Join.g v3 (⟨#[32]⟩ : ByteArray))) none
def Z4 N v0 kr := (Z5 N v0 (fun v3 => Z10 N v3 kr) : Option ρ)
def Z2 N v0 kr := (Z3 N v0 (fun v0 => Z4 N v0 kr) : Option ρ)
def Z0 N v0 kr := (Z1 N v0 (fun v0 => Z2 N v0 kr) : Option ρ)
def Spec : Prop := ∀  (v0 : LI), Ty.bd (.sl 0 (.int .i64)) v0 → P v0 = true → ∃ N0, ∀ N, N0 ≤ N → Z0 N v0 (fun v2 => some ((), (v2, ()))) = some ((), ((g v0), ()))
theorem loop {ρ : Type} {N : Nat} (k0 : List ByteArray → Option ρ) {l : List Int} (hp : rowP l = true) : ∀ (M j : Nat), j ≤ l.length → l.length - j < M → Z8L N k0 M ((l.take j).map itoaB) l (l.length : Int) (j : Int) = k0 (l.map itoaB) := by
  simp only [rowP, Bool.and_eq_true, decide_eq_true_eq] at hp
  intro M
  induction M with
  | zero => intro j _ h; omega
  | succ M ih =>
    intro j hj hM
    simp only [Z8L, Z9]
    by_cases h : j < l.length
    · have h1 : impl_FormatInt.P (l.getD j 0) = true := List.all_eq_true.1 hp.2 _ (getD_mem 0 h)
      have h2 : impl_FormatInt.g (l.getD j 0) = itoaB (l.getD j 0) := rfl
      have h3 : ∀ x : ByteArray, Nat.blt (((l.take j).map itoaB).length + ([x] : List ByteArray).length) 1099511627776 = true := fun x => Nat.ble_eq_true_of_le (by simp; omega)
      rw [ct (dt (by omega)), ct (inB_nat h), Int.toNat_natCast, ct h1, h2, ct (h3 _), w64_succ (by rw [maxLen_val]; omega)]
      have e : (l.take j).map itoaB ++ [itoaB (l.getD j 0)] = (l.take (j + 1)).map itoaB := by rw [← take_getD 0 h, List.map_append]; rfl
      rw [e]
      exact ih (j + 1) h (by omega)
    · rw [cf (df (by omega)), List.take_of_length_le (by omega)]
theorem ok : Spec := fun l hb hp => ⟨l.length + 1, fun N hN => by
  have hp' := hp
  simp only [P, rowP, Bool.and_eq_true, decide_eq_true_eq] at hp'
  simp only [Z1, Z3, Z6, Z9, Z8, Z7, Z5, Z10, Z4, Z2, Z0]
  refine (loop _ hp N 0 (Nat.zero_le _) (by omega)).trans ?_
  have e : ((l.map itoaB).map (·.data.toList)) = l.map Lib.itoa := by
    rw [List.map_map]
    exact List.map_congr_left fun n _ => itoaB_data n
  have hlen := itoas_len hp'.2
  have e2 : (⟨#[32]⟩ : ByteArray).data.toList = [32] := rfl
  have hP : strings_Join.P (l.map itoaB) ⟨#[32]⟩ = true := by
    simp only [strings_Join.P, e, e2, Bool.and_eq_true, List.length_map]
    exact ⟨Nat.ble_eq_true_of_le (by omega), Nat.ble_eq_true_of_le (show (itoasL l).length ≤ _ by omega)⟩
  have hg : strings_Join.g (l.map itoaB) ⟨#[32]⟩ = itoasB l := by
    simp only [strings_Join.g, e, e2]
    rfl
  rw [ct hP, hg]
  rfl⟩
end impl_FormatInts
end
end Go.Fw
namespace Go.Fw
noncomputable section
variable {ρ : Type}
namespace impl_ParseInts
def P (s : ByteArray) : Bool := decide (s.size ≤ 1048576)
noncomputable def g (s : ByteArray) : List Int × Bool := parseI s
end impl_ParseInts
namespace impl_ParseInts
def Z1 {ρ : Type} (N : Nat) (v0 : ByteArray) (kn : ByteArray → Option ρ) : Option ρ :=
 kn v0
def Z3 {ρ : Type} (N : Nat) (v0 : ByteArray) (kn : ByteArray → Option ρ) (kr : LI → Bool → Option ρ) : Option ρ :=
 cond (lk N (strEq v0 ByteArray.empty))
 (
  kr ([] : List Int) true)
 (
  kn v0)
def Z5 {ρ : Type} (N : Nat) (v0 : ByteArray) (kn : ByteArray → Option ρ) : Option ρ :=
 kn v0
def Z8 {ρ : Type} (N : Nat) (v0 : ByteArray) (kn : List ByteArray → ByteArray → I2 (Option ρ)) : Option ρ :=
 cond (lk N (strings_Split.P v0 (⟨#[32]⟩ : ByteArray))) (
  kn (strings_Split.g v0 (⟨#[32]⟩ : ByteArray)) v0 ((strings_Split.g v0 (⟨#[32]⟩ : ByteArray)).length : Int) 0) none
def Z11 {ρ : Type} (N : Nat) (v4 : LI) (v12 : List ByteArray) (v0 : ByteArray) (v13 v14 : Int) (kn : LI → List ByteArray → ByteArray → I2 (Option ρ)) (k0 : LI → ByteArray → Option ρ) (kr : LI → Bool → Option ρ) : Option ρ :=
 cond (lk N (decide (v14 < v13)))
 (
  cond (lk N (inB v14 v12.length)) (
   cond (lk N (strconv_Atoi.P (v12.getD v14.toNat ByteArray.empty))) (
    cond (lk N ((strconv_Atoi.g (v12.getD v14.toNat ByteArray.empty)).2))
    (
     kr ([] : List Int) false)
    (
     cond (lk N (decide (10 < ((v12.getD v14.toNat ByteArray.empty).size : Int))))
     (
      kr ([] : List Int) false)
     (
      cond (!(lk N ((impl_within.g (strconv_Atoi.g (v12.getD v14.toNat ByteArray.empty)).1 (-999999999) 999999999))))
      (
       kr ([] : List Int) false)
      (
       cond (lk N (Nat.blt (v4.length + ([(strconv_Atoi.g (v12.getD v14.toNat ByteArray.empty)).1] : List Int).length) 1099511627776)) (
        kn (v4 ++ ([(strconv_Atoi.g (v12.getD v14.toNat ByteArray.empty)).1] : List Int)) v12 v0 v13 (w64 (v14 + 1))) none)))) none) none)
 (
  k0 v4 v0)
def Z10L {ρ : Type} (N : Nat) (k0 : LI → ByteArray → Option ρ) (kr : LI → Bool → Option ρ) : Nat → LI → List ByteArray → ByteArray → Int → Int → Option ρ
  | 0, _, _, _, _, _ => none
  | M + 1, v4, v12, v0, v13, v14 => Z11 N v4 v12 v0 v13 v14 (fun v4 v12 v0 v13 v14 => Z10L N k0 kr M v4 v12 v0 v13 v14) k0 kr
def Z10 N v12 v0 v13 v14 k0 kr := (Z10L N k0 kr N ([] : List Int) v12 v0 v13 v14 : Option ρ)
def Z9 N v12 v0 v13 v14 kn kr := (Z10 N v12 v0 v13 v14 kn kr : Option ρ)
def Z7 N v0 kn kr := (Z8 N v0 (fun v12 v0 v13 v14 => Z9 N v12 v0 v13 v14 kn kr) : Option ρ)
def Z12 {ρ : Type} (N : Nat) (v4 : LI) (v0 : ByteArray) (kr : LI → Bool → Option ρ) : Option ρ :=
 cond (lk N (impl_FormatInts.P v4)) (
  cond (lk N (!(strEq (impl_FormatInts.g v4) v0)))
  (
   kr ([] : List Int) false)
  (
   kr v4 true)) none
def Z6 N v0 kr := (Z7 N v0 (fun v4 v0 => Z12 N v4 v0 kr) kr : Option ρ)
def Z4 N v0 kr := (Z5 N v0 (fun v0 => Z6 N v0 kr) : Option ρ)
def Z2 N v0 kr := (Z3 N v0 (fun v0 => Z4 N v0 kr) kr : Option ρ)
def Z0 N v0 kr := (Z1 N v0 (fun v0 => Z2 N v0 kr) : Option ρ)
def Spec : Prop := ∀  (v0 : ByteArray), P v0 = true → ∃ N0, ∀ N, N0 ≤ N → Z0 N v0 (fun v2 v3 => some ((), (v2, (v3, ())))) = some ((), ((g v0).1, ((g v0).2, ())))
theorem loop {ρ : Type} {N : Nat} (k0 : List Int → ByteArray → Option ρ) (kr : List Int → Bool → Option ρ) (s : ByteArray) {ps : List ByteArray} (hps : ps.length ≤ 2000000) (hsz : ∀ w ∈ ps, w.size ≤ 1048576) : ∀ (M i : Nat) (out : List Int), i ≤ ps.length → out.length + (ps.length - i) ≤ 2000000 → ps.length - i < M →
    Z10L N k0 kr M out ps s (ps.length : Int) (i : Int) = match allP partI (ps.drop i) with | some l => k0 (out ++ l) s | none => kr [] false := by
  intro M
  induction M with
  | zero => intro i out _ _ h; omega
  | succ M ih =>
    intro i out hi ho hM
    simp only [Z10L, Z11]
    by_cases h : i < ps.length
    · have hb : ∀ x : Int, Nat.blt (out.length + ([x] : List Int).length) 1099511627776 = true := fun x => Nat.ble_eq_true_of_le (by simp; omega)
      have hP : strconv_Atoi.P (ps.getD i ByteArray.empty) = true := dt (hsz _ (getD_mem (l := ps) _ h))
      have hg : strconv_Atoi.g (ps.getD i ByteArray.empty) = atoiW (ps.getD i ByteArray.empty) := rfl
      have hw : ∀ n : Int, impl_within.g n (-999999999) 999999999 = inK n (-999999999) 999999999 := fun n => rfl
      rw [ct (dt (by omega)), ct (inB_nat h), Int.toNat_natCast, ct hP, drop_getD (l := ps) ByteArray.empty h, allP, hg, lk_eq]
      rw [show partI (ps.getD i ByteArray.empty) = (if (atoiW (ps.getD i ByteArray.empty)).2 = true then none else if 10 < (ps.getD i ByteArray.empty).size then none else if inK (atoiW (ps.getD i ByteArray.empty)).1 (-999999999) 999999999 = true then some (atoiW (ps.getD i ByteArray.empty)).1 else none) from rfl]
      cases herr : (atoiW (ps.getD i ByteArray.empty)).2
      · rw [cond_false, if_neg (by simp)]
        by_cases h10 : 10 < (ps.getD i ByteArray.empty).size
        · rw [ct (dt (by omega)), if_pos h10]
        · rw [cf (df (by omega)), if_neg h10, hw, lk_eq]
          cases hin : inK (atoiW (ps.getD i ByteArray.empty)).1 (-999999999) 999999999
          · rw [if_neg (by simp)]
            rfl
          · rw [if_pos rfl, cf' (show (!true) = false from rfl), ct (hb _), w64_succ (by rw [maxLen_val]; omega), ih (i + 1) _ h (by simp; omega) (by omega)]
            cases allP partI (ps.drop (i + 1)) with
            | none => rfl
            | some l => simp
      · rw [cond_true, if_pos rfl]
    · rw [cf (df (by omega)), List.drop_of_length_le (by omega)]
      simp [allP]
theorem allP_len {f : ByteArray → Option Int} : ∀ {ws : List ByteArray} {l : List Int}, allP f ws = some l → l.length = ws.length ∧ ∀ n ∈ l, ∃ w ∈ ws, f w = some n
  | [], l, h => by
    injection h with h
    subst h
    exact ⟨rfl, fun n hn => by cases hn⟩
  | w :: ws, l, h => by
    rw [allP] at h
    cases hw : f w with
    | none => rw [hw] at h; cases h
    | some n =>
      rw [hw] at h
      cases hr : allP f ws with
      | none => rw [hr] at h; cases h
      | some m =>
        rw [hr] at h
        injection h with h
        subst h
        obtain ⟨a, b⟩ := allP_len hr
        refine ⟨by simp [a], fun x hx => ?_⟩
        rcases List.mem_cons.1 hx with rfl | hx
        · exact ⟨w, List.mem_cons_self .., hw⟩
        · obtain ⟨v, hv, e⟩ := b x hx
          exact ⟨v, List.mem_cons_of_mem _ hv, e⟩
theorem ok : Spec := fun s hp => ⟨s.size + 100, fun N hN => by
  have hs : s.size ≤ 1048576 := of_decide_eq_true hp
  have h1 : strings_Split.P s ⟨#[32]⟩ = true := by
    simp only [strings_Split.P, Bool.and_eq_true]
    exact ⟨Nat.ble_eq_true_of_le (by omega), rfl⟩
  have h2 : strings_Split.g s ⟨#[32]⟩ = prtB s := split_one s 32
  have hl := prt_len s
  simp only [Z0, Z1, Z2, Z3, lk_eq, g, parseI]
  cases he : strEq s ByteArray.empty
  · rw [cond_false, if_neg (by simp)]
    simp only [Z4, Z5, Z6, Z7, Z8]
    rw [ct h1, h2]
    simp only [Z9, Z10]
    refine (loop _ _ s (ps := prtB s) (by omega) (fun w hw => Nat.le_trans (prt_size s w hw) hs) N 0 [] (Nat.zero_le _) (by simp; omega) (by omega)).trans ?_
    rw [List.drop_zero]
    cases hq : allP partI (prtB s) with
    | none => rfl
    | some l =>
      obtain ⟨ha, hb⟩ := allP_len hq
      have hR : impl_FormatInts.P l = true := by
        show rowP l = true
        simp only [rowP, Bool.and_eq_true, decide_eq_true_eq, List.all_eq_true]
        refine ⟨by omega, fun n hn => ?_⟩
        obtain ⟨w, _, e⟩ := hb n hn
        exact partI_range e
      simp only [Z12, List.nil_append]
      rw [ct hR]
      have hgf : impl_FormatInts.g l = itoasB l := rfl
      rw [hgf, lk_eq]
      cases strEq (itoasB l) s <;> rfl
  · rfl⟩
end impl_ParseInts
end
end Go.Fw
namespace Go.Fw
noncomputable section
variable {ρ : Type}
namespace impl_shaped_1
def g (x : Int) : Bool := !inK x (-99) 99
end impl_shaped_1
namespace impl_shaped_1
def Z0 {ρ : Type} (N : Nat) (v0 : Int) (kr : Bool → Option ρ) : Option ρ :=
 kr (!(lk N ((impl_within.g v0 (-99) 99))))
def Spec : Prop := ∀  (v0 : Int), ∃ N0, ∀ N, N0 ≤ N → Z0 N v0 (fun v2 => some ((), (v2, ()))) = some ((), ((g v0), ()))
theorem ok : Spec := fun n => ⟨0, fun N hN => by
  simp only [Z0, g, lk_eq, impl_within.g]⟩
end impl_shaped_1
end
end Go.Fw
namespace Go.Fw
noncomputable section
variable {ρ : Type}
namespace slices_IndexFunc_int_int_shaped
def go (p : Int → Bool) : List Int → Nat → Int
  | [], _ => -1
  | x :: xs, j => if p x = true then (j : Int) else go p xs (j + 1)
def g (s : List Int) (_ : Unit) : Int := go impl_shaped_1.g s 0
end slices_IndexFunc_int_int_shaped
namespace slices_IndexFunc_int_int_shaped
def Z1 {ρ : Type} (N : Nat) (v0 : LI) (v1 : Unit) (kn : LI → Option ρ) : Option ρ :=
 kn v0
def Z4 {ρ : Type} (N : Nat) (v0 : LI) (kn : LI → I2 (Option ρ)) : Option ρ :=
 kn v0 (v0.length : Int) 0
def Z7 {ρ : Type} (N : Nat) (v0 : LI) (v7 v8 : Int) (kn : LI → I2 (Option ρ)) (k0 : Option ρ) (kr : Int → Option ρ) : Option ρ :=
 cond (lk N (decide (v8 < v7)))
 (
  cond (lk N (inB v8 v0.length)) (
   cond (lk N ((impl_shaped_1.g (v0.getD v8.toNat 0))))
   (
    kr v8)
   (
    kn v0 v7 (w64 (v8 + 1)))) none)
 (
  k0)
def Z6L {ρ : Type} (N : Nat) (k0 : Option ρ) (kr : Int → Option ρ) : Nat → LI → Int → Int → Option ρ
  | 0, _, _, _ => none
  | M + 1, v0, v7, v8 => Z7 N v0 v7 v8 (fun v0 v7 v8 => Z6L N k0 kr M v0 v7 v8) k0 kr
def Z6 N v0 v7 v8 k0 kr := (Z6L N k0 kr N v0 v7 v8 : Option ρ)
def Z5 N v0 v7 v8 kn kr := (Z6 N v0 v7 v8 kn kr : Option ρ)
def Z3 N v0 kn kr := (Z4 N v0 (fun v0 v7 v8 => Z5 N v0 v7 v8 kn kr) : Option ρ)
def Z8 {ρ : Type} (N : Nat)  (kr : Int → Option ρ) : Option ρ :=
 kr (-1)
def Z2 N v0 kr := (Z3 N v0 (Z8 N kr) kr : Option ρ)
def Z0 N v0 v1 kr := (Z1 N v0 v1 (fun v0 => Z2 N v0 kr) : Option ρ)
def Spec : Prop := ∀  (v0 : LI) (v1 : Unit), Ty.bd (.sl 0 (.int .i64)) v0 → ∃ N0, ∀ N, N0 ≤ N → Z0 N v0 v1 (fun v4 => some ((), (v4, ()))) = some ((), ((g v0 v1), ()))
theorem loop {ρ : Type} (N : Nat) (kr : Int → Option ρ) (a : List Int) (ha : a.length ≤ maxLen) : ∀ (M j : Nat), j ≤ a.length → a.length - j < M →
    Z6L N (kr (-1)) kr M a (a.length : Int) (j : Int) = kr (go impl_shaped_1.g (a.drop j) j) := by
  intro M
  induction M with
  | zero => intro j _ h; omega
  | succ M ih =>
    intro j hj hM
    simp only [Z6L, Z7]
    by_cases h : j < a.length
    · rw [ct (dt (by omega)), ct (inB_nat h), Int.toNat_natCast, w64_succ (by omega), ih (j + 1) h (by omega), drop_getD 0 h, go]
      cases e : impl_shaped_1.g (a.getD j 0)
      · rw [cf rfl, if_neg (by simp)]
      · rw [ct rfl, if_pos rfl]
    · rw [cf (df (by omega)), List.drop_of_length_le (by omega), go]
theorem ok : Spec := fun a _ ha => ⟨a.length + 1, fun N hN => by
  simp only [Z1, Z4, Z7, Z6, Z5, Z3, Z8, Z2, Z0]
  exact (loop N (fun t => some ((), (t, ()))) a ha.1 N 0 (by omega) (by omega)).trans rfl⟩
theorem go_pos (p : Int → Bool) : ∀ (l : List Int) (j : Nat), 0 ≤ go p l j ↔ ∃ x ∈ l, p x = true
  | [], j => by simp [go]
  | x :: xs, j => by
    rw [go]
    by_cases h : p x = true
    · rw [if_pos h]; simp [h]
    · rw [if_neg h, go_pos p xs]; simp [h]
end slices_IndexFunc_int_int_shaped
end
end Go.Fw
