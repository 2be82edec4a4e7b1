/- The plain part: what the functions compute, in lists and numbers. Nothing is assumed. -/
import Derived.Test.YtkjnhmjfdfiklaaDoorFwc
import Derived.Lib.SplitLaws
import Derived.Lib.ItoaLen
import Derived.Lib.AtoiAll
import Derived.Lib.Join
import Derived.Lib.CutLaws
set_option linter.unusedVariables false
namespace Go.Fw
def lexLt : List Int → List Int → Bool
  | [], [] => false
  | [], _ :: _ => true
  | _ :: _, [] => false
  | x :: xs, y :: ys => if x = y then lexLt xs ys else decide (x < y)
def lexCmp : List Int → List Int → Int
  | [], [] => 0
  | [], _ :: _ => -1
  | _ :: _, [] => 1
  | x :: xs, y :: ys => if x = y then lexCmp xs ys else if x < y then -1 else 1
theorem lexCmp_le : ∀ a b : List Int, decide (lexCmp a b ≤ 0) = !(lexLt b a)
  | [], [] => rfl
  | [], _ :: _ => rfl
  | _ :: _, [] => rfl
  | x :: xs, y :: ys => by
    rw [lexCmp, lexLt]
    by_cases h : x = y
    · rw [if_pos h, if_pos h.symm, lexCmp_le xs ys]
    · rw [if_neg h, if_neg (show ¬ y = x from fun e => h e.symm)]
      by_cases h2 : x < y
      · rw [if_pos h2, df (show ¬ y < x by omega)]; rfl
      · rw [if_neg h2, dt (show y < x by omega)]; rfl
theorem lexCmp_lt : ∀ a b : List Int, decide (lexCmp a b < 0) = lexLt a b
  | [], [] => rfl
  | [], _ :: _ => rfl
  | _ :: _, [] => rfl
  | x :: xs, y :: ys => by
    rw [lexCmp, lexLt]
    by_cases h : x = y
    · rw [if_pos h, if_pos h, lexCmp_lt xs ys]
    · rw [if_neg h, if_neg h]
      by_cases h2 : x < y
      · rw [if_pos h2, dt h2]; rfl
      · rw [if_neg h2, df h2]; rfl
def inK (n lo hi : Int) : Bool := decide (lo ≤ n) && decide (n ≤ hi)
def expK (vars : Int) (e : List Int) : Bool := decide ((e.length : Int) = vars) && e.all fun x => inK x (-20) 20
def coefK (c : Int) : Bool := !(decide (c = 0)) && inK c (-1000000) 1000000
def prevE (l : List (List Int × Int)) : Nat → Option (List Int)
  | 0 => none
  | j + 1 => some (l.getD j ([], 0)).1
def belowK : Option (List Int) → List Int → Bool
  | none, _ => true
  | some p, e => lexLt e p
def termsK (vars : Int) : List (List Int × Int) → Option (List Int) → Bool
  | [], _ => true
  | t :: ts, p => expK vars t.1 && (coefK t.2 && (belowK p t.1 && termsK vars ts (some t.1)))
def lokK (f : Int × List (List Int × Int)) : Bool := inK f.1 1 8 && (decide (f.2.length ≤ 600) && termsK f.1 f.2 none)
end Go.Fw
namespace Go.Fw
def upto {α : Type} (n j : Nat) (F G : Nat → α) : List α := (List.range n).map fun i => if i < j then F i else G i
section
variable {α : Type} {n j : Nat} {F G : Nat → α}
theorem upto_len : (upto n j F G).length = n := by simp [upto]
theorem map_getD {i : Nat} (h : i < n) (d : α) : ((List.range n).map F).getD i d = F i := by
  rw [List.getD_eq_getElem?_getD, List.getElem?_map, List.getElem?_range h]
  rfl
theorem upto_get {i : Nat} (h : i < n) (d : α) : (upto n j F G).getD i d = if i < j then F i else G i := map_getD h d
theorem upto_set (h : j < n) : (upto n j F G).set j (F j) = upto n (j + 1) F G := by
  apply List.ext_getElem?
  intro i
  by_cases hi : i < n
  · by_cases e : j = i
    · subst e
      rw [List.getElem?_set_self (by rw [upto_len]; exact h)]
      simp [upto, List.getElem?_map, List.getElem?_range h]
    · rw [List.getElem?_set_ne e]
      simp only [upto, List.getElem?_map, List.getElem?_range hi, Option.map_some]
      by_cases h1 : i < j
      · rw [if_pos h1, if_pos (by omega)]
      · rw [if_neg h1, if_neg (by omega)]
  · rw [List.getElem?_eq_none (by rw [List.length_set, upto_len]; omega), List.getElem?_eq_none (by rw [upto_len]; omega)]
theorem upto_zero : upto n 0 F G = (List.range n).map G := by simp [upto]
theorem upto_full : upto n n F G = (List.range n).map F := by
  unfold upto
  apply List.map_congr_left
  intro i hi
  rw [if_pos (List.mem_range.1 hi)]
theorem list_map {l : List α} (d : α) (h : l.length = n) : (List.range n).map (fun i => l.getD i d) = l := by
  apply List.ext_getElem?
  intro i
  by_cases hi : i < n
  · rw [List.getElem?_map, List.getElem?_range hi, Option.map_some, List.getD_eq_getElem?_getD, List.getElem?_eq_getElem (by omega), Option.getD_some]
  · rw [List.getElem?_eq_none (by simp; omega), List.getElem?_eq_none (by omega)]
end
end Go.Fw
namespace Go.Fw
def partsK (p : UInt8 → Bool) : List UInt8 → List (List UInt8)
  | [] => [[]]
  | b :: l => if p b = true then [] :: partsK p l else match partsK p l with
    | h :: t => (b :: h) :: t
    | [] => [[b]]
theorem parts_ne (p : UInt8 → Bool) : ∀ l, partsK p l ≠ []
  | [] => by simp [partsK]
  | b :: l => by
    rw [partsK]
    split
    · simp
    · split <;> simp
def glue (a : List UInt8) : List (List UInt8) → List (List UInt8)
  | h :: t => (a ++ h) :: t
  | [] => [a]
theorem glue_nil {q : List (List UInt8)} (h : q ≠ []) : glue [] q = q := by
  cases q with
  | nil => exact absurd rfl h
  | cons x xs => rfl
theorem glue_sep {p : UInt8 → Bool} {b : UInt8} (h : p b = true) (a l : List UInt8) : glue a (partsK p (b :: l)) = a :: partsK p l := by
  rw [partsK, if_pos h]
  simp [glue]
theorem glue_go {p : UInt8 → Bool} {b : UInt8} (h : p b = false) (a l : List UInt8) : glue a (partsK p (b :: l)) = glue (a ++ [b]) (partsK p l) := by
  rw [partsK, if_neg (by simp [h])]
  have := parts_ne p l
  cases hq : partsK p l with
  | nil => exact absurd hq this
  | cons x xs => simp [glue]
theorem splitK_parts (c : UInt8) : ∀ l : List UInt8, Lib.splitK [c] 0 (l.count c) l = partsK (fun b => b == c) l
  | [] => rfl
  | b :: l => by
    have ih := splitK_parts c l
    rw [partsK]
    by_cases h : b = c
    · subst h
      have hi : Lib.index (b :: l) [b] = 0 := by unfold Lib.index; simp
      rw [List.count_cons_self, Lib.splitK, if_neg (by rw [hi]; decide), if_pos (by simp), hi, ← ih]
      rfl
    · have hp : ([c] : List UInt8).isPrefixOf (b :: l) = false := by simp [List.isPrefixOf]; exact fun e => h e.symm
      have hi : Lib.index (b :: l) [c] = if Lib.index l [c] == -1 then -1 else Lib.index l [c] + 1 := by
        conv => lhs; unfold Lib.index
        rw [hp]
        simp
      rw [List.count_cons_of_ne h, if_neg (by simpa using h), ← ih]
      cases hk : l.count c with
      | zero => rfl
      | succ k =>
        rw [Lib.splitK, Lib.splitK, hi]
        by_cases hm : (Lib.index l [c] == -1) = true
        · rw [if_pos hm, if_pos (by decide), if_pos hm]
        · have hge := Lib.index_ge l [c]
          have hne : Lib.index l [c] ≠ -1 := fun e => hm (beq_iff_eq.2 e)
          obtain ⟨i, hx⟩ := Int.eq_ofNat_of_zero_le (show 0 ≤ Lib.index l [c] by omega)
          rw [if_neg hm, hx, if_neg (by simp; omega), if_neg (by simp)]
          have e : ((i : Int) + 1).toNat = i + 1 := by omega
          simp only [e, Int.toNat_natCast, Nat.add_zero, List.length_singleton, List.take_succ_cons, List.drop_succ_cons]
def baOf (l : List UInt8) : ByteArray := ⟨l.toArray⟩
theorem baOf_data (s : ByteArray) : baOf s.data.toList = s := by simp [baOf]
theorem split_one (s : ByteArray) (c : UInt8) : Lib.splitB ⟨#[c]⟩ 0 (Lib.countB s ⟨#[c]⟩) s = (partsK (fun b => b == c) s.data.toList).map baOf := by
  have h1 : Lib.countB s ⟨#[c]⟩ = s.data.toList.count c := Lib.count_one c _
  have h2 := Lib.splitB_data ⟨#[c]⟩ 0 (s.data.toList.count c) s
  rw [splitK_parts] at h2
  rw [h1, ← h2, List.map_map]
  conv => lhs; rw [← List.map_id (Lib.splitB _ _ _ _)]
  exact List.map_congr_left fun x _ => (baOf_data x).symm
theorem parts_len (p : UInt8 → Bool) : ∀ l, (partsK p l).length ≤ l.length + 1
  | [] => by simp [partsK]
  | b :: l => by
    have := parts_len p l
    rw [partsK]
    split
    · simp; omega
    · split
      · rename_i hq
        rw [hq] at this
        simp at this ⊢
        omega
      · simp
end Go.Fw
namespace Go.Fw
noncomputable def itoaB (n : Int) : ByteArray := ⟨(Lib.itoa n).toArray⟩
noncomputable def lsd (u : Nat) : List Int := (Lib.decDigits u).reverse.map fun b => (b.toNat : Int)
theorem u8_dig {t : Nat} (h : t < 10) : ((UInt8.ofNat (48 + t)).toNat : Int) = 48 + (t : Int) := by
  rw [UInt8.toNat_ofNat']
  omega
theorem lsd_small {u : Nat} (h : u < 10) : lsd u = [48 + (u : Int)] := by
  rw [lsd, Lib.decDigits, dif_pos h]
  simp only [List.reverse_cons, List.reverse_nil, List.nil_append, List.map_cons, List.map_nil]
  rw [u8_dig h]
theorem lsd_big {u : Nat} (h : ¬ u < 10) : lsd u = (48 + ((u % 10 : Nat) : Int)) :: lsd (u / 10) := by
  rw [lsd, Lib.decDigits, dif_neg h, List.reverse_append]
  simp only [List.reverse_cons, List.reverse_nil, List.nil_append, List.singleton_append, List.map_cons]
  rw [u8_dig (Nat.mod_lt _ (by omega))]
  rfl
theorem nums_of_bytes (l : List UInt8) : strOfNums (l.map fun b => (b.toNat : Int)) = ⟨l.toArray⟩ := by
  unfold strOfNums
  rw [List.map_map]
  congr 2
  conv => rhs; rw [← List.map_id l]
  apply List.map_congr_left
  intro b _
  simp
theorem nums_lsd (u : Nat) : strOfNums (lsd u).reverse = ⟨(Lib.decDigits u).toArray⟩ := by
  rw [lsd, ← List.map_reverse, List.reverse_reverse, nums_of_bytes]
theorem nums_neg (u : Nat) : strOfNums (45 :: (lsd u).reverse) = ⟨(45 :: Lib.decDigits u).toArray⟩ := by
  rw [lsd, ← List.map_reverse, List.reverse_reverse]
  exact nums_of_bytes (45 :: Lib.decDigits u)
theorem tmod_nat (k : Int) : Int.tmod k 10 = if k < 0 then -((k.natAbs % 10 : Nat) : Int) else ((k.natAbs % 10 : Nat) : Int) := by
  split
  · rename_i h
    obtain ⟨u, rfl⟩ : ∃ u : Nat, k = -(u : Int) := ⟨k.natAbs, by omega⟩
    rw [Int.neg_tmod, Int.natAbs_neg, Int.natAbs_natCast]
    rfl
  · rename_i h
    obtain ⟨u, rfl⟩ : ∃ u : Nat, k = (u : Int) := ⟨k.toNat, by omega⟩
    rw [Int.natAbs_natCast]
    rfl
theorem tdiv_nat (k : Int) : Int.tdiv k 10 = if k < 0 then -((k.natAbs / 10 : Nat) : Int) else ((k.natAbs / 10 : Nat) : Int) := by
  split
  · rename_i h
    obtain ⟨u, rfl⟩ : ∃ u : Nat, k = -(u : Int) := ⟨k.natAbs, by omega⟩
    rw [Int.neg_tdiv, Int.natAbs_neg, Int.natAbs_natCast]
    rfl
  · rename_i h
    obtain ⟨u, rfl⟩ : ∃ u : Nat, k = (u : Int) := ⟨k.toNat, by omega⟩
    rw [Int.natAbs_natCast]
    rfl
theorem w8_id {n : Int} (h0 : 0 ≤ n) (h1 : n < 256) : w8 n = n := by
  unfold w8
  rw [IntKind.wrap_u8]
  omega
theorem dig_pos {k : Int} (h : ¬ Int.tmod k 10 < 0) : w8 (w64 (48 + Int.tmod k 10)) = 48 + ((k.natAbs % 10 : Nat) : Int) := by
  have hm : k.natAbs % 10 < 10 := Nat.mod_lt _ (by omega)
  have e : Int.tmod k 10 = ((k.natAbs % 10 : Nat) : Int) := by
    rw [tmod_nat] at h ⊢
    split
    · rename_i hk
      rw [if_pos hk] at h
      omega
    · rfl
  rw [e, w64_id (by omega) (by omega), w8_id (by omega) (by omega)]
theorem dig_neg {k : Int} (h : Int.tmod k 10 < 0) : w8 (w64 (48 + w64 (0 - Int.tmod k 10))) = 48 + ((k.natAbs % 10 : Nat) : Int) := by
  have hm : k.natAbs % 10 < 10 := Nat.mod_lt _ (by omega)
  have e : Int.tmod k 10 = -((k.natAbs % 10 : Nat) : Int) := by
    rw [tmod_nat] at h ⊢
    split
    · rfl
    · rename_i hk
      rw [if_neg hk] at h
      omega
  have e1 : w64 (0 - -((k.natAbs % 10 : Nat) : Int)) = ((k.natAbs % 10 : Nat) : Int) := by rw [w64_id (by omega) (by omega)]; omega
  rw [e, e1, w64_id (by omega) (by omega), w8_id (by omega) (by omega)]
theorem natAbs_tdiv (k : Int) : (Int.tdiv k 10).natAbs = k.natAbs / 10 := by
  rw [tdiv_nat]
  split <;> omega
end Go.Fw
namespace Go.Fw
def atoiW (s : ByteArray) : Int × Bool := match Lib.atoiAll s.data.toList with
  | .ok n => (n, false)
  | .range => (Lib.atoiSat s.data.toList, true)
  | _ => (0, true)
end Go.Fw
namespace Go.Fw
theorem ba_app (a b : List UInt8) : (⟨a.toArray⟩ : ByteArray) ++ ⟨b.toArray⟩ = ⟨(a ++ b).toArray⟩ := by
  apply ByteArray.ext
  simp
theorem itoaB_data (n : Int) : (itoaB n).data.toList = Lib.itoa n := by simp [itoaB]
theorem itoaB_size {n : Int} (h : i64P n = true) : (itoaB n).size ≤ 21 := by
  simp only [i64P, Bool.and_eq_true, decide_eq_true_eq] at h
  have := Lib.itoa_length_le n h.1 h.2
  show (Lib.itoa n).toArray.size ≤ 21
  simpa using this
noncomputable def itoasL (l : List Int) : List UInt8 := Lib.join (l.map Lib.itoa) [32]
noncomputable def itoasB (l : List Int) : ByteArray := ⟨(itoasL l).toArray⟩
theorem itoas_snoc {l : List Int} (h : l ≠ []) (n : Int) : itoasL (l ++ [n]) = itoasL l ++ [32] ++ Lib.itoa n := by
  unfold itoasL Lib.join
  cases l with
  | nil => exact absurd rfl h
  | cons x xs =>
    rw [List.map_append, List.map_cons, List.map_cons, List.map_nil]
    induction xs generalizing x with
    | nil => simp [List.intercalate, List.intersperse]
    | cons y ys ih =>
      have := ih y (by simp)
      simp only [List.map_cons, List.cons_append, List.intercalate, List.intersperse, List.flatten_cons, List.append_assoc] at this ⊢
      rw [this]
theorem itoas_one (n : Int) : itoasL [n] = Lib.itoa n := by simp [itoasL, Lib.join, List.intercalate]
theorem itoas_nil : itoasL [] = [] := rfl
theorem itoas_len {l : List Int} (h : l.all i64P = true) : (itoasL l).length ≤ 22 * l.length := by
  have key : ∀ j, j ≤ l.length → (itoasL (l.take j)).length ≤ 22 * j := by
    intro j
    induction j with
    | zero => intro _; simp [itoas_nil]
    | succ j ih =>
      intro hj
      have h2 : i64P (l.getD j 0) = true := List.all_eq_true.1 h _ (getD_mem 0 hj)
      have hn : (Lib.itoa (l.getD j 0)).length ≤ 21 := by
        simp only [i64P, Bool.and_eq_true, decide_eq_true_eq] at h2
        exact Lib.itoa_length_le _ h2.1 h2.2
      have := ih (by omega)
      rw [← take_getD 0 hj]
      by_cases he : l.take j = []
      · rw [he, List.nil_append, itoas_one]
        omega
      · rw [itoas_snoc he]
        simp only [List.length_append, List.length_cons, List.length_nil]
        omega
  have := key l.length (Nat.le_refl _)
  rwa [List.take_length] at this
def rowP (l : List Int) : Bool := decide (l.length ≤ 2097152) && l.all i64P
end Go.Fw
namespace Go.Fw
theorem join_snoc {xs : List (List UInt8)} (h : xs ≠ []) (x sep : List UInt8) : Lib.join (xs ++ [x]) sep = Lib.join xs sep ++ sep ++ x := by
  cases xs with
  | nil => exact absurd rfl h
  | cons y ys =>
    rw [List.cons_append, Lib.join_cons, Lib.join_cons]
    simp [Lib.joinTail, List.append_assoc]
theorem join_len {B : Nat} {sep : List UInt8} : ∀ {xs : List (List UInt8)}, (∀ x ∈ xs, x.length ≤ B) → (Lib.join xs sep).length ≤ (B + sep.length) * xs.length
  | [], _ => by simp [Lib.join_nil]
  | y :: ys, h => by
    have hy := h y (List.mem_cons_self ..)
    have ht : ∀ (zs : List (List UInt8)), (∀ z ∈ zs, z.length ≤ B) → (Lib.joinTail sep zs).length ≤ (B + sep.length) * zs.length := by
      intro zs
      induction zs with
      | nil => intro _; simp [Lib.joinTail]
      | cons z zs ih =>
        intro hz
        have h1 := hz z (List.mem_cons_self ..)
        have h2 := ih fun x hx => hz x (List.mem_cons_of_mem _ hx)
        have e : (Lib.joinTail sep (z :: zs)).length = sep.length + z.length + (Lib.joinTail sep zs).length := by simp [Lib.joinTail, List.length_append]; omega
        rw [e, List.length_cons, Nat.mul_succ]
        omega
    have := ht ys fun x hx => h x (List.mem_cons_of_mem _ hx)
    rw [Lib.join_cons, List.length_append, List.length_cons, Nat.mul_succ]
    omega
noncomputable def txt (l : List UInt8) : ByteArray := ⟨l.toArray⟩
theorem txt_size (l : List UInt8) : (txt l).size = l.length := by simp [txt, ByteArray.size]
theorem txt_data (l : List UInt8) : (txt l).data.toList = l := by simp [txt]
theorem txt_app (a b : List UInt8) : txt a ++ txt b = txt (a ++ b) := ba_app a b
theorem itoasB_txt (l : List Int) : itoasB l = txt (itoasL l) := rfl
theorem itoaB_txt (n : Int) : itoaB n = txt (Lib.itoa n) := rfl
theorem map_txt (xs : List (List UInt8)) : (xs.map txt).map (·.data.toList) = xs := by
  rw [List.map_map]
  conv => rhs; rw [← List.map_id xs]
  exact List.map_congr_left fun x _ => txt_data x
end Go.Fw
namespace Go.Fw
def atP (m : Int × Int × List Int) (i j : Int) : Bool := decide (0 ≤ i) && (decide (0 ≤ j) && (decide (0 ≤ m.1) && decide (i * m.1 + j < (m.2.2.length : Int))))
def atK (m : Int × Int × List Int) (i j : Int) : Int := m.2.2.getD (i * m.1 + j).toNat 0
theorem at_index {m : Int × Int × List Int} {i j : Int} (hl : m.2.2.length ≤ maxLen) (h : atP m i j = true) : w64 (w64 (i * m.1) + j) = i * m.1 + j ∧ 0 ≤ i * m.1 + j ∧ i * m.1 + j < (m.2.2.length : Int) := by
  simp only [atP, Bool.and_eq_true, decide_eq_true_eq] at h
  obtain ⟨h1, h2, h3, h4⟩ := h
  have h5 : 0 ≤ i * m.1 := Int.mul_nonneg h1 h3
  rw [maxLen_val] at hl
  have e : w64 (i * m.1) = i * m.1 := w64_id (by omega) (by omega)
  rw [e, w64_id (by omega) (by omega)]
  exact ⟨rfl, by omega, h4⟩
def ent (m : Int × Int × List Int) (i j : Nat) : Int := m.2.2.getD (i * m.1.toNat + j) 0
theorem atK_nat {m : Int × Int × List Int} (h : 0 ≤ m.1) (i j : Nat) : atK m (i : Int) (j : Int) = ent m i j := by
  unfold atK ent
  congr 1
  obtain ⟨n, hn⟩ := Int.eq_ofNat_of_zero_le h
  rw [hn]
  norm_cast
def dimK (m : Int × Int × List Int) : Bool := inK m.1 1 5 && (inK m.2.1 m.1 8 && decide ((m.2.2.length : Int) = m.1 * m.2.1))
def entK (l : List Int) : Bool := l.all fun x => inK x (-99) 99
def shapedK (m : Int × Int × List Int) : Bool := dimK m && entK m.2.2
def signK (a b : Int) : Bool := (decide (0 < a) == decide (b < 0)) && (decide (a = 0) == decide (b = 0))
def sizesK (m : Int × Int × List Int) : Bool := shapedK m && (List.range m.1.toNat).all fun i => (List.range m.1.toNat).all fun j => signK (ent m i j) (ent m j i)
theorem inK_iff {n lo hi : Int} : inK n lo hi = true ↔ lo ≤ n ∧ n ≤ hi := by simp [inK]
theorem dim_nat {m : Int × Int × List Int} (h : dimK m = true) : ∃ n r : Nat, m.1 = (n : Int) ∧ m.2.1 = (r : Int) ∧ 1 ≤ n ∧ n ≤ 5 ∧ n ≤ r ∧ r ≤ 8 ∧ m.2.2.length = r * n := by
  simp only [dimK, Bool.and_eq_true, inK_iff, decide_eq_true_eq] at h
  obtain ⟨⟨h1, h2⟩, ⟨h3, h4⟩, h5⟩ := h
  obtain ⟨n, hn⟩ := Int.eq_ofNat_of_zero_le (show 0 ≤ m.1 by omega)
  obtain ⟨r, hr⟩ := Int.eq_ofNat_of_zero_le (show 0 ≤ m.2.1 by omega)
  refine ⟨n, r, hn, hr, by omega, by omega, by omega, by omega, ?_⟩
  rw [hn, hr, Int.mul_comm] at h5
  exact_mod_cast h5
theorem ent_lt {n r i j : Nat} (hi : i < r) (hj : j < n) : i * n + j < r * n := by
  have := Nat.mul_le_mul_right n (show i + 1 ≤ r from hi)
  rw [Nat.add_mul] at this
  omega
theorem at_ok {m : Int × Int × List Int} (h : dimK m = true) {i j : Nat} (hi : i < m.2.1.toNat) (hj : j < m.1.toNat) : atP m (i : Int) (j : Int) = true := by
  obtain ⟨n, r, hn, hr, _, _, _, _, hl⟩ := dim_nat h
  have := ent_lt (n := n) (r := r) (i := i) (j := j) (by omega) (by omega)
  simp only [atP, Bool.and_eq_true, decide_eq_true_eq, hn, hl]
  refine ⟨by omega, by omega, by omega, ?_⟩
  exact_mod_cast this
theorem all_bound {l : List Int} (h : entK l = true) (i : Nat) : -99 ≤ l.getD i 0 ∧ l.getD i 0 ≤ 99 := by
  by_cases hi : i < l.length
  · have := (List.all_eq_true.1 h) _ (getD_mem 0 hi)
    exact inK_iff.1 this
  · rw [List.getD_eq_getElem?_getD, List.getElem?_eq_none (by omega), Option.getD_none]; omega
theorem range_drop {j n : Nat} (h : j < n) : (List.range n).drop j = j :: (List.range n).drop (j + 1) := by
  rw [drop_getD 0 (by simpa using h), List.getD_eq_getElem?_getD, List.getElem?_range h, Option.getD_some]
end Go.Fw
namespace Go.Fw
def binK (n : Int) : Nat → Int → Nat → Int
  | 0, x, _ => x
  | m + 1, x, i => binK n m (w64 (Int.tdiv (w64 (x * w64 (n - (i : Int)))) ((i + 1 : Nat) : Int))) (i + 1)
def binC (n k : Int) : Int := binK n k.toNat 1 0
def cntA (n : Int) : Int × Int × Bool := (w64 (Int.tdiv (w64 (n * w64 (n + 3))) 2), w64 (Int.tdiv (binC (w64 (w64 (2 * n) + 2)) (w64 (n + 1))) (w64 (n + 2))), true)
def cntB (n : Int) : Int × Int × Bool := (w64 (n * w64 (n + 1)), binC (w64 (2 * n)) n, true)
def cntD (n : Int) : Int × Int × Bool := (w64 (n * n), w64 (Int.tdiv (w64 (w64 (w64 (3 * n) - 2) * binC (w64 (w64 (2 * n) - 2)) (w64 (n - 1)))) n), true)
def cntK (letter n : Int) : Int × Int × Bool :=
  cond (decide (letter = 65) && inK n 1 5) (cntA n)
  (cond ((decide (letter = 66) && inK n 2 5) || (decide (letter = 67) && inK n 3 5)) (cntB n)
  (cond (decide (letter = 68) && inK n 4 5) (cntD n)
  (cond (decide (letter = 70) && decide (n = 4)) (28, 105, true)
  (cond (decide (letter = 71) && decide (n = 2)) (8, 8, true) (0, 0, false)))))
theorem cnt_range {letter n : Int} (h : (cntK letter n).2.2 = true) : 1 ≤ n ∧ n ≤ 5 := by
  unfold cntK at h
  cases h1 : decide (letter = 65) && inK n 1 5
  · rw [h1, cond_false] at h
    cases h2 : (decide (letter = 66) && inK n 2 5) || (decide (letter = 67) && inK n 3 5)
    · rw [h2, cond_false] at h
      cases h3 : decide (letter = 68) && inK n 4 5
      · rw [h3, cond_false] at h
        cases h4 : decide (letter = 70) && decide (n = 4)
        · rw [h4, cond_false] at h
          cases h5 : decide (letter = 71) && decide (n = 2)
          · rw [h5, cond_false] at h
            cases h
          · simp only [Bool.and_eq_true, decide_eq_true_eq] at h5
            omega
        · simp only [Bool.and_eq_true, decide_eq_true_eq] at h4
          omega
      · simp only [Bool.and_eq_true, decide_eq_true_eq, inK_iff] at h3
        omega
    · simp only [Bool.or_eq_true, Bool.and_eq_true, decide_eq_true_eq, inK_iff] at h2
      omega
  · simp only [Bool.and_eq_true, decide_eq_true_eq, inK_iff] at h1
    omega
def stepK (w : ByteArray) : Option (Int × Int × Int) :=
  cond (decide (w.size = 2) && (cntK (bt w 0) (bt w 1 - 48)).2.2) (some ((cntK (bt w 0) (bt w 1 - 48)).1, (cntK (bt w 0) (bt w 1 - 48)).2.1, bt w 1 - 48)) none
theorem step_range {w : ByteArray} {a b n : Int} (h : stepK w = some (a, b, n)) : 1 ≤ n ∧ n ≤ 5 := by
  unfold stepK at h
  cases h1 : decide (w.size = 2) && (cntK (bt w 0) (bt w 1 - 48)).2.2
  · rw [h1] at h; cases h
  · rw [h1] at h
    simp only [cond_true, Option.some.injEq, Prod.mk.injEq] at h
    simp only [Bool.and_eq_true] at h1
    have := cnt_range h1.2
    omega
def ctI : List ByteArray → Int → Int → Int → Option (Int × Int)
  | [], s, c, _ => some (s, c)
  | w :: ws, s, c, r => match stepK w with
    | none => none
    | some (a, b, n) => if 5 < r + n then none else ctI ws (w64 (s + a)) (w64 (c * b)) (r + n)
def ctS : Nat → List ByteArray → Int → Int → Int → Option (Int × Int × Int)
  | 0, _, s, c, r => some (s, c, r)
  | _ + 1, [], s, c, r => some (s, c, r)
  | k + 1, w :: ws, s, c, r => match stepK w with
    | none => none
    | some (a, b, n) => ctS k ws (w64 (s + a)) (w64 (c * b)) (r + n)
def endS : Option (Int × Int × Int) → Option (Int × Int)
  | some (s, c, r) => if 5 < r then none else some (s, c)
  | none => none
theorem ctS_big : ∀ (k : Nat) (ws : List ByteArray) (s c r : Int), 5 < r → endS (ctS k ws s c r) = none
  | 0, ws, s, c, r, h => by simp [ctS, endS, h]
  | k + 1, [], s, c, r, h => by simp [ctS, endS, h]
  | k + 1, w :: ws, s, c, r, h => by
    rw [ctS]
    cases hs : stepK w with
    | none => rfl
    | some q =>
      obtain ⟨a, b, n⟩ := q
      have := step_range hs
      exact ctS_big k ws _ _ _ (by omega)
theorem ct_same : ∀ (k : Nat) (ws : List ByteArray) (s c r : Int), r ≤ 5 → 6 ≤ r + k → ctI ws s c r = endS (ctS k ws s c r)
  | 0, ws, s, c, r, h1, h2 => by omega
  | k + 1, [], s, c, r, h1, h2 => by
    have : ¬ 5 < r := by omega
    simp [ctS, ctI, endS, this]
  | k + 1, w :: ws, s, c, r, h1, h2 => by
    rw [ctS, ctI]
    cases hs : stepK w with
    | none => rfl
    | some q =>
      obtain ⟨a, b, n⟩ := q
      have := step_range hs
      simp only
      by_cases h : 5 < r + n
      · rw [if_pos h, ctS_big k ws _ _ _ h]
      · rw [if_neg h]
        exact ct_same k ws _ _ _ (by omega) (by omega)
theorem ctS_rank : ∀ (k : Nat) (ws : List ByteArray) (s c r : Int) {q : Int × Int × Int}, ctS k ws s c r = some q → q.2.2 ≤ r + 5 * k
  | 0, ws, s, c, r, q, h => by
    injection h with h
    subst h
    show r ≤ _
    omega
  | k + 1, [], s, c, r, q, h => by
    injection h with h
    subst h
    show r ≤ _
    omega
  | k + 1, w :: ws, s, c, r, q, h => by
    rw [ctS] at h
    cases hs : stepK w with
    | none => rw [hs] at h; cases h
    | some p =>
      obtain ⟨a, b, n⟩ := p
      rw [hs] at h
      have := step_range hs
      have := ctS_rank k ws _ _ _ h
      omega
def ansK : Option (Int × Int) → Int × Int × Bool
  | some (s, c) => (s, c, true)
  | none => (0, 0, false)
end Go.Fw
namespace Go.Fw
def prtB (s : ByteArray) : List ByteArray := (partsK (fun b => b == 32) s.data.toList).map baOf
theorem prt_int (s : ByteArray) : (partsK (fun b => decide ((b.toNat : Int) = 32)) s.data.toList).map baOf = prtB s := by
  have e : (fun b : UInt8 => decide ((b.toNat : Int) = 32)) = fun b => b == 32 := by
    funext b
    rw [Bool.eq_iff_iff, decide_eq_true_eq, beq_iff_eq]
    constructor
    · intro h
      exact UInt8.toNat_inj.1 (by rw [show (32 : UInt8).toNat = 32 from rfl]; omega)
    · intro h
      subst h
      rfl
  unfold prtB
  rw [e]
theorem bt_range (s : ByteArray) (i : Int) : 0 ≤ bt s i ∧ bt s i < 256 := by
  unfold bt
  have := UInt8.toNat_lt (s.data.getD i.toNat 0)
  omega
theorem prt_len (s : ByteArray) : (prtB s).length ≤ s.size + 1 := by
  unfold prtB
  rw [List.length_map, Lib.size_eq]
  exact parts_len _ _
theorem step_none {w : ByteArray} (h : w.size ≠ 2 ∨ bt w 1 < 49 ∨ 53 < bt w 1) : stepK w = none := by
  unfold stepK
  cases h1 : decide (w.size = 2) && (cntK (bt w 0) (bt w 1 - 48)).2.2
  · rfl
  · simp only [Bool.and_eq_true, decide_eq_true_eq] at h1
    have := cnt_range h1.2
    omega
end Go.Fw
set_option linter.unusedSimpArgs false
namespace Go.Fw
def digB (c : UInt8) : Bool := decide (48 ≤ c.toNat) && decide (c.toNat ≤ 57)
def dstep (a : Nat) (c : UInt8) : Nat := 10 * a + (c.toNat - 48)
def valD (a : Nat) (l : List UInt8) : Nat := l.foldl dstep a
theorem valD_nil (a : Nat) : valD a [] = a := rfl
theorem valD_cons (a : Nat) (c : UInt8) (l : List UInt8) : valD a (c :: l) = valD (dstep a c) l := by
  unfold valD
  rw [List.foldl_cons]
theorem valD_app (l m : List UInt8) (a : Nat) : valD a (l ++ m) = valD (valD a l) m := by
  unfold valD
  rw [List.foldl_append]
theorem dstep_eq (a : Nat) (c : UInt8) : dstep a c = 10 * a + (c.toNat - 48) := by unfold dstep; rfl
theorem valD_lt : ∀ (l : List UInt8) (a : Nat), l.all digB = true → valD a l < (a + 1) * 10 ^ l.length := by
  intro l
  induction l with
  | nil => intro a _; rw [valD_nil]; simp
  | cons c l ih =>
    intro a h
    rw [List.all_cons, Bool.and_eq_true] at h
    have hc := h.1
    simp only [digB, Bool.and_eq_true, decide_eq_true_eq] at hc
    have := ih (dstep a c) h.2
    have hs := dstep_eq a c
    rw [valD_cons, List.length_cons, Nat.pow_succ]
    refine Nat.lt_of_lt_of_le this ?_
    rw [Nat.mul_comm (10 ^ l.length) 10, ← Nat.mul_assoc]
    exact Nat.mul_le_mul_right _ (by omega)
theorem valD_ge : ∀ (l : List UInt8) (a : Nat), a ≤ valD a l := by
  intro l
  induction l with
  | nil => intro a; rw [valD_nil]; exact Nat.le_refl _
  | cons c l ih =>
    intro a
    have := ih (dstep a c)
    have hs := dstep_eq a c
    rw [valD_cons]
    omega
theorem uint_ok : ∀ (l : List UInt8) (a : Nat), l.all digB = true → valD a l < 1000000000000000000 → Lib.parseUint10 a l = .ok (valD a l) := by
  intro l
  induction l with
  | nil => intro a _ _; rw [valD_nil]; rfl
  | cons c l ih =>
    intro a h hv
    rw [List.all_cons, Bool.and_eq_true] at h
    have hc := h.1
    simp only [digB, Bool.and_eq_true, decide_eq_true_eq] at hc
    rw [valD_cons] at hv ⊢
    have hge := valD_ge l (dstep a c)
    have hs := dstep_eq a c
    have e : a * 10 + (c.toNat - 48) = dstep a c := by omega
    rw [Lib.parseUint10, if_pos hc, if_neg (by omega), if_neg (by omega), e]
    exact ih _ h.2 hv
theorem dec_all (u : Nat) : (Lib.decDigits u).all digB = true := by
  induction u using Nat.strongRecOn with
  | _ u ih =>
    have key : ∀ t, t < 10 → digB (UInt8.ofNat (48 + t)) = true := fun t ht => by
      have : (UInt8.ofNat (48 + t)).toNat = 48 + t := by rw [UInt8.toNat_ofNat']; omega
      simp only [digB, this, Bool.and_eq_true, decide_eq_true_eq]
      omega
    rw [Lib.decDigits]
    split
    · rename_i h
      rw [List.all_cons, key u h]
      rfl
    · rename_i h
      rw [List.all_append, ih (u / 10) (by omega), List.all_cons, key (u % 10) (by omega)]
      rfl
theorem dec_val (u : Nat) : valD 0 (Lib.decDigits u) = u := by
  induction u using Nat.strongRecOn with
  | _ u ih =>
    have key : ∀ t, t < 10 → (UInt8.ofNat (48 + t)).toNat - 48 = t := fun t ht => by
      have : (UInt8.ofNat (48 + t)).toNat = 48 + t := by rw [UInt8.toNat_ofNat']; omega
      omega
    rw [Lib.decDigits]
    split
    · rename_i h
      rw [valD_cons, dstep_eq, key u h, valD_nil]
      omega
    · rename_i h
      rw [valD_app, ih (u / 10) (by omega), valD_cons, dstep_eq, key (u % 10) (by omega), valD_nil]
      omega
theorem dec_ne (u : Nat) : Lib.decDigits u ≠ [] := by
  rw [Lib.decDigits]
  split <;> simp
theorem dec_len : ∀ (k u : Nat), u < 10 ^ k → 1 ≤ k → (Lib.decDigits u).length ≤ k
  | 0, _, _, h => by omega
  | k + 1, u, h, _ => by
    rw [Lib.decDigits]
    split
    · simp
    · rename_i hs
      have hk : 1 ≤ k := by
        rcases Nat.eq_zero_or_pos k with h' | h'
        · subst h'; omega
        · exact h'
      have := dec_len k (u / 10) (by rw [Nat.div_lt_iff_lt_mul (by omega), ← Nat.pow_succ]; exact h) hk
      simp
      omega
theorem join_parts : ∀ l : List UInt8, Lib.join (partsK (fun b => b == 32) l) [32] = l
  | [] => rfl
  | b :: l => by
    have ih := join_parts l
    have hne := parts_ne (fun b => b == 32) l
    rw [partsK]
    by_cases h : (b == 32) = true
    · rw [if_pos h, Lib.join_cons]
      cases hq : partsK (fun b => b == 32) l with
      | nil => exact absurd hq hne
      | cons x xs =>
        rw [hq, Lib.join_cons] at ih
        have hb : b = 32 := beq_iff_eq.1 h
        subst hb
        simp only [Lib.joinTail, List.map_cons, List.flatten_cons, List.nil_append, List.singleton_append, List.cons_append] at ih ⊢
        rw [ih]
    · rw [if_neg h]
      cases hq : partsK (fun b => b == 32) l with
      | nil => exact absurd hq hne
      | cons x xs =>
        rw [hq, Lib.join_cons] at ih
        simp only
        rw [Lib.join_cons, List.cons_append, ih]
theorem parts_app {p : UInt8 → Bool} : ∀ (x l : List UInt8), (∀ b ∈ x, p b = false) → partsK p (x ++ l) = glue x (partsK p l)
  | [], l, _ => (glue_nil (parts_ne p l)).symm
  | b :: x, l, h => by
    have ih := parts_app x l fun c hc => h c (List.mem_cons_of_mem _ hc)
    rw [List.cons_append, partsK, if_neg (by rw [h b (List.mem_cons_self ..)]; simp), ih]
    have hne := parts_ne p l
    cases hq : partsK p l with
    | nil => exact absurd hq hne
    | cons y ys => rfl
theorem parts_join : ∀ (xs : List (List UInt8)), xs ≠ [] → (∀ x ∈ xs, ∀ b ∈ x, (b == (32 : UInt8)) = false) → partsK (fun b => b == 32) (Lib.join xs [32]) = xs
  | [], h, _ => absurd rfl h
  | [x], _, h => by
    rw [Lib.join_one]
    have := parts_app (p := fun b => b == 32) x [] (h x (List.mem_cons_self ..))
    rw [List.append_nil] at this
    rw [this]
    simp [partsK, glue]
  | x :: y :: ys, _, h => by
    have ih := parts_join (y :: ys) (by simp) fun z hz => h z (List.mem_cons_of_mem _ hz)
    have e : Lib.join (x :: y :: ys) [32] = x ++ (32 :: Lib.join (y :: ys) [32]) := by
      rw [Lib.join_cons, Lib.join_cons]
      simp [Lib.joinTail]
    rw [e, parts_app _ _ (h x (List.mem_cons_self ..)), glue_sep (by rfl), ih]
theorem itoa_no32 (n : Int) : ∀ b ∈ Lib.itoa n, (b == (32 : UInt8)) = false := by
  have key : ∀ u, ∀ b ∈ Lib.decDigits u, (b == (32 : UInt8)) = false := fun u b hb => by
    have := List.all_eq_true.1 (dec_all u) b hb
    simp only [digB, Bool.and_eq_true, decide_eq_true_eq] at this
    rw [beq_eq_false_iff_ne]
    intro e
    subst e
    have : (32 : UInt8).toNat = 32 := rfl
    omega
  intro b hb
  unfold Lib.itoa at hb
  split at hb
  · rcases List.mem_cons.1 hb with rfl | hb
    · rfl
    · exact key _ b hb
  · exact key _ b hb
def signN (l : List UInt8) : Nat := match l with
  | c :: _ => if c = 45 then 1 else 0
  | [] => 0
noncomputable def numK (s : ByteArray) : Int × Bool :=
  if (s.data.toList.drop (signN s.data.toList)).length = 0 ∨ 9 < (s.data.toList.drop (signN s.data.toList)).length then (0, false)
  else if (s.data.toList.drop (signN s.data.toList)).all digB = true then
    (if signN s.data.toList = 1 then -(valD 0 (s.data.toList.drop (signN s.data.toList)) : Int) else (valD 0 (s.data.toList.drop (signN s.data.toList)) : Int),
     strEq (itoaB (if signN s.data.toList = 1 then -(valD 0 (s.data.toList.drop (signN s.data.toList)) : Int) else (valD 0 (s.data.toList.drop (signN s.data.toList)) : Int))) s)
  else (0, false)
theorem strEq_iff {a b : ByteArray} : strEq a b = true ↔ a = b := by
  unfold strEq
  rw [beq_iff_eq, ByteArray.toList_eq, ByteArray.toList_eq]
  constructor
  · intro h
    apply ByteArray.ext
    exact Array.toList_inj.1 h
  · intro h
    rw [h]
def partI (w : ByteArray) : Option Int := if (atoiW w).2 = true then none else if 10 < w.size then none else if inK (atoiW w).1 (-999999999) 999999999 = true then some (atoiW w).1 else none
noncomputable def partS (w : ByteArray) : Option Int := if (numK w).2 = true then some (numK w).1 else none
theorem part_SI {w : ByteArray} {n : Int} (h : partS w = some n) : partI w = some n ∧ w = itoaB n := by
  unfold partS at h
  split at h
  · rename_i h2
    injection h with h
    unfold numK at h h2
    split at h2
    · cases h2
    rename_i hlen
    rw [if_neg hlen] at h
    split at h2
    · rename_i hall
      rw [if_pos hall] at h
      simp only at h h2
      have hw := strEq_iff.1 h2
      rw [h] at hw
      have hlt := valD_lt _ 0 hall
      have h9 : (10 : Nat) ^ (w.data.toList.drop (signN w.data.toList)).length ≤ 10 ^ 9 := Nat.pow_le_pow_right (by omega) (by omega)
      have h9' : (10 : Nat) ^ 9 = 1000000000 := by decide
      rw [Nat.zero_add, Nat.one_mul] at hlt
      have hu := uint_ok _ 0 hall (by omega)
      have hsz := Lib.size_eq w
      refine ⟨?_, hw.symm⟩
      have hat : atoiW w = (n, false) := by
        unfold atoiW
        cases hL : w.data.toList with
        | nil => rw [hL] at hlen; simp [signN] at hlen
        | cons c r =>
          rw [hL] at hall hlen hlt hu h h9
          by_cases hc : c = 45
          · subst hc
            have hs : signN (45 :: r) = 1 := rfl
            rw [hs] at hall hlen hlt hu h h9
            rw [if_pos rfl] at h
            simp only [List.drop_succ_cons, List.drop_zero] at hall hlen hlt hu h h9
            have hm : Lib.parseMag r = .ok (valD 0 r) := by
              unfold Lib.parseMag
              rw [if_neg (fun e => by rw [e] at hlen; simp at hlen), hu]
            have e45 : (45 : UInt8).toNat = 45 := rfl
            simp only [Lib.atoiAll, e45, or_true, if_true, hm, not_true, false_and, if_false, true_and]
            rw [if_neg (show ¬ 9223372036854775808 < valD 0 r by have := hlt; have := h9; omega), h]
          · have hs : signN (c :: r) = 0 := by simp [signN, hc]
            rw [hs] at hall hlen hlt hu h h9
            rw [if_neg (by omega)] at h
            rw [List.drop_zero] at hall hlen hlt hu h h9
            have hd : digB c = true := by
              rw [List.all_cons, Bool.and_eq_true] at hall
              exact hall.1
            simp only [digB, Bool.and_eq_true, decide_eq_true_eq] at hd
            have hm : Lib.parseMag (c :: r) = .ok (valD 0 (c :: r)) := by
              unfold Lib.parseMag
              rw [if_neg (by simp), hu]
            have h43 : ¬ c.toNat = 43 := by omega
            have h45 : ¬ c.toNat = 45 := by omega
            simp only [Lib.atoiAll, h43, h45, or_self, if_false, hm, not_false_eq_true, true_and, false_and]
            rw [if_neg (show ¬ 9223372036854775808 ≤ valD 0 (c :: r) by omega)]
            rw [h]
      have hsg : signN w.data.toList ≤ 1 := by
        unfold signN
        split
        · split <;> omega
        · omega
      have hwl : w.size ≤ 10 := by
        rw [hsz]
        rw [List.length_drop] at hlen
        omega
      have hin : inK n (-999999999) 999999999 = true := by
        rw [inK_iff]
        split at h <;> omega
      unfold partI
      rw [hat, if_neg (by simp), if_neg (by omega), if_pos hin]
    · cases h2
  · cases h
theorem num_can {w : ByteArray} {n : Int} (hin : inK n (-999999999) 999999999 = true) (hw : w = itoaB n) : numK w = (n, true) := by
  rw [inK_iff] at hin
  have hd : w.data.toList = Lib.itoa n := by rw [hw, itoaB_data]
  have hu : n.natAbs < 10 ^ 9 := by
    have h9' : (10 : Nat) ^ 9 = 1000000000 := by decide
    omega
  have hl := dec_len 9 n.natAbs hu (by omega)
  have hne : (Lib.decDigits n.natAbs).length ≠ 0 := fun e => dec_ne _ (List.length_eq_zero_iff.1 e)
  have hall := dec_all n.natAbs
  have hval := dec_val n.natAbs
  by_cases hneg : n < 0
  · have e : Lib.itoa n = 45 :: Lib.decDigits n.natAbs := by unfold Lib.itoa; rw [if_pos hneg]
    have hs : signN w.data.toList = 1 := by rw [hd, e]; rfl
    have hdr : w.data.toList.drop 1 = Lib.decDigits n.natAbs := by rw [hd, e]; rfl
    have hv : -((n.natAbs : Nat) : Int) = n := by omega
    unfold numK
    rw [hs, hdr, if_neg (by omega), if_pos hall, if_pos rfl, hval, hv, strEq_iff.2 hw.symm]
  · have e : Lib.itoa n = Lib.decDigits n.natAbs := by unfold Lib.itoa; rw [if_neg hneg, show n.toNat = n.natAbs by omega]
    have hs : signN w.data.toList = 0 := by
      rw [hd, e]
      unfold signN
      split
      · rename_i c r hc
        rw [hc, List.all_cons, Bool.and_eq_true] at hall
        have h1 := hall.1
        simp only [digB, Bool.and_eq_true, decide_eq_true_eq] at h1
        rw [if_neg]
        intro e45
        subst e45
        have : (45 : UInt8).toNat = 45 := rfl
        omega
      · rfl
    have hdr : w.data.toList.drop 0 = Lib.decDigits n.natAbs := by rw [hd, e]; rfl
    have hv : ((n.natAbs : Nat) : Int) = n := by omega
    unfold numK
    rw [hs, hdr, if_neg (by omega), if_pos hall, if_neg (by omega), hval, hv, strEq_iff.2 hw.symm]
theorem part_can {n : Int} (hin : inK n (-999999999) 999999999 = true) : partS (itoaB n) = some n := by
  unfold partS
  rw [num_can hin rfl, if_pos rfl]
theorem part_IS {w : ByteArray} {n : Int} (h : partI w = some n) (hw : w = itoaB n) : partS w = some n := by
  have hin : inK n (-999999999) 999999999 = true := by
    unfold partI at h
    split at h
    · cases h
    · split at h
      · cases h
      · split at h
        · rename_i h3
          injection h with h
          rw [h] at h3
          exact h3
        · cases h
  have hnum := num_can hin hw
  unfold partS
  rw [hnum, if_pos rfl]
def allP (f : ByteArray → Option Int) : List ByteArray → Option (List Int)
  | [] => some []
  | w :: ws => match f w with
    | none => none
    | some n => match allP f ws with
      | none => none
      | some l => some (n :: l)
noncomputable def parseS (s : ByteArray) : List Int × Bool := if strEq s ByteArray.empty = true then ([], true) else match allP partS (prtB s) with
  | none => ([], false)
  | some l => (l, true)
noncomputable def parseI (s : ByteArray) : List Int × Bool := if strEq s ByteArray.empty = true then ([], true) else match allP partI (prtB s) with
  | none => ([], false)
  | some l => if strEq (itoasB l) s = true then (l, true) else ([], false)
theorem allP_SI : ∀ {ws : List ByteArray} {l : List Int}, allP partS ws = some l → allP partI ws = some l ∧ ws = l.map itoaB
  | [], l, h => by
    injection h with h
    subst h
    exact ⟨rfl, rfl⟩
  | w :: ws, l, h => by
    rw [allP] at h
    cases hw : partS w with
    | none => rw [hw] at h; cases h
    | some n =>
      rw [hw] at h
      cases hr : allP partS ws with
      | none => rw [hr] at h; cases h
      | some m =>
        rw [hr] at h
        injection h with h
        subst h
        obtain ⟨a, b⟩ := part_SI hw
        obtain ⟨c, d⟩ := allP_SI hr
        rw [allP, a, c]
        exact ⟨rfl, by rw [List.map_cons, ← b, ← d]⟩
theorem allP_IS : ∀ {ws : List ByteArray} {l : List Int}, allP partI ws = some l → ws = l.map itoaB → allP partS ws = some l
  | [], l, h, _ => by
    injection h with h
    subst h
    rfl
  | w :: ws, l, h, hm => by
    rw [allP] at h
    cases hw : partI w with
    | none => rw [hw] at h; cases h
    | some n =>
      rw [hw] at h
      cases hr : allP partI ws with
      | none => rw [hr] at h; cases h
      | some m =>
        rw [hr] at h
        injection h with h
        subst h
        rw [List.map_cons, List.cons.injEq] at hm
        rw [allP, part_IS hw hm.1, allP_IS hr hm.2]
theorem prt_join (s : ByteArray) : Lib.join ((prtB s).map (·.data.toList)) [32] = s.data.toList := by
  unfold prtB
  rw [List.map_map]
  have : ((·.data.toList) ∘ baOf) = (id : List UInt8 → List UInt8) := by
    funext l
    simp [baOf]
  rw [this, List.map_id]
  exact join_parts _
theorem parse_same (s : ByteArray) : parseI s = parseS s := by
  unfold parseI parseS
  split
  · rfl
  cases hS : allP partS (prtB s) with
  | some l =>
    obtain ⟨hI, hm⟩ := allP_SI hS
    rw [hI]
    have hj := prt_join s
    have e1 : (l.map itoaB).map (·.data.toList) = l.map Lib.itoa := by
      rw [List.map_map]
      exact List.map_congr_left fun n _ => itoaB_data n
    rw [hm, e1] at hj
    have e2 : itoasB l = s := by
      apply ByteArray.ext
      apply Array.toList_inj.1
      rw [← hj]
      simp [itoasB, itoasL]
    simp only
    rw [if_pos (strEq_iff.2 e2)]
  | none =>
    cases hI : allP partI (prtB s) with
    | none => rfl
    | some l =>
      simp only
      split
      · rename_i he
        have e2 := strEq_iff.1 he
        have hl : l ≠ [] := fun h0 => by
          subst h0
          have := congrArg List.length (show prtB s = [] by
            cases hq : prtB s with
            | nil => rfl
            | cons w ws =>
              rw [hq, allP] at hI
              split at hI
              · cases hI
              · split at hI <;> cases hI)
          have h3 := parts_ne (fun b => b == (32 : UInt8)) s.data.toList
          unfold prtB at this
          rw [List.length_map, List.length_nil] at this
          exact h3 (List.length_eq_zero_iff.1 this)
        have hd : s.data.toList = Lib.join (l.map Lib.itoa) [32] := by
          rw [← e2]
          simp [itoasB, itoasL]
        have hp := parts_join (l.map Lib.itoa) (by simpa using hl) fun x hx => by
          obtain ⟨n, _, rfl⟩ := List.mem_map.1 hx
          exact itoa_no32 n
        have hws : prtB s = l.map itoaB := by
          unfold prtB
          rw [hd, hp, List.map_map]
          rfl
        rw [allP_IS hI hws] at hS
        cases hS
      · rfl
end Go.Fw
namespace Go.Fw
theorem parts_size (p : UInt8 → Bool) : ∀ l, ∀ x ∈ partsK p l, x.length ≤ l.length
  | [], x, hx => by
    simp [partsK] at hx
    subst hx
    simp
  | b :: l, x, hx => by
    have ih := parts_size p l
    have hne := parts_ne p l
    rw [partsK] at hx
    split at hx
    · rcases List.mem_cons.1 hx with rfl | hx
      · simp
      · have := ih x hx
        rw [List.length_cons]
        omega
    · cases hq : partsK p l with
      | nil => exact absurd hq hne
      | cons y ys =>
        rw [hq] at hx ih
        rcases List.mem_cons.1 hx with rfl | hx
        · have := ih y (List.mem_cons_self ..)
          rw [List.length_cons, List.length_cons]
          omega
        · have := ih x (List.mem_cons_of_mem _ hx)
          rw [List.length_cons]
          omega
theorem prt_size (s : ByteArray) : ∀ w ∈ prtB s, w.size ≤ s.size := by
  intro w hw
  unfold prtB at hw
  obtain ⟨l, hl, rfl⟩ := List.mem_map.1 hw
  have := parts_size _ _ l hl
  rw [Lib.size_eq s]
  have e : (baOf l).size = l.length := by simp [baOf, ByteArray.size]
  omega
theorem partI_range {w : ByteArray} {n : Int} (h : partI w = some n) : i64P n = true := by
  unfold partI at h
  split at h
  · cases h
  · split at h
    · cases h
    · split at h
      · rename_i h3
        injection h with h
        rw [h, inK_iff] at h3
        simp only [i64P, Bool.and_eq_true, decide_eq_true_eq]
        omega
      · cases h
end Go.Fw
namespace Go.Fw
noncomputable def termT (t : List Int × Int) : List UInt8 := Lib.itoa t.2 ++ [58] ++ itoasL t.1
noncomputable def termsT (f : Int × List (List Int × Int)) : List (List UInt8) := f.2.map termT
noncomputable def headT (f : Int × List (List Int × Int)) : List UInt8 := Lib.itoa f.1 ++ [124]
noncomputable def fmtL (f : Int × List (List Int × Int)) : ByteArray := txt (headT f ++ (if f.2.length = 0 then [48] else Lib.join (termsT f) [44, 32]))
theorem terms_all (v : Int) : ∀ (l : List (List Int × Int)) (p : Option (List Int)), termsK v l p = true → ∀ t ∈ l, expK v t.1 = true ∧ coefK t.2 = true
  | [], _, _, t, ht => by cases ht
  | x :: xs, p, h, t, ht => by
    simp only [termsK, Bool.and_eq_true] at h
    rcases List.mem_cons.1 ht with rfl | ht
    · exact ⟨h.1, h.2.1⟩
    · exact terms_all v xs _ h.2.2.2 t ht
theorem inK_iff' {n lo hi : Int} : inK n lo hi = true ↔ lo ≤ n ∧ n ≤ hi := by simp [inK]
structure LFacts (f : Int × List (List Int × Int)) : Prop where
  v : 1 ≤ f.1 ∧ f.1 ≤ 8
  n : f.2.length ≤ 600
  c : ∀ t ∈ f.2, i64P t.2 = true
  e : ∀ t ∈ f.2, rowP t.1 = true
  l : ∀ t ∈ f.2, (termT t).length ≤ 250
theorem i64_of {n : Int} (h1 : -2000000000 ≤ n) (h2 : n ≤ 2000000000) : i64P n = true := by
  simp only [i64P, Bool.and_eq_true, decide_eq_true_eq]
  omega
theorem itoa_short {n : Int} (h : i64P n = true) : (Lib.itoa n).length ≤ 21 := by
  simp only [i64P, Bool.and_eq_true, decide_eq_true_eq] at h
  exact Lib.itoa_length_le n h.1 h.2
theorem lfacts {f : Int × List (List Int × Int)} (h : lokK f = true) : LFacts f := by
  simp only [lokK, Bool.and_eq_true, decide_eq_true_eq, inK_iff'] at h
  obtain ⟨h1, h2, h3⟩ := h
  have ht := terms_all _ _ _ h3
  have hc : ∀ t ∈ f.2, i64P t.2 = true := fun t m => by
    have := (ht t m).2
    simp only [coefK, Bool.and_eq_true, inK_iff'] at this
    exact i64_of (by omega) (by omega)
  have hr : ∀ t ∈ f.2, rowP t.1 = true ∧ t.1.length ≤ 8 := fun t m => by
    have := (ht t m).1
    simp only [expK, Bool.and_eq_true, decide_eq_true_eq] at this
    refine ⟨?_, by omega⟩
    simp only [rowP, Bool.and_eq_true, decide_eq_true_eq]
    refine ⟨by omega, List.all_eq_true.2 fun x hx => ?_⟩
    have := inK_iff'.1 (List.all_eq_true.1 this.2 x hx)
    exact i64_of (by omega) (by omega)
  refine ⟨h1, h2, hc, fun t m => (hr t m).1, fun t m => ?_⟩
  have a := itoa_short (hc t m)
  have b := (hr t m).1
  simp only [rowP, Bool.and_eq_true] at b
  have b := itoas_len b.2
  have c := (hr t m).2
  unfold termT
  simp only [List.length_append, List.length_cons, List.length_nil]
  omega
theorem termsT_len (f : Int × List (List Int × Int)) : (termsT f).length = f.2.length := by simp [termsT]
theorem termsT_get {f : Int × List (List Int × Int)} {j : Nat} (h : j < f.2.length) : (termsT f).getD j [] = termT (f.2.getD j ([], 0)) := by
  unfold termsT
  rw [List.getD_eq_getElem?_getD, List.getElem?_map, List.getElem?_eq_getElem h, List.getD_eq_getElem?_getD, List.getElem?_eq_getElem h]
  rfl
theorem partL_len {f : Int × List (List Int × Int)} (h : LFacts f) (j : Nat) : (Lib.join ((termsT f).take j) [44, 32]).length ≤ 252 * 600 := by
  have := join_len (B := 250) (sep := [44, 32]) (xs := (termsT f).take j) fun x hx => by
    obtain ⟨t, ht, rfl⟩ := List.mem_map.1 (List.mem_of_mem_take hx)
    exact h.l t ht
  have h2 : (250 + ([44, 32] : List UInt8).length) * ((termsT f).take j).length ≤ 252 * 600 := Nat.mul_le_mul (by simp) (by rw [List.length_take, termsT_len]; have := h.n; omega)
  omega
theorem headT_len {f : Int × List (List Int × Int)} (h : LFacts f) : (headT f).length ≤ 22 := by
  have := itoa_short (i64_of (n := f.1) (by have := h.v; omega) (by have := h.v; omega))
  unfold headT
  simp only [List.length_append, List.length_cons, List.length_nil]
  omega
end Go.Fw
namespace Go.Fw
def rowD (m : Int × Int × List Int) (i : Nat) : List Int := (m.2.2.drop (i * m.1.toNat)).take m.1.toNat
noncomputable def rowsT (m : Int × Int × List Int) : List (List UInt8) := (List.range m.2.1.toNat).map fun i => itoasL (rowD m i)
noncomputable def fmtM (m : Int × Int × List Int) : ByteArray := txt (Lib.join (rowsT m) [59, 32])
theorem rowD_ok {m : Int × Int × List Int} (h : shapedK m = true) (i : Nat) : rowP (rowD m i) = true := by
  simp only [shapedK, Bool.and_eq_true] at h
  obtain ⟨n, r, hn, hr, hn1, hn5, hnr, hr8, hl⟩ := dim_nat h.1
  simp only [rowP, Bool.and_eq_true, decide_eq_true_eq]
  refine ⟨?_, ?_⟩
  · unfold rowD
    rw [List.length_take]
    omega
  · rw [List.all_eq_true]
    intro x hx
    have hx2 := List.mem_of_mem_drop (List.mem_of_mem_take hx)
    have := inK_iff.1 ((List.all_eq_true.1 h.2) x hx2)
    simp only [i64P, Bool.and_eq_true, decide_eq_true_eq]
    omega
theorem rowD_len {m : Int × Int × List Int} (h : shapedK m = true) (i : Nat) : (itoasL (rowD m i)).length ≤ 110 := by
  have h1 := rowD_ok h i
  simp only [rowP, Bool.and_eq_true] at h1
  have := itoas_len h1.2
  simp only [shapedK, Bool.and_eq_true] at h
  obtain ⟨n, r, hn, hr, hn1, hn5, hnr, hr8, hl⟩ := dim_nat h.1
  have : (rowD m i).length ≤ 5 := by
    unfold rowD
    rw [List.length_take]
    omega
  omega
theorem rowsT_len (m : Int × Int × List Int) : (rowsT m).length = m.2.1.toNat := by simp [rowsT]
theorem rowsT_get {m : Int × Int × List Int} {j : Nat} (h : j < m.2.1.toNat) : (rowsT m).getD j [] = itoasL (rowD m j) := by
  unfold rowsT
  rw [List.getD_eq_getElem?_getD, List.getElem?_map, List.getElem?_range h]
  rfl
theorem part_len {m : Int × Int × List Int} (h : shapedK m = true) (j : Nat) : (Lib.join ((rowsT m).take j) [59, 32]).length ≤ 112 * j := by
  have := join_len (B := 110) (sep := [59, 32]) (xs := (rowsT m).take j) fun x hx => by
    obtain ⟨i, _, rfl⟩ := List.mem_map.1 (List.mem_of_mem_take hx)
    exact rowD_len h i
  rw [List.length_take] at this
  have h2 : (110 + ([59, 32] : List UInt8).length) * min j (rowsT m).length ≤ 112 * j := Nat.mul_le_mul (by simp) (Nat.min_le_left _ _)
  omega
end Go.Fw
namespace Go.Fw
theorem idx_hit (x t : List UInt8) (hx : ∀ b ∈ x, b ≠ 59) : Lib.index (x ++ 59 :: 32 :: t) [59, 32] = x.length := by
  refine Lib.index_first (by simp) (by simp [Lib.occAt, List.isPrefixOf]) fun j hj => ?_
  have hlt : j < (x ++ 59 :: 32 :: t).length := by simp; omega
  unfold Lib.occAt
  rw [List.drop_eq_getElem_cons hlt, List.getElem_append_left hj]
  have := hx x[j] (List.getElem_mem hj)
  simp [List.isPrefixOf]
  intro e
  exact absurd e.symm this
theorem idx_miss (x : List UInt8) (hx : ∀ b ∈ x, b ≠ 59) : Lib.index x [59, 32] = -1 := by
  refine Lib.index_none fun j hj => ?_
  unfold Lib.occAt
  by_cases h : j < x.length
  · rw [List.drop_eq_getElem_cons h]
    have := hx x[j] (List.getElem_mem h)
    simp [List.isPrefixOf]
    intro e
    exact absurd e.symm this
  · rw [List.drop_of_length_le (by omega)]
    rfl
theorem join2_cons (x y : List UInt8) (ys : List (List UInt8)) : Lib.join (x :: y :: ys) [59, 32] = x ++ 59 :: 32 :: Lib.join (y :: ys) [59, 32] := by
  rw [Lib.join_cons, Lib.join_cons]
  simp [Lib.joinTail]
theorem drop2 (x t : List UInt8) : (x ++ 59 :: 32 :: t).drop (x.length + 2) = t := by
  rw [List.drop_append, List.drop_of_length_le (by omega)]
  simp
theorem splitK2 : ∀ (rows : List (List UInt8)), rows ≠ [] → (∀ x ∈ rows, ∀ b ∈ x, b ≠ (59 : UInt8)) → Lib.splitK [59, 32] 0 (rows.length - 1) (Lib.join rows [59, 32]) = rows
  | [], h, _ => absurd rfl h
  | [x], _, _ => by
    rw [Lib.join_one]
    rfl
  | x :: y :: ys, _, h => by
    have ih := splitK2 (y :: ys) (by simp) fun z hz => h z (List.mem_cons_of_mem _ hz)
    have hx := h x (List.mem_cons_self ..)
    rw [join2_cons]
    have e : (x :: y :: ys).length - 1 = ((y :: ys).length - 1) + 1 := by simp
    rw [e, Lib.splitK, idx_hit x _ hx, if_neg (by simp)]
    have e2 : ((x.length : Nat) : Int).toNat = x.length := Int.toNat_natCast _
    rw [e2, Nat.add_zero, List.take_left, show x.length + ([59, 32] : List UInt8).length = x.length + 2 from rfl, drop2, ih]
theorem countF2 : ∀ (rows : List (List UInt8)) (fuel : Nat), rows ≠ [] → rows.length ≤ fuel → (∀ x ∈ rows, ∀ b ∈ x, b ≠ (59 : UInt8)) → Lib.countFrom [59, 32] fuel (Lib.join rows [59, 32]) = rows.length - 1
  | [], _, h, _, _ => absurd rfl h
  | [x], 0, _, hf, _ => by simp at hf
  | [x], fuel + 1, _, _, h => by
    rw [Lib.join_one, Lib.countFrom, idx_miss x (h x (List.mem_cons_self ..))]
    rfl
  | x :: y :: ys, 0, _, hf, _ => by simp at hf
  | x :: y :: ys, fuel + 1, _, hf, h => by
    have ih := countF2 (y :: ys) fuel (by simp) (by simp at hf ⊢; omega) fun z hz => h z (List.mem_cons_of_mem _ hz)
    rw [join2_cons, Lib.countFrom, idx_hit x _ (h x (List.mem_cons_self ..)), if_neg (by simp)]
    have e2 : ((x.length : Nat) : Int).toNat = x.length := Int.toNat_natCast _
    rw [e2, show x.length + ([59, 32] : List UInt8).length = x.length + 2 from rfl, drop2, ih]
    simp
    omega
theorem join_ge {rows : List (List UInt8)} : rows.length ≤ (Lib.join rows [59, 32]).length + 1 := by
  have : ∀ (rows : List (List UInt8)), rows ≠ [] → rows.length ≤ (Lib.join rows [59, 32]).length + 1 := by
    intro rows
    induction rows with
    | nil => intro h; exact absurd rfl h
    | cons x xs ih =>
      intro _
      cases xs with
      | nil => simp
      | cons y ys =>
        have := ih (by simp)
        rw [join2_cons]
        simp at this ⊢
        omega
  cases rows with
  | nil => simp
  | cons x xs => exact this _ (by simp)
theorem split_two {rows : List (List UInt8)} (h0 : rows ≠ []) (h : ∀ x ∈ rows, ∀ b ∈ x, b ≠ (59 : UInt8)) :
    Lib.splitB ⟨#[59, 32]⟩ 0 (Lib.countB (txt (Lib.join rows [59, 32])) ⟨#[59, 32]⟩) (txt (Lib.join rows [59, 32])) = rows.map txt := by
  have hd : (⟨#[59, 32]⟩ : ByteArray).data.toList = [59, 32] := rfl
  have hc : Lib.countB (txt (Lib.join rows [59, 32])) ⟨#[59, 32]⟩ = rows.length - 1 := by
    show Lib.count (txt (Lib.join rows [59, 32])).data.toList (⟨#[59, 32]⟩ : ByteArray).data.toList = _
    rw [txt_data, hd, Lib.count]
    exact countF2 rows _ h0 join_ge h
  have h2 := Lib.splitB_data ⟨#[59, 32]⟩ 0 (rows.length - 1) (txt (Lib.join rows [59, 32]))
  rw [txt_data, hd, splitK2 rows h0 h] at h2
  rw [hc]
  generalize Lib.splitB ⟨#[59, 32]⟩ 0 (rows.length - 1) (txt (Lib.join rows [59, 32])) = q at h2
  rw [← h2, List.map_map]
  have e : (txt ∘ fun x : ByteArray => x.data.toList) = id := by
    funext x
    simp [txt]
  rw [e, List.map_id]
end Go.Fw
namespace Go.Fw
theorem itoa_ne (n : Int) : Lib.itoa n ≠ [] := by
  unfold Lib.itoa
  split
  · simp
  · exact dec_ne _
theorem itoas_ne {row : List Int} (h : row ≠ []) : itoasL row ≠ [] := by
  cases row with
  | nil => exact absurd rfl h
  | cons x xs =>
    unfold itoasL
    rw [List.map_cons, Lib.join_cons]
    have := itoa_ne x
    simp [this]
theorem prt_row {row : List Int} (h : row ≠ []) : prtB (itoasB row) = row.map itoaB := by
  have hd : (itoasB row).data.toList = Lib.join (row.map Lib.itoa) [32] := by simp [itoasB, itoasL]
  unfold prtB
  rw [hd, parts_join (row.map Lib.itoa) (by simpa using h) fun x hx => by
    obtain ⟨n, _, rfl⟩ := List.mem_map.1 hx
    exact itoa_no32 n, List.map_map]
  rfl
theorem allP_can : ∀ {row : List Int}, (∀ n ∈ row, inK n (-999999999) 999999999 = true) → allP partS (row.map itoaB) = some row
  | [], _ => rfl
  | n :: ns, h => by
    rw [List.map_cons, allP, part_can (h n (List.mem_cons_self ..)), allP_can fun m hm => h m (List.mem_cons_of_mem _ hm)]
theorem parse_row {row : List Int} (h : row ≠ []) (hr : ∀ n ∈ row, inK n (-999999999) 999999999 = true) : parseS (itoasB row) = (row, true) := by
  unfold parseS
  rw [if_neg, prt_row h, allP_can hr]
  intro he
  have e := strEq_iff.1 he
  have := congrArg (fun b : ByteArray => b.data.toList) e
  simp [itoasB] at this
  exact itoas_ne h this
theorem itoas_no59 (row : List Int) : ∀ b ∈ itoasL row, b ≠ (59 : UInt8) := by
  have hd : ∀ u, ∀ b ∈ Lib.decDigits u, b ≠ (59 : UInt8) := fun u b hb e => by
    have := List.all_eq_true.1 (dec_all u) b hb
    simp only [digB, Bool.and_eq_true, decide_eq_true_eq] at this
    subst e
    have : (59 : UInt8).toNat = 59 := rfl
    omega
  have hi : ∀ n, ∀ b ∈ Lib.itoa n, b ≠ (59 : UInt8) := fun n b hb => by
    unfold Lib.itoa at hb
    split at hb
    · rcases List.mem_cons.1 hb with rfl | hb
      · decide
      · exact hd _ b hb
    · exact hd _ b hb
  intro b hb
  unfold itoasL at hb
  cases row with
  | nil => simp [Lib.join_nil] at hb
  | cons x xs =>
    rw [List.map_cons, Lib.join_cons] at hb
    rcases List.mem_append.1 hb with hb | hb
    · exact hi x b hb
    · unfold Lib.joinTail at hb
      obtain ⟨l, hl, hb⟩ := List.mem_flatten.1 hb
      obtain ⟨z, hz, rfl⟩ := List.mem_map.1 hl
      obtain ⟨n, _, rfl⟩ := List.mem_map.1 hz
      rcases List.mem_append.1 hb with hb | hb
      · simp at hb
        subst hb
        decide
      · exact hi n b hb
end Go.Fw
namespace Go.Fw
def gcdL : List Int → Nat
  | [] => 0
  | x :: xs => Nat.gcd x.natAbs (gcdL xs)
theorem gcdL_append (l m : List Int) : gcdL (l ++ m) = Nat.gcd (gcdL l) (gcdL m) := by
  induction l with
  | nil => simp [gcdL]
  | cons x xs ih => rw [List.cons_append, gcdL, ih, gcdL, Nat.gcd_assoc]
theorem gcdL_mul (c : Int) (l : List Int) : gcdL (l.map fun x => c * x) = c.natAbs * gcdL l := by
  induction l with
  | nil => simp [gcdL]
  | cons x xs ih => rw [List.map_cons, gcdL, ih, gcdL, Int.natAbs_mul, Nat.gcd_mul_left]
theorem gcdL_dvd {l : List Int} {x : Int} (h : x ∈ l) : ((gcdL l : Nat) : Int) ∣ x := by
  induction l with
  | nil => cases h
  | cons y ys ih =>
    rw [gcdL]
    rcases List.mem_cons.1 h with e | e
    · subst e; exact Int.ofNat_dvd_left.2 (Nat.gcd_dvd_left _ _)
    · exact Int.dvd_trans (Int.natCast_dvd_natCast.2 (Nat.gcd_dvd_right _ _)) (ih e)
def Good (n : Nat) (A : Nat → Nat → Int) (d : Nat → Int) : Prop := ∀ i, i < n → 0 < d i ∧ ∀ j, j < n → d i * A i j = -(d j * A j i)
def Prim (n : Nat) (A : Nat → Nat → Int) (d : Nat → Int) : Prop := ∀ i, i < n → ∃ L : List Nat, (∀ k ∈ L, k < n) ∧ gcdL (L.map d) = 1 ∧ ∀ e, Good n A e → ∀ k ∈ L, d i * e k = d k * e i
theorem prim_dvd {n : Nat} {A : Nat → Nat → Int} {d e : Nat → Int} (hd : Good n A d) (he : Good n A e) (pd : Prim n A d) {i : Nat} (hi : i < n) : d i ∣ e i := by
  obtain ⟨L, h1, h2, h3⟩ := pd i hi
  have h4 : (L.map d).map (fun x => e i * x) = (L.map e).map (fun x => d i * x) := by
    rw [List.map_map, List.map_map]
    apply List.map_congr_left
    intro k hk
    show e i * d k = d i * e k
    rw [h3 e he k hk, Int.mul_comm]
  have h5 : (e i).natAbs * 1 = (d i).natAbs * gcdL (L.map e) := by rw [← h2, ← gcdL_mul, ← gcdL_mul, h4]
  exact Int.natAbs_dvd_natAbs.1 ⟨gcdL (L.map e), by rw [← h5, Nat.mul_one]⟩
theorem good_one {n : Nat} {A : Nat → Nat → Int} {d e : Nat → Int} (hd : Good n A d) (he : Good n A e) (pd : Prim n A d) (pe : Prim n A e) {i : Nat} (hi : i < n) : d i = e i := by
  have h1 := prim_dvd hd he pd hi
  have h2 := prim_dvd he hd pe hi
  have := (hd i hi).1
  have := (he i hi).1
  exact Int.dvd_antisymm (by omega) (by omega) h1 h2
theorem good_zero {n : Nat} {A : Nat → Nat → Int} {e : Nat → Int} (he : Good n A e) {i j : Nat} (hi : i < n) (hj : j < n) (h : A i j = 0) : A j i = 0 := by
  have h1 := (he i hi).2 j hj
  rw [h, Int.mul_zero] at h1
  have h2 : e j * A j i = 0 := by omega
  rcases Int.mul_eq_zero.1 h2 with h3 | h3
  · have := (he j hj).1; omega
  · exact h3
theorem prop_edge {a b e f p q : Int} (he : 0 < e) (hf : 0 < f) (h : a * f = b * e) (hg : e * p = -(f * q)) : a * p = -(b * q) := by
  have h1 : f * (a * p) = f * (-(b * q)) := by
    calc f * (a * p) = (a * f) * p := by rw [← Int.mul_assoc, Int.mul_comm f a]
      _ = b * (e * p) := by rw [h, Int.mul_assoc]
      _ = f * (-(b * q)) := by rw [hg, Int.mul_neg, Int.mul_neg, Int.mul_left_comm]
  exact Int.eq_of_mul_eq_mul_left (by omega) h1
theorem prop_edge' {a b e f p q : Int} (hp : p ≠ 0) (he : 0 < e) (h : a * p = -(b * q)) (hg : e * p = -(f * q)) (hq : q ≠ 0) : a * f = b * e := by
  have h1 : q * (a * f) = q * (b * e) := by
    calc q * (a * f) = a * (f * q) := by rw [Int.mul_left_comm, Int.mul_comm q f]
      _ = a * -(e * p) := by rw [hg, Int.neg_neg]
      _ = e * (-(a * p)) := by rw [Int.mul_neg, Int.mul_neg, Int.mul_left_comm]
      _ = q * (b * e) := by rw [h, Int.neg_neg, Int.mul_left_comm, Int.mul_comm e q, Int.mul_left_comm]
  exact Int.eq_of_mul_eq_mul_left hq h1
theorem prop_trans {a b c e f g : Int} (hf : f ≠ 0) (h1 : a * f = b * e) (h2 : b * g = c * f) : a * g = c * e := by
  have h3 : f * (a * g) = f * (c * e) := by
    calc f * (a * g) = (a * f) * g := by rw [← Int.mul_assoc, Int.mul_comm f a]
      _ = e * (b * g) := by rw [h1, Int.mul_comm b e, Int.mul_assoc]
      _ = f * (c * e) := by rw [h2, Int.mul_left_comm, Int.mul_comm e f, Int.mul_left_comm]
  exact Int.eq_of_mul_eq_mul_left hf h3
open Classical in
noncomputable def facK (m : Int × Int × List Int) : List Int :=
  if h : ∃ l : List Int, l.length = m.1.toNat ∧ Good m.1.toNat (ent m) (fun i => l.getD i 0) ∧ Prim m.1.toNat (ent m) (fun i => l.getD i 0) then Classical.choose h else []
theorem fac_is {m : Int × Int × List Int} {l : List Int} (h1 : l.length = m.1.toNat) (h2 : Good m.1.toNat (ent m) (fun i => l.getD i 0)) (h3 : Prim m.1.toNat (ent m) (fun i => l.getD i 0)) : facK m = l := by
  have h : ∃ l : List Int, l.length = m.1.toNat ∧ Good m.1.toNat (ent m) (fun i => l.getD i 0) ∧ Prim m.1.toNat (ent m) (fun i => l.getD i 0) := ⟨l, h1, h2, h3⟩
  have hc := Classical.choose_spec h
  rw [facK, dif_pos h]
  generalize Classical.choose h = c at hc
  obtain ⟨c1, c2, c3⟩ := hc
  apply List.ext_getElem?
  intro i
  by_cases hi : i < m.1.toNat
  · have := good_one c2 h2 c3 h3 hi
    simp only [List.getD_eq_getElem?_getD] at this
    rw [List.getElem?_eq_getElem (by omega), List.getElem?_eq_getElem (by omega)] at this ⊢
    simpa using this
  · rw [List.getElem?_eq_none (by omega), List.getElem?_eq_none (by omega)]
theorem fac_none {m : Int × Int × List Int} (h : ¬ ∃ e, Good m.1.toNat (ent m) e) : facK m = [] := by
  rw [facK, dif_neg]
  rintro ⟨l, _, h2, _⟩
  exact h ⟨_, h2⟩
theorem fac_good {m : Int × Int × List Int} (h : facK m ≠ []) : (facK m).length = m.1.toNat ∧ Good m.1.toNat (ent m) (fun i => (facK m).getD i 0) ∧ Prim m.1.toNat (ent m) (fun i => (facK m).getD i 0) := by
  by_cases hx : ∃ l : List Int, l.length = m.1.toNat ∧ Good m.1.toNat (ent m) (fun i => l.getD i 0) ∧ Prim m.1.toNat (ent m) (fun i => l.getD i 0)
  · have : facK m = Classical.choose hx := by rw [facK, dif_pos hx]
    rw [this]
    exact Classical.choose_spec hx
  · exact absurd (by rw [facK, dif_neg hx]) h
theorem good_sign {n : Nat} {A : Nat → Nat → Int} {e : Nat → Int} (he : Good n A e) {i j : Nat} (hi : i < n) (hj : j < n) : signK (A i j) (A j i) = true := by
  have h1 := (he i hi).2 j hj
  have h2 := (he i hi).1
  have h3 := (he j hj).1
  have e1 : decide (0 < A i j) = decide (A j i < 0) := by
    rw [decide_eq_decide]
    constructor
    · intro h
      have := Int.mul_pos h2 h
      rcases Int.lt_or_le (A j i) 0 with h4 | h4
      · exact h4
      · have := Int.mul_nonneg (Int.le_of_lt h3) h4; omega
    · intro h
      have := Int.mul_neg_of_pos_of_neg h3 h
      rcases Int.lt_or_le 0 (A i j) with h4 | h4
      · exact h4
      · have := Int.mul_nonpos_of_nonneg_of_nonpos (Int.le_of_lt h2) h4; omega
  have e2 : decide (A i j = 0) = decide (A j i = 0) := by
    rw [decide_eq_decide]
    exact ⟨good_zero he hi hj, good_zero he hj hi⟩
  rw [signK, e1, e2]
  simp
theorem fac_sizes {m : Int × Int × List Int} (hs : shapedK m = true) (h : facK m ≠ []) : sizesK m = true := by
  obtain ⟨h1, h2, h3⟩ := fac_good h
  rw [sizesK, hs, Bool.true_and, List.all_eq_true]
  intro i hi
  rw [List.all_eq_true]
  intro j hj
  exact good_sign h2 (List.mem_range.1 hi) (List.mem_range.1 hj)
end Go.Fw
namespace Go.Fw
def ints (l : List Nat) : List Int := l.map fun (x : Nat) => (x : Int)
theorem ints_len (l : List Nat) : (ints l).length = l.length := by simp [ints]
theorem ints_getD (l : List Nat) (k : Nat) : (ints l).getD k 0 = ((l.getD k 0 : Nat) : Int) := by
  simp only [ints, List.getD_eq_getElem?_getD, List.getElem?_map]
  cases l[k]? <;> rfl
theorem ints_append (l : List Nat) (x : Nat) : ints l ++ [(x : Int)] = ints (l ++ [x]) := by simp [ints]
theorem mem_ints {l : List Nat} {x : Nat} : ((x : Int) ∈ ints l) ↔ x ∈ l := by
  simp only [ints, List.mem_map]
  constructor
  · rintro ⟨a, h1, h2⟩
    rwa [← Int.ofNat.inj h2]
  · exact fun h => ⟨x, h, rfl⟩
theorem nodup_len : ∀ (n : Nat) (l : List Nat), l.Nodup → (∀ x ∈ l, x < n) → l.length ≤ n
  | 0, l, _, h => by
    cases l with
    | nil => simp
    | cons x xs => exact absurd (h x (by simp)) (by omega)
  | n + 1, l, hn, h => by
    have := nodup_len n (l.erase n) (hn.erase n) (fun x hx => by
      have h1 := (hn.mem_erase_iff).1 hx
      have := h x h1.2
      omega)
    rw [List.length_erase] at this
    split at this <;> omega
def pIn (A : Nat → Nat → Int) (x : Nat) : List Nat → List Nat × List Nat → List Nat × List Nat
  | [], s => s
  | j :: js, s => pIn A x js (if A x j ≠ 0 ∧ j ∉ s.1 then (s.1 ++ [j], s.2 ++ [x]) else s)
def pGo (A : Nat → Nat → Int) (n : Nat) : Nat → Nat → List Nat × List Nat → List Nat × List Nat
  | 0, _, s => s
  | f + 1, p, s => if p < s.1.length then pGo A n f (p + 1) (pIn A (s.1.getD p 0) (List.range n) s) else s
def pieceK (m : Int × Int × List Int) (i : Nat) : List Nat × List Nat := pGo (ent m) m.1.toNat m.1.toNat 0 ([i], [i])
structure PInv (n : Nat) (A : Nat → Nat → Int) (i : Nat) (s : List Nat × List Nat) : Prop where
  nd : s.1.Nodup
  lt : ∀ x ∈ s.1, x < n
  len : s.2.length = s.1.length
  hd : s.1.getD 0 0 = i
  pos : 0 < s.1.length
  src : ∀ k, 1 ≤ k → k < s.1.length → ∃ k', k' < k ∧ s.2.getD k 0 = s.1.getD k' 0 ∧ A (s.2.getD k 0) (s.1.getD k 0) ≠ 0
theorem PInv.le {n : Nat} {A : Nat → Nat → Int} {i : Nat} {s : List Nat × List Nat} (h : PInv n A i s) : s.1.length ≤ n := nodup_len n s.1 h.nd h.lt
theorem getD_append_lt {α : Type} {l m : List α} {k : Nat} {d : α} (h : k < l.length) : (l ++ m).getD k d = l.getD k d := by
  simp only [List.getD_eq_getElem?_getD]
  rw [List.getElem?_append_left h]
theorem getD_append_eq {α : Type} {l : List α} {x d : α} {k : Nat} (h : k = l.length) : (l ++ [x]).getD k d = x := by
  subst h
  simp [List.getD_eq_getElem?_getD]
theorem PInv.step {n : Nat} {A : Nat → Nat → Int} {i p j : Nat} {s : List Nat × List Nat} (h : PInv n A i s) (hp : p < s.1.length) (hj : j < n) (ha : A (s.1.getD p 0) j ≠ 0 ∧ j ∉ s.1) : PInv n A i (s.1 ++ [j], s.2 ++ [s.1.getD p 0]) := by
  refine ⟨?_, ?_, ?_, ?_, ?_, ?_⟩
  · exact List.nodup_append.2 ⟨h.nd, by simp, fun a ha' b hb e => by
      rw [List.mem_singleton] at hb; subst hb; subst e; exact ha.2 ha'⟩
  · intro x hx
    rcases List.mem_append.1 hx with hx | hx
    · exact h.lt x hx
    · rw [List.mem_singleton] at hx; omega
  · simp [h.len]
  · exact (getD_append_lt h.pos).trans h.hd
  · simp
  · intro k h1 h2
    simp only [List.length_append, List.length_cons, List.length_nil] at h2
    by_cases hk : k < s.1.length
    · obtain ⟨k', h3, h4, h5⟩ := h.src k h1 hk
      refine ⟨k', h3, ?_, ?_⟩
      · show (s.2 ++ _).getD k 0 = (s.1 ++ _).getD k' 0
        rw [getD_append_lt (by rw [h.len]; exact hk), getD_append_lt (by omega), h4]
      · show A ((s.2 ++ _).getD k 0) ((s.1 ++ _).getD k 0) ≠ 0
        rw [getD_append_lt (by rw [h.len]; exact hk), getD_append_lt hk]
        exact h5
    · have e : k = s.1.length := by omega
      refine ⟨p, by omega, ?_, ?_⟩
      · show (s.2 ++ _).getD k 0 = (s.1 ++ _).getD p 0
        rw [getD_append_eq (by rw [h.len]; exact e), getD_append_lt hp]
      · show A ((s.2 ++ _).getD k 0) ((s.1 ++ _).getD k 0) ≠ 0
        rw [getD_append_eq (by rw [h.len]; exact e), getD_append_eq e]
        exact ha.1
def Grows (s t : List Nat × List Nat) : Prop := ∃ u, t.1 = s.1 ++ u
theorem Grows.getD {s t : List Nat × List Nat} (h : Grows s t) {k : Nat} (hk : k < s.1.length) : t.1.getD k 0 = s.1.getD k 0 := by
  obtain ⟨u, h⟩ := h
  rw [h, getD_append_lt hk]
theorem Grows.len {s t : List Nat × List Nat} (h : Grows s t) : s.1.length ≤ t.1.length := by
  obtain ⟨u, h⟩ := h
  rw [h]; simp
theorem Grows.mem {s t : List Nat × List Nat} (h : Grows s t) {x : Nat} (hx : x ∈ s.1) : x ∈ t.1 := by
  obtain ⟨u, h⟩ := h
  rw [h]; exact List.mem_append_left _ hx
theorem pIn_inv {n : Nat} {A : Nat → Nat → Int} {i p : Nat} : ∀ (js : List Nat) (s : List Nat × List Nat), PInv n A i s → p < s.1.length → (∀ j ∈ js, j < n) →
    PInv n A i (pIn A (s.1.getD p 0) js s) ∧ Grows s (pIn A (s.1.getD p 0) js s) ∧ ∀ j ∈ js, A (s.1.getD p 0) j ≠ 0 → j ∈ (pIn A (s.1.getD p 0) js s).1
  | [], s, h, _, _ => ⟨h, ⟨[], by simp [pIn]⟩, fun j hj => by cases hj⟩
  | j :: js, s, h, hp, hl => by
    by_cases ha : A (s.1.getD p 0) j ≠ 0 ∧ j ∉ s.1
    · have e : (s.1 ++ [j]).getD p 0 = s.1.getD p 0 := getD_append_lt hp
      have := pIn_inv (p := p) js (s.1 ++ [j], s.2 ++ [s.1.getD p 0]) (h.step hp (hl j (by simp)) ha) (by simp; omega) (fun x hx => hl x (by simp [hx]))
      simp only [e] at this
      obtain ⟨h1, ⟨u, h2⟩, h3⟩ := this
      rw [pIn, if_pos ha]
      refine ⟨h1, ⟨[j] ++ u, by rw [h2]; simp⟩, fun x hx hax => ?_⟩
      rcases List.mem_cons.1 hx with hx | hx
      · subst hx; rw [h2]; simp
      · exact h3 x hx hax
    · have := pIn_inv (p := p) js s h hp (fun x hx => hl x (by simp [hx]))
      obtain ⟨h1, h2, h3⟩ := this
      rw [pIn, if_neg ha]
      refine ⟨h1, h2, fun x hx hax => ?_⟩
      rcases List.mem_cons.1 hx with hx | hx
      · subst hx
        exact h2.mem (Classical.byContradiction fun hc => ha ⟨hax, hc⟩)
      · exact h3 x hx hax
theorem pGo_inv {n : Nat} {A : Nat → Nat → Int} {i : Nat} : ∀ (f p : Nat) (s : List Nat × List Nat), PInv n A i s → n ≤ f + p → p ≤ s.1.length → (∀ k, k < p → ∀ j, j < n → A (s.1.getD k 0) j ≠ 0 → j ∈ s.1) →
    PInv n A i (pGo A n f p s) ∧ ∀ x ∈ (pGo A n f p s).1, ∀ j, j < n → A x j ≠ 0 → j ∈ (pGo A n f p s).1
  | 0, p, s, h, hf, hp, hc => ⟨h, fun x hx j hj ha => by
      change x ∈ s.1 at hx
      show j ∈ s.1
      obtain ⟨k, hk, rfl⟩ := List.getElem_of_mem hx
      have := h.le
      refine hc k (by omega) j hj ?_
      rw [List.getD_eq_getElem?_getD, List.getElem?_eq_getElem hk]
      exact ha⟩
  | f + 1, p, s, h, hf, hp, hc => by
    rw [pGo]
    by_cases hlt : p < s.1.length
    · rw [if_pos hlt]
      obtain ⟨h1, h2, h3⟩ := pIn_inv (p := p) (List.range n) s h hlt (fun x hx => List.mem_range.1 hx)
      refine pGo_inv f (p + 1) _ h1 (by omega) (by have := h2.len; omega) ?_
      intro k hk j hj ha
      by_cases e : k = p
      · subst e
        rw [h2.getD hlt] at ha
        exact h3 j (List.mem_range.2 hj) ha
      · rw [h2.getD (by omega)] at ha
        exact h2.mem (hc k (by omega) j hj ha)
    · rw [if_neg hlt]
      refine ⟨h, fun x hx j hj ha => ?_⟩
      obtain ⟨k, hk, rfl⟩ := List.getElem_of_mem hx
      refine hc k (by omega) j hj ?_
      rw [List.getD_eq_getElem?_getD, List.getElem?_eq_getElem hk]
      exact ha
theorem PInv.first {n : Nat} {A : Nat → Nat → Int} {i : Nat} (h : i < n) : PInv n A i ([i], [i]) :=
  ⟨by simp, by simpa using h, rfl, rfl, by simp, fun k h1 h2 => by simp at h2; omega⟩
theorem piece_ok {m : Int × Int × List Int} {i : Nat} (h : i < m.1.toNat) : PInv m.1.toNat (ent m) i (pieceK m i) ∧ ∀ x ∈ (pieceK m i).1, ∀ j, j < m.1.toNat → ent m x j ≠ 0 → j ∈ (pieceK m i).1 :=
  pGo_inv m.1.toNat 0 _ (PInv.first h) (by omega) (by simp) (fun k hk => by omega)
end Go.Fw
namespace Go.Fw
theorem getD_put {α : Type} {l : List α} {x y : Nat} {v d : α} (h : x < l.length) : (l.set x v).getD y d = if x = y then v else l.getD y d := by
  by_cases e : x = y
  · subst e
    rw [if_pos rfl, getD_set_self h]
  · rw [if_neg e, List.getD_eq_getElem?_getD, List.getElem?_set_ne e, List.getD_eq_getElem?_getD]
theorem nodup_getD {l : List Nat} (h : l.Nodup) {a b : Nat} (ha : a < l.length) (hb : b < l.length) (e : l.getD a 0 = l.getD b 0) : a = b := by
  rw [List.getD_eq_getElem?_getD, List.getD_eq_getElem?_getD, List.getElem?_eq_getElem ha, List.getElem?_eq_getElem hb, Option.getD_some, Option.getD_some] at e
  rcases Nat.lt_trichotomy a b with h1 | h1 | h1
  · exact absurd e (List.pairwise_iff_getElem.1 h a b ha hb h1)
  · exact h1
  · exact absurd e.symm (List.pairwise_iff_getElem.1 h b a hb ha h1)
theorem mem_getD {l : List Nat} {x : Nat} (h : x ∈ l) : ∃ k, k < l.length ∧ l.getD k 0 = x := by
  obtain ⟨k, hk, rfl⟩ := List.getElem_of_mem h
  exact ⟨k, hk, by rw [List.getD_eq_getElem?_getD, List.getElem?_eq_getElem hk, Option.getD_some]⟩
theorem range_getD {α : Type} (l : List Nat) (f : Nat → α) : (List.range l.length).map (fun t => f (l.getD t 0)) = l.map f := by
  have := list_map (n := l.length) (l := l) 0 rfl
  conv => rhs; rw [← this]
  rw [List.map_map]
  rfl
def absK (a : Int) : Int := (a.natAbs : Int)
theorem absK_pos {a : Int} (h : a ≠ 0) : 0 < absK a := by unfold absK; omega
theorem absK_le {a : Int} (h : -99 ≤ a ∧ a ≤ 99) : absK a ≤ 99 := by unfold absK; omega
theorem abs_edge {e f p q : Int} (he : 0 < e) (hf : 0 < f) (h : e * p = -(f * q)) : e * absK p = f * absK q := by
  have h1 : (e * p).natAbs = (f * q).natAbs := by rw [h, Int.natAbs_neg]
  rw [Int.natAbs_mul, Int.natAbs_mul] at h1
  have : ((e.natAbs * p.natAbs : Nat) : Int) = ((f.natAbs * q.natAbs : Nat) : Int) := by rw [h1]
  rw [Int.natCast_mul, Int.natCast_mul, Int.natAbs_of_nonneg (Int.le_of_lt he), Int.natAbs_of_nonneg (Int.le_of_lt hf)] at this
  exact this
def prodK (q : Nat → Int) : Nat → Int
  | 0 => 1
  | k + 1 => prodK q k * q k
theorem prodK_dvd (q : Nat → Int) {a b : Nat} (h : a ≤ b) : prodK q a ∣ prodK q b := by
  induction b with
  | zero => rw [show a = 0 by omega]; exact Int.dvd_refl _
  | succ b ih =>
    by_cases e : a = b + 1
    · subst e; exact Int.dvd_refl _
    · exact Int.dvd_trans (ih (by omega)) ⟨q b, rfl⟩
theorem prodK_bound {q : Nat → Int} {n : Nat} (h : ∀ k, k < n → 0 < q k ∧ q k ≤ 99) : ∀ k, k ≤ n → 0 < prodK q k ∧ prodK q k ≤ 99 ^ k
  | 0, _ => by simp [prodK]
  | k + 1, hk => by
    obtain ⟨h1, h2⟩ := prodK_bound h k (by omega)
    obtain ⟨h3, h4⟩ := h k (by omega)
    refine ⟨Int.mul_pos h1 h3, ?_⟩
    rw [Int.pow_succ]
    exact Int.mul_le_mul h2 h4 (by omega) (Int.pow_nonneg (by omega))
theorem pow99 {k : Nat} (h : k ≤ 8) : (99 : Int) ^ k ≤ 9227446944279201 := by
  have h1 : 99 ^ k ≤ 99 ^ 8 := Nat.pow_le_pow_right (by omega) h
  have h2 : (99 : Int) ^ k = ((99 ^ k : Nat) : Int) := by rw [Int.natCast_pow]; rfl
  rw [h2]
  omega
theorem tree_div {H D Hk q p a : Int} (hH : 0 < Hk) (hq : 0 < q) (hp : 0 < p) (ha : 0 < a) (h1 : Hk * q ∣ D) (h2 : D ∣ a * Hk) :
    (Int.tdiv (a * p) q) * q = a * p ∧ 0 < Int.tdiv (a * p) q ∧ D ∣ Int.tdiv (a * p) q * (Hk * q) := by
  obtain ⟨R, hR⟩ := h1
  obtain ⟨c, hc⟩ := h2
  have e : a = q * (R * c) := by
    have : Hk * a = Hk * (q * (R * c)) := by
      rw [Int.mul_comm Hk a, hc, hR, ← Int.mul_assoc Hk q, Int.mul_assoc]
    exact Int.eq_of_mul_eq_mul_left (by omega) this
  have e2 : Int.tdiv (a * p) q = R * c * p := by
    rw [e, Int.mul_assoc, Int.mul_tdiv_cancel_left _ (by omega)]
  rw [e2]
  refine ⟨by rw [e, Int.mul_comm (R * c * p) q, Int.mul_assoc q], ?_, ?_⟩
  · have h3 : 0 < q * (R * c * p) := by rw [← Int.mul_assoc, ← e]; exact Int.mul_pos ha hp
    rcases Int.lt_or_le 0 (R * c * p) with h | h
    · exact h
    · have := Int.mul_nonpos_of_nonneg_of_nonpos (Int.le_of_lt hq) h; omega
  · refine ⟨c * p, ?_⟩
    rw [hR, Int.mul_comm (R * c * p), Int.mul_assoc, Int.mul_assoc, Int.mul_assoc, Int.mul_assoc]
theorem gcd_snoc (g : Nat) (l : List Int) (x : Int) (hx : 0 ≤ x) (hg : g = gcdL l) : (Int.gcd (g : Int) x : Int) = ((gcdL (l ++ [x]) : Nat) : Int) := by
  subst hg
  rw [gcdL_append, gcdL, gcdL, Nat.gcd_zero_right]
  rfl
end Go.Fw
namespace Go.Fw
def qK (m : Int × Int × List Int) (s : List Nat × List Nat) (k : Nat) : Int := if k = 0 then 1 else absK (ent m (s.1.getD k 0) (s.2.getD k 0))
def pK (m : Int × Int × List Int) (s : List Nat × List Nat) (k : Nat) : Int := absK (ent m (s.2.getD k 0) (s.1.getD k 0))
theorem sizes_zero {m : Int × Int × List Int} (h : sizesK m = true) {i j : Nat} (hi : i < m.1.toNat) (hj : j < m.1.toNat) : ent m i j = 0 ↔ ent m j i = 0 := by
  rw [sizesK, Bool.and_eq_true, List.all_eq_true] at h
  have h1 := List.all_eq_true.1 (h.2 i (List.mem_range.2 hi)) j (List.mem_range.2 hj)
  rw [signK, Bool.and_eq_true] at h1
  have h2 := h1.2
  rw [beq_iff_eq, decide_eq_decide] at h2
  exact h2
theorem ent_bound {m : Int × Int × List Int} (h : shapedK m = true) (i j : Nat) : -99 ≤ ent m i j ∧ ent m i j ≤ 99 := by
  rw [shapedK, Bool.and_eq_true] at h
  exact all_bound h.2 _
theorem sizes_shaped {m : Int × Int × List Int} (h : sizesK m = true) : shapedK m = true := by
  rw [sizesK, Bool.and_eq_true] at h
  exact h.1
theorem shaped_dim {m : Int × Int × List Int} (h : shapedK m = true) : dimK m = true := by
  rw [shapedK, Bool.and_eq_true] at h
  exact h.1
theorem src_lt {n : Nat} {A : Nat → Nat → Int} {i : Nat} {s : List Nat × List Nat} (h : PInv n A i s) {k : Nat} (h1 : 1 ≤ k) (h2 : k < s.1.length) : s.2.getD k 0 < n := by
  obtain ⟨k', h3, h4, h5⟩ := h.src k h1 h2
  rw [h4]
  exact h.lt _ (getD_mem 0 (by omega))
theorem pq_range {m : Int × Int × List Int} (hs : sizesK m = true) {i : Nat} {s : List Nat × List Nat} (h : PInv m.1.toNat (ent m) i s) {k : Nat} (h1 : 1 ≤ k) (h2 : k < s.1.length) :
    (0 < qK m s k ∧ qK m s k ≤ 99) ∧ (0 < pK m s k ∧ pK m s k ≤ 99) := by
  obtain ⟨k', h3, h4, h5⟩ := h.src k h1 h2
  have h6 : ent m (s.1.getD k 0) (s.2.getD k 0) ≠ 0 := fun e => h5 ((sizes_zero hs (h.lt _ (getD_mem 0 h2)) (src_lt h h1 h2)).1 e)
  have hb := sizes_shaped hs
  rw [qK, if_neg (by omega), pK]
  exact ⟨⟨absK_pos h6, absK_le (ent_bound hb _ _)⟩, ⟨absK_pos h5, absK_le (ent_bound hb _ _)⟩⟩
theorem q_range {m : Int × Int × List Int} (hs : sizesK m = true) {i : Nat} {s : List Nat × List Nat} (h : PInv m.1.toNat (ent m) i s) (k : Nat) (h2 : k < s.1.length) : 0 < qK m s k ∧ qK m s k ≤ 99 := by
  by_cases e : k = 0
  · subst e
    rw [qK, if_pos rfl]
    omega
  · exact (pq_range hs h (by omega) h2).1
structure T2 (m : Int × Int × List Int) (s : List Nat × List Nat) (d0 : List Int) (k : Nat) (d : List Int) (g : Int) : Prop where
  len : d.length = m.1.toNat
  out : ∀ x, x < m.1.toNat → (∀ k', k' < k → x ≠ s.1.getD k' 0) → d.getD x 0 = d0.getD x 0
  val : ∀ k', k' < k → 0 < d.getD (s.1.getD k' 0) 0 ∧ d.getD (s.1.getD k' 0) 0 ≤ 99 ^ (4 + k') ∧ prodK (qK m s) s.1.length ∣ d.getD (s.1.getD k' 0) 0 * prodK (qK m s) k
  tree : ∀ k', 1 ≤ k' → k' < k → d.getD (s.1.getD k' 0) 0 * qK m s k' = d.getD (s.2.getD k' 0) 0 * pK m s k'
  gcd : g = ((gcdL ((List.range k).map fun t => d.getD (s.1.getD t 0) 0) : Nat) : Int)
theorem T2.step {m : Int × Int × List Int} {s : List Nat × List Nat} {d0 d : List Int} {g : Int} {i k : Nat} (hs : sizesK m = true) (h : PInv m.1.toNat (ent m) i s) (hn : m.1.toNat ≤ 5) (h1 : 1 ≤ k) (h2 : k < s.1.length) (ht : T2 m s d0 k d g) :
    (0 < d.getD (s.2.getD k 0) 0 * pK m s k ∧ d.getD (s.2.getD k 0) 0 * pK m s k ≤ 9227446944279201) ∧
    (0 < Int.tdiv (d.getD (s.2.getD k 0) 0 * pK m s k) (qK m s k) ∧ Int.tdiv (d.getD (s.2.getD k 0) 0 * pK m s k) (qK m s k) ≤ 9227446944279201) ∧
    T2 m s d0 (k + 1) (d.set (s.1.getD k 0) (Int.tdiv (d.getD (s.2.getD k 0) 0 * pK m s k) (qK m s k))) (Int.gcd g (Int.tdiv (d.getD (s.2.getD k 0) 0 * pK m s k) (qK m s k))) := by
  obtain ⟨⟨hq, hq9⟩, hp, hp9⟩ := pq_range hs h h1 h2
  obtain ⟨k', h3, h4, h5⟩ := h.src k h1 h2
  obtain ⟨a1, a2, a3⟩ := ht.val k' h3
  have hle := h.le
  rw [← h4] at a1 a2 a3
  have hH := (prodK_bound (q_range hs h) k (by omega)).1
  have hx : s.1.getD k 0 < d.length := by rw [ht.len]; exact h.lt _ (getD_mem 0 h2)
  have hdv : prodK (qK m s) k * qK m s k ∣ prodK (qK m s) s.1.length := prodK_dvd (qK m s) (show k + 1 ≤ s.1.length from h2)
  obtain ⟨b1, b2, b3⟩ := tree_div (H := 0) hH hq hp a1 hdv a3
  have hb : d.getD (s.2.getD k 0) 0 * pK m s k ≤ 99 ^ (4 + k) := by
    have : d.getD (s.2.getD k 0) 0 * pK m s k ≤ 99 ^ (4 + k') * 99 := Int.mul_le_mul a2 hp9 (by omega) (Int.pow_nonneg (by omega))
    rw [← Int.pow_succ] at this
    refine Int.le_trans this ?_
    have h6 : 99 ^ (4 + k' + 1) ≤ 99 ^ (4 + k) := Nat.pow_le_pow_right (by omega) (by omega)
    exact_mod_cast h6
  have hp8 := pow99 (k := 4 + k) (by omega)
  generalize hv : Int.tdiv (d.getD (s.2.getD k 0) 0 * pK m s k) (qK m s k) = v at b1 b2 b3
  have hvle : v ≤ d.getD (s.2.getD k 0) 0 * pK m s k := by
    rw [← b1]
    have := Int.mul_le_mul_of_nonneg_left (show (1 : Int) ≤ qK m s k by omega) (Int.le_of_lt b2)
    omega
  have hne : ∀ t, t < k → s.1.getD k 0 ≠ s.1.getD t 0 := fun t ht' e => by
    have := nodup_getD h.nd h2 (by omega) e; omega
  have hget : ∀ t, t < k → (d.set (s.1.getD k 0) v).getD (s.1.getD t 0) 0 = d.getD (s.1.getD t 0) 0 := fun t ht' => by
    rw [getD_put hx, if_neg (hne t ht')]
  have hself : (d.set (s.1.getD k 0) v).getD (s.1.getD k 0) 0 = v := by rw [getD_put hx, if_pos rfl]
  refine ⟨⟨Int.mul_pos a1 hp, by omega⟩, ⟨b2, by omega⟩, ⟨?_, ?_, ?_, ?_, ?_⟩⟩
  · rw [List.length_set, ht.len]
  · intro x hx' hall
    rw [getD_put hx, if_neg (fun e => hall k (by omega) e.symm)]
    exact ht.out x hx' (fun t ht' => hall t (by omega))
  · intro t ht'
    by_cases e : t = k
    · subst e
      rw [hself]
      exact ⟨b2, by omega, b3⟩
    · rw [hget t (by omega)]
      obtain ⟨c1, c2, c3⟩ := ht.val t (by omega)
      refine ⟨c1, c2, ?_⟩
      rw [prodK, ← Int.mul_assoc]
      exact Int.dvd_trans c3 ⟨_, rfl⟩
  · intro t ht1 ht2
    by_cases e : t = k
    · subst e
      rw [hself, h4, hget k' h3, ← h4]
      exact b1
    · obtain ⟨t', c1, c2, _⟩ := h.src t ht1 (by omega)
      rw [hget t (by omega), c2, hget t' (by omega), ← c2]
      exact ht.tree t ht1 (by omega)
  · rw [List.range_succ, List.map_append, List.map_cons, List.map_nil, hself]
    rw [show (List.range k).map (fun t => (d.set (s.1.getD k 0) v).getD (s.1.getD t 0) 0) = (List.range k).map (fun t => d.getD (s.1.getD t 0) 0) from List.map_congr_left (fun t ht' => hget t (List.mem_range.1 ht'))]
    rw [ht.gcd]
    exact gcd_snoc _ _ v (by omega) rfl
theorem T2.g_range {m : Int × Int × List Int} {s : List Nat × List Nat} {d0 d : List Int} {g : Int} {k : Nat} (h1 : 1 ≤ k) (ht : T2 m s d0 k d g) : 0 < g ∧ g ≤ 9227446944279201 := by
  obtain ⟨a1, a2, _⟩ := ht.val 0 (by omega)
  have hd : g ∣ d.getD (s.1.getD 0 0) 0 := by
    rw [ht.gcd]
    exact gcdL_dvd (List.mem_map.2 ⟨0, List.mem_range.2 (by omega), rfl⟩)
  have := Int.le_of_dvd a1 hd
  have hp := pow99 (k := 4 + 0) (by omega)
  refine ⟨?_, by omega⟩
  rcases Int.lt_or_le 0 g with h | h
  · exact h
  · have h0 : 0 ≤ g := by rw [ht.gcd]; omega
    have e : g = 0 := by omega
    rw [e] at hd
    have := Int.zero_dvd.1 hd
    omega
structure T3 (m : Int × Int × List Int) (s : List Nat × List Nat) (d2 : List Int) (g : Int) (k : Nat) (d : List Int) : Prop where
  len : d.length = m.1.toNat
  out : ∀ x, x < m.1.toNat → (∀ k', k' < k → x ≠ s.1.getD k' 0) → d.getD x 0 = d2.getD x 0
  val : ∀ k', k' < k → d.getD (s.1.getD k' 0) 0 = Int.tdiv (d2.getD (s.1.getD k' 0) 0) g
theorem T3.step {m : Int × Int × List Int} {s : List Nat × List Nat} {d2 d : List Int} {g : Int} {k : Nat} (hnd : s.1.Nodup) (hlt : ∀ x ∈ s.1, x < m.1.toNat) (h2 : k < s.1.length) (ht : T3 m s d2 g k d) :
    T3 m s d2 g (k + 1) (d.set (s.1.getD k 0) (Int.tdiv (d2.getD (s.1.getD k 0) 0) g)) := by
  have hx : s.1.getD k 0 < d.length := by rw [ht.len]; exact hlt _ (getD_mem 0 h2)
  refine ⟨by rw [List.length_set, ht.len], ?_, ?_⟩
  · intro x hx' hall
    rw [getD_put hx, if_neg (fun e => hall k (by omega) e.symm)]
    exact ht.out x hx' (fun t ht' => hall t (by omega))
  · intro t ht'
    by_cases e : t = k
    · subst e
      rw [getD_put hx, if_pos rfl]
    · rw [getD_put hx, if_neg (fun e' => e (nodup_getD hnd h2 (by omega) e').symm)]
      exact ht.val t (by omega)
theorem T3.cur {m : Int × Int × List Int} {s : List Nat × List Nat} {d2 d : List Int} {g : Int} {k : Nat} (hnd : s.1.Nodup) (hlt : ∀ x ∈ s.1, x < m.1.toNat) (h2 : k < s.1.length) (ht : T3 m s d2 g k d) :
    d.getD (s.1.getD k 0) 0 = d2.getD (s.1.getD k 0) 0 :=
  ht.out _ (hlt _ (getD_mem 0 h2)) (fun t ht' e => by have := nodup_getD hnd h2 (by omega) e; omega)
def Part (n : Nat) (A : Nat → Nat → Int) (d : Nat → Int) : Prop := ∀ j, j < n → 0 ≤ d j ∧ d j ≤ 9227446944279201 ∧
  (0 < d j → ∃ L : List Nat, j ∈ L ∧ (∀ k ∈ L, k < n ∧ 0 < d k) ∧ (∀ k, k < n → A j k ≠ 0 → k ∈ L) ∧ gcdL (L.map d) = 1 ∧ ∀ e, Good n A e → ∀ k ∈ L, d j * e k = d k * e j)
theorem tree_prop {m : Int × Int × List Int} {s : List Nat × List Nat} {d0 d : List Int} {g : Int} {i : Nat} (hs : sizesK m = true) (h : PInv m.1.toNat (ent m) i s) (ht : T2 m s d0 s.1.length d g) {e : Nat → Int} (he : Good m.1.toNat (ent m) e) :
    ∀ k, k < s.1.length → d.getD i 0 * e (s.1.getD k 0) = d.getD (s.1.getD k 0) 0 * e i := by
  intro k
  induction k using Nat.strongRecOn with
  | _ k ih =>
    intro hk
    by_cases h0 : k = 0
    · subst h0
      rw [h.hd]
    · obtain ⟨k', h3, h4, h5⟩ := h.src k (by omega) hk
      have h6 := ih k' h3 (by omega)
      rw [← h4] at h6
      have hlk := h.lt _ (getD_mem 0 hk)
      have hfk := src_lt h (show 1 ≤ k by omega) hk
      have h7 := abs_edge (he _ hfk).1 (he _ hlk).1 ((he _ hfk).2 _ hlk)
      have h8 := ht.tree k (by omega) hk
      obtain ⟨⟨hq, _⟩, hp, _⟩ := pq_range hs h (show 1 ≤ k by omega) hk
      rw [show absK (ent m (s.1.getD k 0) (s.2.getD k 0)) = qK m s k by rw [qK, if_neg h0]] at h7
      have h7' : e (s.2.getD k 0) * pK m s k = e (s.1.getD k 0) * qK m s k := h7
      have h9 : d.getD (s.2.getD k 0) 0 * e (s.1.getD k 0) = d.getD (s.1.getD k 0) 0 * e (s.2.getD k 0) :=
        prop_edge' (p := pK m s k) (q := -(qK m s k)) (by omega) (he _ hfk).1 (by rw [Int.mul_neg, Int.neg_neg]; exact h8.symm) (by rw [Int.mul_neg, Int.neg_neg]; exact h7') (by omega)
      have := (he _ hfk).1
      exact prop_trans (by omega) h6 h9
theorem part_step {m : Int × Int × List Int} {s : List Nat × List Nat} {d0 d2 d : List Int} {g : Int} {i : Nat} (hs : sizesK m = true) (hi : i < m.1.toNat) (h : PInv m.1.toNat (ent m) i s) (hn : m.1.toNat ≤ 5)
    (hcl : ∀ x ∈ s.1, ∀ j, j < m.1.toNat → ent m x j ≠ 0 → j ∈ s.1)
    (h0 : Part m.1.toNat (ent m) (fun x => d0.getD x 0)) (hz : d0.getD i 0 ≤ 0) (h2 : T2 m s d0 s.1.length d2 g) (h3 : T3 m s d2 g s.1.length d) :
    Part m.1.toNat (ent m) (fun x => d.getD x 0) ∧ 0 < d.getD i 0 ∧ ∀ x, x < m.1.toNat → 0 < d0.getD x 0 → 0 < d.getD x 0 := by
  have hg := h2.g_range h.pos
  have hle := h.le
  have hnew : ∀ k, k < s.1.length → d0.getD (s.1.getD k 0) 0 ≤ 0 := by
    intro k
    induction k using Nat.strongRecOn with
    | _ k ih =>
      intro hk
      by_cases hk0 : k = 0
      · subst hk0; rw [h.hd]; exact hz
      · obtain ⟨k', a1, a2, a3⟩ := h.src k (by omega) hk
        have b1 := ih k' a1 (by omega)
        rw [← a2] at b1
        rcases Int.lt_or_le 0 (d0.getD (s.1.getD k 0) 0) with hc | hc
        · have hlk := h.lt _ (getD_mem 0 hk)
          have hfk := src_lt h (show 1 ≤ k by omega) hk
          obtain ⟨L, c1, c2, c3, _⟩ := (h0 _ hlk).2.2 hc
          have b4 : 0 < d0.getD (s.2.getD k 0) 0 := (c2 _ (c3 _ hfk (fun e => a3 ((sizes_zero hs hlk hfk).1 e)))).2
          have b2 : d0.getD (s.2.getD k 0) 0 ≤ 0 := b1
          omega
        · exact hc
  have hin : ∀ x ∈ s.1, d.getD x 0 * g = d2.getD x 0 ∧ 0 < d.getD x 0 ∧ d.getD x 0 ≤ 9227446944279201 := by
    intro x hx
    obtain ⟨k, hk, rfl⟩ := mem_getD hx
    have a1 := h3.val k hk
    obtain ⟨b1, b2, _⟩ := h2.val k hk
    have b3 : g ∣ d2.getD (s.1.getD k 0) 0 := by
      rw [h2.gcd]
      exact gcdL_dvd (List.mem_map.2 ⟨k, List.mem_range.2 hk, rfl⟩)
    have b4 : d.getD (s.1.getD k 0) 0 * g = d2.getD (s.1.getD k 0) 0 := by rw [a1]; exact Int.tdiv_mul_cancel b3
    have b5 := pow99 (k := 4 + k) (by omega)
    have b6 : 0 < d.getD (s.1.getD k 0) 0 := by
      rcases Int.lt_or_le 0 (d.getD (s.1.getD k 0) 0) with hc | hc
      · exact hc
      · have := Int.mul_nonpos_of_nonpos_of_nonneg hc (Int.le_of_lt hg.1); omega
    refine ⟨b4, b6, ?_⟩
    have := Int.mul_le_mul_of_nonneg_left (show (1 : Int) ≤ g by omega) (Int.le_of_lt b6)
    omega
  have hout : ∀ x, x < m.1.toNat → x ∉ s.1 → d.getD x 0 = d0.getD x 0 := by
    intro x hx hni
    have hne : ∀ k', k' < s.1.length → x ≠ s.1.getD k' 0 := fun k' hk' e => hni (by rw [e]; exact getD_mem 0 hk')
    rw [h3.out x hx hne, h2.out x hx hne]
  have himem : i ∈ s.1 := by rw [← h.hd]; exact getD_mem 0 h.pos
  refine ⟨?_, (hin i himem).2.1, ?_⟩
  · intro j hj
    by_cases hm : j ∈ s.1
    · obtain ⟨a1, a2, a3⟩ := hin j hm
      refine ⟨Int.le_of_lt a2, a3, fun _ => ⟨s.1, hm, fun k hk => ⟨h.lt k hk, (hin k hk).2.1⟩, fun k hk ha => hcl j hm k hk ha, ?_, ?_⟩⟩
      · have e1 : s.1.map (fun x => g * d.getD x 0) = s.1.map (fun x => d2.getD x 0) := List.map_congr_left (fun x hx => by rw [Int.mul_comm]; exact (hin x hx).1)
        have e2 := gcdL_mul g (s.1.map (fun x => d.getD x 0))
        rw [List.map_map] at e2
        have e3 : gcdL (s.1.map (fun x => d2.getD x 0)) = g.natAbs * gcdL (s.1.map (fun x => d.getD x 0)) := by rw [← e1]; exact e2
        have e4 : g = ((gcdL (s.1.map (fun x => d2.getD x 0)) : Nat) : Int) := by
          rw [← range_getD s.1 (fun x => d2.getD x 0)]
          exact h2.gcd
        have e5 : gcdL (s.1.map (fun x => d2.getD x 0)) = g.natAbs := by
          have := congrArg Int.natAbs e4
          simpa using this.symm
        rw [e5] at e3
        exact Nat.eq_of_mul_eq_mul_left (show 0 < g.natAbs by omega) (by rw [Nat.mul_one]; exact e3.symm)
      · intro e he k hk
        have key : ∀ x ∈ s.1, d.getD i 0 * e x = d.getD x 0 * e i := by
          intro x hx
          obtain ⟨kx, hkx, rfl⟩ := mem_getD hx
          have c1 := tree_prop hs h h2 he kx hkx
          rw [← (hin i himem).1, ← (hin _ hx).1] at c1
          have c2 : g * (d.getD i 0 * e (s.1.getD kx 0)) = g * (d.getD (s.1.getD kx 0) 0 * e i) := by
            rw [← Int.mul_assoc, ← Int.mul_assoc, Int.mul_comm g, Int.mul_comm g]
            exact c1
          exact Int.eq_of_mul_eq_mul_left (by omega) c2
        have := (he i hi).1
        exact prop_trans (b := d.getD i 0) (f := e i) (by omega) (key j hm).symm (key k hk)
    · have e := hout j hj hm
      obtain ⟨a1, a2, a3⟩ := h0 j hj
      show 0 ≤ d.getD j 0 ∧ d.getD j 0 ≤ _ ∧ (0 < d.getD j 0 → _)
      rw [e]
      refine ⟨a1, a2, fun hpos => ?_⟩
      obtain ⟨L, b1, b2, b3, b4, b5⟩ := a3 hpos
      have hL : ∀ k ∈ L, d.getD k 0 = d0.getD k 0 := fun k hk => hout k (b2 k hk).1 (fun hc => by
        obtain ⟨kx, hkx, e'⟩ := mem_getD hc
        have := hnew kx hkx
        rw [e'] at this
        have b6 : 0 < d0.getD k 0 := (b2 k hk).2
        omega)
      refine ⟨L, b1, fun k hk => ⟨(b2 k hk).1, by show 0 < d.getD k 0; rw [hL k hk]; exact (b2 k hk).2⟩, b3, ?_, ?_⟩
      · rw [show L.map (fun x => d.getD x 0) = L.map (fun x => d0.getD x 0) from List.map_congr_left hL]; exact b4
      · intro e' he' k hk
        show d.getD j 0 * e' k = d.getD k 0 * e' j
        rw [hL k hk, e]
        exact b5 e' he' k hk
  · intro x hx hp
    by_cases hm : x ∈ s.1
    · exact (hin x hm).2.1
    · rw [hout x hx hm]; exact hp
theorem part_fac {m : Int × Int × List Int} {d : List Int} (hl : d.length = m.1.toNat) (h : Part m.1.toNat (ent m) (fun x => d.getD x 0)) (hp : ∀ x, x < m.1.toNat → 0 < d.getD x 0)
    (hc : ∀ i, i < m.1.toNat → ∀ j, j < m.1.toNat → d.getD i 0 * ent m i j = -(d.getD j 0 * ent m j i)) : facK m = d := by
  refine fac_is hl (fun i hi => ⟨hp i hi, hc i hi⟩) (fun i hi => ?_)
  obtain ⟨L, a1, a2, a3, a4, a5⟩ := (h i hi).2.2 (hp i hi)
  exact ⟨L, fun k hk => (a2 k hk).1, a4, a5⟩
theorem part_edge {m : Int × Int × List Int} {d : List Int} (hs : sizesK m = true) (h : Part m.1.toNat (ent m) (fun x => d.getD x 0)) (hp : ∀ x, x < m.1.toNat → 0 < d.getD x 0) {e : Nat → Int} (he : Good m.1.toNat (ent m) e)
    {i j : Nat} (hi : i < m.1.toNat) (hj : j < m.1.toNat) : d.getD i 0 * ent m i j = -(d.getD j 0 * ent m j i) := by
  by_cases ha : ent m i j = 0
  · rw [ha, (sizes_zero hs hi hj).1 ha]; simp
  · obtain ⟨L, a1, a2, a3, a4, a5⟩ := (h i hi).2.2 (hp i hi)
    exact prop_edge (he i hi).1 (he j hj).1 (a5 e he j (a3 j hj ha)) ((he i hi).2 j hj)
theorem part_none {m : Int × Int × List Int} {d : List Int} (hs : sizesK m = true) (h : Part m.1.toNat (ent m) (fun x => d.getD x 0)) (hp : ∀ x, x < m.1.toNat → 0 < d.getD x 0)
    {i j : Nat} (hi : i < m.1.toNat) (hj : j < m.1.toNat) (hc : d.getD i 0 * ent m i j ≠ -(d.getD j 0 * ent m j i)) : facK m = [] := by
  refine fac_none (fun ⟨e, he⟩ => hc ?_)
  by_cases ha : ent m i j = 0
  · rw [ha, (sizes_zero hs hi hj).1 ha]; simp
  · obtain ⟨L, a1, a2, a3, a4, a5⟩ := (h i hi).2.2 (hp i hi)
    exact prop_edge (he i hi).1 (he j hj).1 (a5 e he j (a3 j hj ha)) ((he i hi).2 j hj)
end Go.Fw
namespace Go.Fw
def cutP (i : Nat) (p : ByteArray) : ByteArray := if decide (0 < i) = true then (if decide (0 < (p.size : Int)) = true then p.extract 1 p.size else p) else p
noncomputable def goS : List ByteArray → Nat → List Int → Int → Option (List Int × Int)
  | [], _, out, c => some (out, c)
  | p :: ps, i, out, c => if (parseS (cutP i p)).2 = true then goS ps (i + 1) (out ++ (parseS (cutP i p)).1) ((parseS (cutP i p)).1.length : Int) else none
noncomputable def goI : List ByteArray → List Int → Int → Nat → Option (List Int × Int × Nat)
  | [], out, c, r => some (out, c, r)
  | p :: ps, out, c, r => if (parseI p).2 = true then (if decide (0 < r) = true then (if ((parseI p).1.length : Int) = c then goI ps (out ++ (parseI p).1) ((parseI p).1.length : Int) (r + 1) else none) else goI ps (out ++ (parseI p).1) ((parseI p).1.length : Int) (r + 1)) else none
theorem goI_rows {c : Nat} : ∀ (rows : List (List Int)) (out : List Int) (r : Nat) (c0 : Int), (∀ x ∈ rows, x ≠ [] ∧ x.length = c ∧ ∀ n ∈ x, inK n (-999999999) 999999999 = true) → (0 < r → c0 = c) → rows ≠ [] →
    goI (rows.map itoasB) out c0 r = some (out ++ rows.flatten, (c : Int), r + rows.length)
  | [], _, _, _, _, _, h => absurd rfl h
  | x :: xs, out, r, c0, hx, hc, _ => by
    obtain ⟨h1, h2, h3⟩ := hx x (List.mem_cons_self ..)
    have hp : parseI (itoasB x) = (x, true) := (parse_same _).trans (parse_row h1 h3)
    have e : goI ((x :: xs).map itoasB) out c0 r = goI (xs.map itoasB) (out ++ x) (c : Int) (r + 1) := by
      rw [List.map_cons, goI, hp, if_pos rfl]
      by_cases h : 0 < r
      · rw [if_pos (dt h), if_pos (by rw [h2]; exact (hc h).symm), h2]
      · rw [if_neg (by simp [h]), h2]
    rw [e]
    by_cases hn : xs = []
    · subst hn
      simp [goI]
    · rw [goI_rows xs (out ++ x) (r + 1) c (fun y hy => hx y (List.mem_cons_of_mem _ hy)) (fun _ => rfl) hn]
      simp
      omega
theorem goS_rows {c : Nat} : ∀ (rows : List (List Int)) (i : Nat) (out : List Int) (c0 : Int), (∀ x ∈ rows, x ≠ [] ∧ x.length = c ∧ ∀ n ∈ x, inK n (-999999999) 999999999 = true) → rows ≠ [] → ∀ (ps : List ByteArray), ps.length = rows.length → (∀ (j : Nat), j < rows.length → cutP (i + j) (ps.getD j ByteArray.empty) = itoasB (rows.getD j [])) →
    goS ps i out c0 = some (out ++ rows.flatten, (c : Int))
  | [], _, _, _, _, h, _, _, _ => absurd rfl h
  | x :: xs, i, out, c0, hx, _, [], hl, _ => by simp at hl
  | x :: xs, i, out, c0, hx, _, p :: ps, hl, hps => by
    obtain ⟨h1, h2, h3⟩ := hx x (List.mem_cons_self ..)
    have hp : cutP i p = itoasB x := hps 0 (by simp)
    rw [goS, hp, parse_row h1 h3, if_pos rfl, h2]
    by_cases hn : xs = []
    · subst hn
      have : ps = [] := by cases ps with
        | nil => rfl
        | cons y ys => simp at hl
      subst this
      simp [goS]
    · have := goS_rows xs (i + 1) (out ++ x) c (fun y hy => hx y (List.mem_cons_of_mem _ hy)) hn ps (by simpa using hl) fun j hj => by
        have := hps (j + 1) (by simp; omega)
        rw [show i + 1 + j = i + (j + 1) by omega]
        simpa using this
      show goS ps (i + 1) (out ++ x) (c : Int) = _
      rw [this]
      simp
theorem parts59 (p : UInt8 → Bool) (hp : ∀ b, p b = true ↔ b = 59) : ∀ (ys : List (List UInt8)) (x : List UInt8), (∀ z ∈ x :: ys, ∀ b ∈ z, b ≠ (59 : UInt8)) → partsK p (Lib.join (x :: ys) [59, 32]) = x :: ys.map (32 :: ·)
  | [], x, h => by
    have hx : ∀ b ∈ x, p b = false := fun b hb => by
      have := h x (List.mem_cons_self ..) b hb
      cases hq : p b with
      | false => rfl
      | true => exact absurd ((hp b).1 hq) this
    rw [Lib.join_one]
    have := parts_app (p := p) x [] hx
    rw [List.append_nil] at this
    rw [this]
    simp [partsK, glue]
  | y :: ys, x, h => by
    have hx : ∀ b ∈ x, p b = false := fun b hb => by
      have := h x (List.mem_cons_self ..) b hb
      cases hq : p b with
      | false => rfl
      | true => exact absurd ((hp b).1 hq) this
    have h32 : ¬ p 32 = true := fun e => absurd ((hp 32).1 e) (by decide)
    have ih := parts59 p hp ys y fun z hz => h z (List.mem_cons_of_mem _ hz)
    rw [join2_cons, parts_app _ _ hx, glue_sep ((hp 59).2 rfl), partsK, if_neg h32, ih]
    rfl
def rowsK (m : Int × Int × List Int) : List (List Int) := (List.range m.2.1.toNat).map (rowD m)
theorem rowsT_map (m : Int × Int × List Int) : rowsT m = (rowsK m).map itoasL := by simp [rowsT, rowsK]
theorem flat_rows (n : Nat) (l : List Int) : ∀ r, ((List.range r).map fun i => (l.drop (i * n)).take n).flatten = l.take (r * n)
  | 0 => by simp
  | r + 1 => by
    rw [List.range_succ, List.map_append, List.flatten_append, flat_rows n l r, Nat.add_mul, Nat.one_mul, List.take_add]
    simp
theorem rowsK_facts {m : Int × Int × List Int} (h : shapedK m = true) : (∀ x ∈ rowsK m, x ≠ [] ∧ x.length = m.1.toNat ∧ ∀ n ∈ x, inK n (-999999999) 999999999 = true) ∧ rowsK m ≠ [] ∧ (rowsK m).length = m.2.1.toNat ∧ (rowsK m).flatten = m.2.2 := by
  simp only [shapedK, Bool.and_eq_true] at h
  obtain ⟨n, r, hn, hr, hn1, hn5, hnr, hr8, hl⟩ := dim_nat h.1
  have en : m.1.toNat = n := by omega
  have er : m.2.1.toNat = r := by omega
  refine ⟨fun x hx => ?_, fun e => ?_, by simp [rowsK], ?_⟩
  · obtain ⟨i, hi, rfl⟩ := List.mem_map.1 hx
    have hi := List.mem_range.1 hi
    have hlt : i * n + n ≤ m.2.2.length := by
      have := Nat.mul_le_mul_right n (show i + 1 ≤ r by omega)
      rw [Nat.add_mul, Nat.one_mul] at this
      rw [hl]
      exact this
    have hlen : (rowD m i).length = n := by
      unfold rowD
      rw [en, List.length_take, List.length_drop]
      omega
    refine ⟨fun e => ?_, by rw [hlen, en], fun k hk => ?_⟩
    · rw [e] at hlen
      simp at hlen
      omega
    · have hx2 := List.mem_of_mem_drop (List.mem_of_mem_take hk)
      have := inK_iff.1 ((List.all_eq_true.1 h.2) k hx2)
      exact inK_iff.2 ⟨by omega, by omega⟩
  · have := congrArg List.length e
    simp [rowsK] at this
    omega
  · have := flat_rows n m.2.2 r
    unfold rowsK
    rw [er]
    have e2 : rowD m = fun i => (m.2.2.drop (i * n)).take n := by
      funext i
      unfold rowD
      rw [en]
    rw [e2, this]
    exact List.take_of_length_le (by omega)
theorem read_I {m : Int × Int × List Int} (h : shapedK m = true) : goI (Lib.splitB ⟨#[59, 32]⟩ 0 (Lib.countB (fmtM m) ⟨#[59, 32]⟩) (fmtM m)) [] 0 0 = some (m.2.2, m.1, m.2.1.toNat) := by
  obtain ⟨h1, h2, h3, h4⟩ := rowsK_facts h
  have hd := h
  simp only [shapedK, Bool.and_eq_true] at hd
  obtain ⟨n, r, hn, hr, hn1, hn5, hnr, hr8, hl⟩ := dim_nat hd.1
  have e : Lib.splitB ⟨#[59, 32]⟩ 0 (Lib.countB (fmtM m) ⟨#[59, 32]⟩) (fmtM m) = (rowsK m).map itoasB := by
    have := split_two (rows := rowsT m) (by rw [rowsT_map]; simpa using h2) fun x hx => by
      rw [rowsT_map] at hx
      obtain ⟨z, _, rfl⟩ := List.mem_map.1 hx
      exact itoas_no59 z
    refine this.trans ?_
    rw [rowsT_map, List.map_map]
    rfl
  rw [e, goI_rows (rowsK m) [] 0 0 h1 (fun h => absurd h (by omega)) h2, h3, h4]
  simp
  omega
theorem read_S {m : Int × Int × List Int} (h : shapedK m = true) (p : UInt8 → Bool) (hp : ∀ b, p b = true ↔ b = 59) :
    ((partsK p (fmtM m).data.toList).map baOf).length = m.2.1.toNat ∧ goS (((partsK p (fmtM m).data.toList).map baOf).take 9) 0 [] 0 = some (m.2.2, m.1) := by
  obtain ⟨h1, h2, h3, h4⟩ := rowsK_facts h
  have hd := h
  simp only [shapedK, Bool.and_eq_true] at hd
  obtain ⟨n, r, hn, hr, hn1, hn5, hnr, hr8, hl⟩ := dim_nat hd.1
  have hf : (fmtM m).data.toList = Lib.join (rowsT m) [59, 32] := txt_data _
  cases hq : rowsK m with
  | nil => exact absurd hq h2
  | cons x xs =>
    have e : partsK p (fmtM m).data.toList = itoasL x :: (xs.map itoasL).map (32 :: ·) := by
      rw [hf, rowsT_map, hq, List.map_cons]
      refine parts59 p hp _ _ fun z hz => ?_
      rw [← List.map_cons] at hz
      obtain ⟨w, _, rfl⟩ := List.mem_map.1 hz
      exact itoas_no59 w
    have hlen : ((partsK p (fmtM m).data.toList).map baOf).length = m.2.1.toNat := by
      rw [e, ← h3, hq]
      simp
    refine ⟨hlen, ?_⟩
    rw [List.take_of_length_le (by omega)]
    rw [goS_rows (c := m.1.toNat) (rowsK m) 0 [] 0 h1 h2 _ (by rw [hlen, h3]) fun j hj => ?_, h4]
    · simp
      omega
    · rw [e, hq, Nat.zero_add]
      cases j with
      | zero => rfl
      | succ j =>
        have hj : j < xs.length := by rw [hq] at hj; simpa using hj
        have e1 : ((itoasL x :: (xs.map itoasL).map (32 :: ·)).map baOf).getD (j + 1) ByteArray.empty = baOf (32 :: itoasL xs[j]) := by
          simp [List.getD_eq_getElem?_getD, hj]
        have e2 : (x :: xs).getD (j + 1) [] = xs[j] := by
          simp [List.getD_eq_getElem?_getD, hj]
        rw [e1, e2]
        unfold cutP
        have hs : (baOf (32 :: itoasL xs[j])).size = (itoasL xs[j]).length + 1 := by
          rw [Lib.size_eq]
          simp [baOf]
        rw [if_pos (dt (by omega)), if_pos (dt (by omega))]
        have : (baOf (32 :: itoasL xs[j])).extract 1 (baOf (32 :: itoasL xs[j])).size = baOf (itoasL xs[j]) := by
          rw [← baOf_data ((baOf (32 :: itoasL xs[j])).extract 1 _), Lib.extract_data, hs]
          simp [baOf]
        rw [this]
        rfl
def no3 : (Int × Int × List Int) × Bool := ((0, 0, []), false)
noncomputable def partsS (s : ByteArray) : List ByteArray := (partsK (fun b => decide ((b.toNat : Int) = 59)) s.data.toList).map baOf
noncomputable def endPS (s : ByteArray) (m : Int × Int × List Int) : (Int × Int × List Int) × Bool := if strEq (if (sizesK m && !decide (facK m = [])) = true then fmtM m else ByteArray.empty) s = true then (if strEq s ByteArray.empty = true then no3 else (m, true)) else no3
noncomputable def endPI (s : ByteArray) (m : Int × Int × List Int) : (Int × Int × List Int) × Bool := if (shapedK m && !decide (facK m = [])) = true then (if strEq (if (shapedK m && !decide (facK m = [])) = true then fmtM m else ByteArray.empty) s = true then (m, true) else no3) else no3
noncomputable def readS (s : ByteArray) : (Int × Int × List Int) × Bool := match goS ((partsS s).take 9) 0 [] 0 with
  | some q => endPS s (q.2, ((partsS s).length : Int), q.1)
  | none => no3
noncomputable def readI (s : ByteArray) : (Int × Int × List Int) × Bool := match goI (Lib.splitB ⟨#[59, 32]⟩ 0 (Lib.countB s ⟨#[59, 32]⟩) s) [] 0 0 with
  | some q => endPI s (q.2.1, (q.2.2 : Int), q.1)
  | none => no3
theorem endPS_cases {s : ByteArray} {m : Int × Int × List Int} : endPS s m = no3 ∨ (endPS s m = (m, true) ∧ shapedK m = true ∧ facK m ≠ [] ∧ fmtM m = s) := by
  unfold endPS
  by_cases h1 : strEq (if (sizesK m && !decide (facK m = [])) = true then fmtM m else ByteArray.empty) s = true
  · rw [if_pos h1]
    by_cases h2 : strEq s ByteArray.empty = true
    · exact .inl (if_pos h2)
    · refine .inr ⟨if_neg h2, ?_⟩
      have e := strEq_iff.1 h1
      by_cases h3 : (sizesK m && !decide (facK m = [])) = true
      · rw [if_pos h3] at e
        simp only [Bool.and_eq_true, Bool.not_eq_true', decide_eq_false_iff_not] at h3
        exact ⟨sizes_shaped h3.1, h3.2, e⟩
      · rw [if_neg h3] at e
        exact absurd (strEq_iff.2 e.symm) h2
  · exact .inl (if_neg h1)
theorem endPI_cases {s : ByteArray} {m : Int × Int × List Int} : endPI s m = no3 ∨ (endPI s m = (m, true) ∧ shapedK m = true ∧ facK m ≠ [] ∧ fmtM m = s) := by
  unfold endPI
  by_cases h3 : (shapedK m && !decide (facK m = [])) = true
  · rw [if_pos h3, if_pos h3]
    by_cases h1 : strEq (fmtM m) s = true
    · simp only [Bool.and_eq_true, Bool.not_eq_true', decide_eq_false_iff_not] at h3
      exact .inr ⟨if_pos h1, h3.1, h3.2, strEq_iff.1 h1⟩
    · exact .inl (if_neg h1)
  · exact .inl (if_neg h3)
theorem fmt_ne {m : Int × Int × List Int} (h : shapedK m = true) : strEq (fmtM m) ByteArray.empty ≠ true := fun he => by
  obtain ⟨h1, h2, h3, h4⟩ := rowsK_facts h
  have e := congrArg (fun b : ByteArray => b.data.toList) (strEq_iff.1 he)
  have hf : (fmtM m).data.toList = Lib.join (rowsT m) [59, 32] := txt_data _
  have e : (fmtM m).data.toList = [] := by simpa using e
  rw [hf, rowsT_map] at e
  cases hq : rowsK m with
  | nil => exact h2 hq
  | cons x xs =>
    rw [hq, List.map_cons, Lib.join_cons] at e
    have := itoas_ne (h1 x (by rw [hq]; exact List.mem_cons_self ..)).1
    exact this (List.append_eq_nil_iff.1 e).1
theorem readS_right {m : Int × Int × List Int} (h : shapedK m = true) (hf : facK m ≠ []) : readS (fmtM m) = (m, true) := by
  have hd := h
  simp only [shapedK, Bool.and_eq_true] at hd
  obtain ⟨n, r, hn, hr, hn1, hn5, hnr, hr8, hl⟩ := dim_nat hd.1
  obtain ⟨h1, h2⟩ := read_S h (fun b => decide ((b.toNat : Int) = 59)) fun b => by
    rw [decide_eq_true_eq]
    constructor
    · intro e
      exact UInt8.toNat_inj.1 (by show b.toNat = 59; omega)
    · intro e
      subst e
      rfl
  unfold readS partsS
  rw [h2, h1]
  have e : ((m.1, ((m.2.1.toNat : Nat) : Int), m.2.2) : Int × Int × List Int) = m := by
    rw [show ((m.2.1.toNat : Nat) : Int) = m.2.1 by omega]
  show endPS (fmtM m) (m.1, ((m.2.1.toNat : Nat) : Int), m.2.2) = _
  rw [e]
  unfold endPS
  have hz : (sizesK m && !decide (facK m = [])) = true := by rw [fac_sizes h hf]; simpa using hf
  rw [if_pos hz, if_pos (strEq_iff.2 rfl), if_neg (fmt_ne h)]
theorem readI_right {m : Int × Int × List Int} (h : shapedK m = true) (hf : facK m ≠ []) : readI (fmtM m) = (m, true) := by
  have hd := h
  simp only [shapedK, Bool.and_eq_true] at hd
  obtain ⟨n, r, hn, hr, hn1, hn5, hnr, hr8, hl⟩ := dim_nat hd.1
  unfold readI
  rw [read_I h]
  have e : ((m.1, ((m.2.1.toNat : Nat) : Int), m.2.2) : Int × Int × List Int) = m := by
    rw [show ((m.2.1.toNat : Nat) : Int) = m.2.1 by omega]
  show endPI (fmtM m) (m.1, ((m.2.1.toNat : Nat) : Int), m.2.2) = _
  rw [e]
  unfold endPI
  have hz : (shapedK m && !decide (facK m = [])) = true := by rw [h]; simpa using hf
  rw [if_pos hz, if_pos hz, if_pos (strEq_iff.2 rfl)]
theorem readS_cases (s : ByteArray) : readS s = no3 ∨ ∃ m, readS s = (m, true) ∧ shapedK m = true ∧ facK m ≠ [] ∧ fmtM m = s := by
  unfold readS
  cases goS ((partsS s).take 9) 0 [] 0 with
  | none => exact .inl rfl
  | some q =>
    rcases endPS_cases (s := s) (m := (q.2, ((partsS s).length : Int), q.1)) with h | h
    · exact .inl h
    · exact .inr ⟨_, h⟩
theorem readI_cases (s : ByteArray) : readI s = no3 ∨ ∃ m, readI s = (m, true) ∧ shapedK m = true ∧ facK m ≠ [] ∧ fmtM m = s := by
  unfold readI
  cases goI (Lib.splitB ⟨#[59, 32]⟩ 0 (Lib.countB s ⟨#[59, 32]⟩) s) [] 0 0 with
  | none => exact .inl rfl
  | some q =>
    rcases endPI_cases (s := s) (m := (q.2.1, (q.2.2 : Int), q.1)) with h | h
    · exact .inl h
    · exact .inr ⟨_, h⟩
theorem read_same (s : ByteArray) : readI s = readS s := by
  rcases readS_cases s with h | ⟨m, h, h1, h2, h3⟩
  · rcases readI_cases s with h' | ⟨m, h', h1, h2, h3⟩
    · rw [h, h']
    · have := readS_right h1 h2
      rw [h3, h] at this
      have := congrArg Prod.snd this
      exact absurd this (by simp [no3])
  · rw [h, ← h3]
    exact readI_right h1 h2
theorem parseS_len {s : ByteArray} (h : s.size ≤ 1048576) : (parseS s).1.length ≤ 1048577 := by
  have hl := prt_len s
  unfold parseS
  split
  · decide
  · cases hq : allP partS (prtB s) with
    | none => decide
    | some l =>
      obtain ⟨_, hm⟩ := allP_SI hq
      have := congrArg List.length hm
      rw [List.length_map] at this
      show l.length ≤ _
      omega
theorem count2_le : ∀ (fuel : Nat) (l : List UInt8), 2 * Lib.countFrom [59, 32] fuel l ≤ l.length
  | 0, l => by simp [Lib.countFrom]
  | fuel + 1, l => by
    rw [Lib.countFrom]
    by_cases h : (Lib.index l [59, 32] == -1) = true
    · rw [if_pos h]
      omega
    · rw [if_neg h]
      have hge := Lib.index_ge l [59, 32]
      have hne : Lib.index l [59, 32] ≠ -1 := fun e => h (beq_iff_eq.2 e)
      have hr := Lib.index_room l [59, 32] (by omega)
      have h2 : ([59, 32] : List UInt8).length = 2 := rfl
      rw [h2] at hr ⊢
      have ih := count2_le fuel (l.drop ((Lib.index l [59, 32]).toNat + 2))
      rw [List.length_drop] at ih
      omega
theorem splitB_sz (sep : ByteArray) : ∀ (k : Nat) (s : ByteArray), ∀ w ∈ Lib.splitB sep 0 k s, w.size ≤ s.size
  | 0, s, w, hw => by
    rw [Lib.splitB_zero, List.mem_singleton] at hw
    rw [hw]
    exact Nat.le_refl _
  | k + 1, s, w, hw => by
    by_cases h : Lib.indexB s sep = -1
    · rw [Lib.splitB_miss _ _ _ _ h, List.mem_singleton] at hw
      rw [hw]
      exact Nat.le_refl _
    · have hge : -1 ≤ Lib.indexB s sep := Lib.index_ge _ _
      obtain ⟨i, hi⟩ := Int.eq_ofNat_of_zero_le (show 0 ≤ Lib.indexB s sep by omega)
      rw [Lib.splitB_hit _ _ _ _ i hi] at hw
      rcases List.mem_cons.1 hw with rfl | hw
      · rw [ByteArray.size_extract]
        omega
      · have := splitB_sz sep k _ w hw
        rw [ByteArray.size_extract] at this
        omega
theorem split2_sizes (s : ByteArray) : 2 * (Lib.splitB ⟨#[59, 32]⟩ 0 (Lib.countB s ⟨#[59, 32]⟩) s).length ≤ s.size + 2 ∧ ∀ w ∈ Lib.splitB ⟨#[59, 32]⟩ 0 (Lib.countB s ⟨#[59, 32]⟩) s, w.size ≤ s.size := by
  refine ⟨?_, splitB_sz _ _ _⟩
  have h1 := Lib.splitB_length_le ⟨#[59, 32]⟩ 0 (Lib.countB s ⟨#[59, 32]⟩) s
  have h2 : 2 * Lib.countB s ⟨#[59, 32]⟩ ≤ s.size := by
    rw [Lib.size_eq]
    exact count2_le _ _
  omega
end Go.Fw
namespace Go.Fw
theorem join_mem {sep : List UInt8} {b : UInt8} : ∀ {xs : List (List UInt8)}, b ∈ Lib.join xs sep → (∃ x ∈ xs, b ∈ x) ∨ b ∈ sep
  | [], h => by simp [Lib.join_nil] at h
  | x :: xs, h => by
    rw [Lib.join_cons] at h
    rcases List.mem_append.1 h with h | h
    · exact .inl ⟨x, List.mem_cons_self .., h⟩
    · unfold Lib.joinTail at h
      obtain ⟨l, hl, hb⟩ := List.mem_flatten.1 h
      obtain ⟨z, hz, rfl⟩ := List.mem_map.1 hl
      rcases List.mem_append.1 hb with hb | hb
      · exact .inr hb
      · exact .inl ⟨z, List.mem_cons_of_mem _ hz, hb⟩
theorem itoa_byte {n : Int} {b : UInt8} (h : b ∈ Lib.itoa n) : b = 45 ∨ digB b = true := by
  unfold Lib.itoa at h
  split at h
  · rcases List.mem_cons.1 h with rfl | h
    · exact .inl rfl
    · exact .inr (List.all_eq_true.1 (dec_all _) b h)
  · exact .inr (List.all_eq_true.1 (dec_all _) b h)
theorem itoa_no {n : Int} {c : UInt8} (h1 : c ≠ 45) (h2 : digB c = false) : ∀ b ∈ Lib.itoa n, b ≠ c := fun b hb e => by
  subst e
  rcases itoa_byte hb with h | h
  · exact h1 h
  · rw [h2] at h; cases h
theorem itoas_no {l : List Int} {c : UInt8} (h1 : c ≠ 45) (h2 : digB c = false) (h3 : c ≠ 32) : ∀ b ∈ itoasL l, b ≠ c := fun b hb e => by
  subst e
  rcases join_mem hb with ⟨x, hx, hb⟩ | hb
  · obtain ⟨n, _, rfl⟩ := List.mem_map.1 hx
    exact itoa_no h1 h2 b hb rfl
  · exact h3 (List.mem_singleton.1 hb)
theorem term_no {t : List Int × Int} {c : UInt8} (h1 : c ≠ 45) (h2 : digB c = false) (h3 : c ≠ 32) (h4 : c ≠ 58) : ∀ b ∈ termT t, b ≠ c := fun b hb e => by
  subst e
  unfold termT at hb
  rcases List.mem_append.1 hb with hb | hb
  · rcases List.mem_append.1 hb with hb | hb
    · exact itoa_no h1 h2 b hb rfl
    · exact h4 (List.mem_singleton.1 hb)
  · exact itoas_no h1 h2 h3 b hb rfl
theorem idxc_hit {c : UInt8} (x t : List UInt8) (hx : ∀ b ∈ x, b ≠ c) : Lib.index (x ++ c :: 32 :: t) [c, 32] = x.length := by
  refine Lib.index_first (by simp) (by simp [Lib.occAt, List.isPrefixOf]) fun j hj => ?_
  have hlt : j < (x ++ c :: 32 :: t).length := by simp; omega
  unfold Lib.occAt
  rw [List.drop_eq_getElem_cons hlt, List.getElem_append_left hj]
  have := hx x[j] (List.getElem_mem hj)
  simp [List.isPrefixOf]
  intro e
  exact absurd e.symm this
theorem idxc_miss {c : UInt8} (x : List UInt8) (hx : ∀ b ∈ x, b ≠ c) : Lib.index x [c, 32] = -1 := by
  refine Lib.index_none fun j hj => ?_
  unfold Lib.occAt
  by_cases h : j < x.length
  · rw [List.drop_eq_getElem_cons h]
    have := hx x[j] (List.getElem_mem h)
    simp [List.isPrefixOf]
    intro e
    exact absurd e.symm this
  · rw [List.drop_of_length_le (by omega)]
    rfl
theorem joinc_cons (c : UInt8) (x y : List UInt8) (ys : List (List UInt8)) : Lib.join (x :: y :: ys) [c, 32] = x ++ c :: 32 :: Lib.join (y :: ys) [c, 32] := by
  rw [Lib.join_cons, Lib.join_cons]
  simp [Lib.joinTail]
theorem dropc2 (c : UInt8) (x t : List UInt8) : (x ++ c :: 32 :: t).drop (x.length + 2) = t := by
  rw [List.drop_append, List.drop_of_length_le (by omega)]
  simp
theorem splitKc {c : UInt8} : ∀ (rows : List (List UInt8)), rows ≠ [] → (∀ x ∈ rows, ∀ b ∈ x, b ≠ c) → Lib.splitK [c, 32] 0 (rows.length - 1) (Lib.join rows [c, 32]) = rows
  | [], h, _ => absurd rfl h
  | [x], _, _ => by
    rw [Lib.join_one]
    rfl
  | x :: y :: ys, _, h => by
    have ih := splitKc (y :: ys) (by simp) fun z hz => h z (List.mem_cons_of_mem _ hz)
    have hx := h x (List.mem_cons_self ..)
    rw [joinc_cons]
    have e : (x :: y :: ys).length - 1 = ((y :: ys).length - 1) + 1 := by simp
    rw [e, Lib.splitK, idxc_hit x _ hx, if_neg (by simp)]
    have e2 : ((x.length : Nat) : Int).toNat = x.length := Int.toNat_natCast _
    rw [e2, Nat.add_zero, List.take_left, show x.length + ([c, 32] : List UInt8).length = x.length + 2 from rfl, dropc2, ih]
theorem countFc {c : UInt8} : ∀ (rows : List (List UInt8)) (fuel : Nat), rows ≠ [] → rows.length ≤ fuel → (∀ x ∈ rows, ∀ b ∈ x, b ≠ c) → Lib.countFrom [c, 32] fuel (Lib.join rows [c, 32]) = rows.length - 1
  | [], _, h, _, _ => absurd rfl h
  | [x], 0, _, hf, _ => by simp at hf
  | [x], fuel + 1, _, _, h => by
    rw [Lib.join_one, Lib.countFrom, idxc_miss x (h x (List.mem_cons_self ..))]
    rfl
  | x :: y :: ys, 0, _, hf, _ => by simp at hf
  | x :: y :: ys, fuel + 1, _, hf, h => by
    have ih := countFc (y :: ys) fuel (by simp) (by simp at hf ⊢; omega) fun z hz => h z (List.mem_cons_of_mem _ hz)
    rw [joinc_cons, Lib.countFrom, idxc_hit x _ (h x (List.mem_cons_self ..)), if_neg (by simp)]
    have e2 : ((x.length : Nat) : Int).toNat = x.length := Int.toNat_natCast _
    rw [e2, show x.length + ([c, 32] : List UInt8).length = x.length + 2 from rfl, dropc2, ih]
    simp
    omega
theorem joinc_ge (c : UInt8) : ∀ (rows : List (List UInt8)), rows.length ≤ (Lib.join rows [c, 32]).length + 1
  | [] => by simp
  | [x] => by simp
  | x :: y :: ys => by
    have := joinc_ge c (y :: ys)
    rw [joinc_cons]
    simp at this ⊢
    omega
theorem split_c {c : UInt8} {rows : List (List UInt8)} (h0 : rows ≠ []) (h : ∀ x ∈ rows, ∀ b ∈ x, b ≠ c) :
    Lib.splitB ⟨#[c, 32]⟩ 0 (Lib.countB (txt (Lib.join rows [c, 32])) ⟨#[c, 32]⟩) (txt (Lib.join rows [c, 32])) = rows.map txt := by
  have hd : (⟨#[c, 32]⟩ : ByteArray).data.toList = [c, 32] := rfl
  have hc : Lib.countB (txt (Lib.join rows [c, 32])) ⟨#[c, 32]⟩ = rows.length - 1 := by
    show Lib.count (txt (Lib.join rows [c, 32])).data.toList (⟨#[c, 32]⟩ : ByteArray).data.toList = _
    rw [txt_data, hd, Lib.count]
    exact countFc rows _ h0 (joinc_ge c rows) h
  have h2 := Lib.splitB_data ⟨#[c, 32]⟩ 0 (rows.length - 1) (txt (Lib.join rows [c, 32]))
  rw [txt_data, hd, splitKc rows h0 h] at h2
  rw [hc]
  generalize Lib.splitB ⟨#[c, 32]⟩ 0 (rows.length - 1) (txt (Lib.join rows [c, 32])) = q at h2
  rw [← h2, List.map_map]
  have e : (txt ∘ fun x : ByteArray => x.data.toList) = id := by
    funext x
    simp [txt]
  rw [e, List.map_id]
theorem partsc {c : UInt8} (hc : c ≠ 32) (p : UInt8 → Bool) (hp : ∀ b, p b = true ↔ b = c) : ∀ (ys : List (List UInt8)) (x : List UInt8), (∀ z ∈ x :: ys, ∀ b ∈ z, b ≠ c) → partsK p (Lib.join (x :: ys) [c, 32]) = x :: ys.map (32 :: ·)
  | [], x, h => by
    have hx : ∀ b ∈ x, p b = false := fun b hb => by
      have := h x (List.mem_cons_self ..) b hb
      cases hq : p b with
      | false => rfl
      | true => exact absurd ((hp b).1 hq) this
    rw [Lib.join_one]
    have := parts_app (p := p) x [] hx
    rw [List.append_nil] at this
    rw [this]
    simp [partsK, glue]
  | y :: ys, x, h => by
    have hx : ∀ b ∈ x, p b = false := fun b hb => by
      have := h x (List.mem_cons_self ..) b hb
      cases hq : p b with
      | false => rfl
      | true => exact absurd ((hp b).1 hq) this
    have h32 : ¬ p 32 = true := fun e => hc ((hp 32).1 e).symm
    have ih := partsc hc p hp ys y fun z hz => h z (List.mem_cons_of_mem _ hz)
    rw [joinc_cons, parts_app _ _ hx, glue_sep ((hp c).2 rfl), partsK, if_neg h32, ih]
    rfl
theorem idx1_hit {c : UInt8} (x t : List UInt8) (hx : ∀ b ∈ x, b ≠ c) : Lib.index (x ++ c :: t) [c] = x.length := by
  refine Lib.index_first (by simp) (by simp [Lib.occAt, List.isPrefixOf]) fun j hj => ?_
  have hlt : j < (x ++ c :: t).length := by simp; omega
  unfold Lib.occAt
  rw [List.drop_eq_getElem_cons hlt, List.getElem_append_left hj]
  have := hx x[j] (List.getElem_mem hj)
  simp [List.isPrefixOf]
  intro e
  exact absurd e.symm this
theorem cut_hit {c : UInt8} (x t : List UInt8) (hx : ∀ b ∈ x, b ≠ c) : Lib.cut (x ++ c :: t) [c] = (x, t, true) := by
  unfold Lib.cut
  rw [idx1_hit x t hx, if_pos (by omega), Int.toNat_natCast, List.take_left, show x.length + ([c] : List UInt8).length = x.length + 1 from rfl]
  have : (x ++ c :: t).drop (x.length + 1) = t := by
    rw [List.drop_append, List.drop_of_length_le (by omega)]
    simp
  rw [this]
theorem parts_two {c : UInt8} {p : UInt8 → Bool} (hp : ∀ b, p b = true ↔ b = c) (x t : List UInt8) (hx : ∀ b ∈ x, b ≠ c) (ht : ∀ b ∈ t, b ≠ c) : partsK p (x ++ c :: t) = [x, t] := by
  have hn : ∀ (z : List UInt8), (∀ b ∈ z, b ≠ c) → ∀ b ∈ z, p b = false := fun z hz b hb => by
    cases hq : p b with
    | false => rfl
    | true => exact absurd ((hp b).1 hq) (hz b hb)
  rw [parts_app x _ (hn x hx), glue_sep ((hp c).2 rfl)]
  have := parts_app (p := p) t [] (hn t ht)
  rw [List.append_nil] at this
  rw [this]
  simp [partsK, glue]
noncomputable def partsA (c : Int) (s : ByteArray) : List ByteArray := (partsK (fun b => decide ((b.toNat : Int) = c)) s.data.toList).map baOf
noncomputable def cutV (s sep : ByteArray) : ByteArray × ByteArray × Bool := (⟨(Lib.cut s.data.toList sep.data.toList).1.toArray⟩, ⟨(Lib.cut s.data.toList sep.data.toList).2.1.toArray⟩, (Lib.cut s.data.toList sep.data.toList).2.2)
def zeroT : ByteArray := ⟨#[48]⟩
noncomputable def goSL : List ByteArray → Nat → List (List Int × Int) → Option (List (List Int × Int))
  | [], _, out => some out
  | p :: ps, i, out => if (partsA 58 (cutP i p)).length = 2 then
      (if (numK ((partsA 58 (cutP i p)).getD 0 ByteArray.empty)).2 = true then
        (if (parseS ((partsA 58 (cutP i p)).getD 1 ByteArray.empty)).2 = true then
          goSL ps (i + 1) (out ++ [((parseS ((partsA 58 (cutP i p)).getD 1 ByteArray.empty)).1, (numK ((partsA 58 (cutP i p)).getD 0 ByteArray.empty)).1)])
        else none) else none) else none
noncomputable def goIL : List ByteArray → List (List Int × Int) → Option (List (List Int × Int))
  | [], out => some out
  | t :: ts, out => if (cutV t ⟨#[58]⟩).2.2 = true then
      (if (parseI (cutV t ⟨#[58]⟩).1).2 = true then
        (if (parseI (cutV t ⟨#[58]⟩).2.1).2 = true then
          (if (parseI (cutV t ⟨#[58]⟩).1).1.length = 1 then
            goIL ts (out ++ [((parseI (cutV t ⟨#[58]⟩).2.1).1, (parseI (cutV t ⟨#[58]⟩).1).1.getD 0 0)])
          else none) else none) else none) else none
def no2 : (Int × List (List Int × Int)) × Bool := ((0, []), false)
noncomputable def endLS (s : ByteArray) (f : Int × List (List Int × Int)) : (Int × List (List Int × Int)) × Bool := if strEq (if lokK f = true then fmtL f else ByteArray.empty) s = true then (f, true) else no2
noncomputable def endLI (s : ByteArray) (f : Int × List (List Int × Int)) : (Int × List (List Int × Int)) × Bool := if lokK f = true then (if strEq (if lokK f = true then fmtL f else ByteArray.empty) s = true then (f, true) else no2) else no2
noncomputable def tailS (t : ByteArray) : Option (List (List Int × Int)) := if strEq t zeroT = true then some [] else goSL ((partsA 44 t).take 601) 0 []
noncomputable def tailI (t : ByteArray) : Option (List (List Int × Int)) := if strEq t zeroT = true then some [] else goIL (Lib.splitB ⟨#[44, 32]⟩ 0 (Lib.countB t ⟨#[44, 32]⟩) t) []
noncomputable def readLS (s : ByteArray) : (Int × List (List Int × Int)) × Bool := if (partsA 124 s).length = 2 then
    (if (numK ((partsA 124 s).getD 0 ByteArray.empty)).2 = true then
      (match tailS ((partsA 124 s).getD 1 ByteArray.empty) with
        | some l => endLS s ((numK ((partsA 124 s).getD 0 ByteArray.empty)).1, l)
        | none => no2) else no2) else no2
noncomputable def readLI (s : ByteArray) : (Int × List (List Int × Int)) × Bool := if (cutV s ⟨#[124]⟩).2.2 = true then
    (if (parseI (cutV s ⟨#[124]⟩).1).2 = true then
      (if (parseI (cutV s ⟨#[124]⟩).1).1.length = 1 then
        (match tailI (cutV s ⟨#[124]⟩).2.1 with
          | some l => endLI s ((parseI (cutV s ⟨#[124]⟩).1).1.getD 0 0, l)
          | none => no2) else no2) else no2) else no2
theorem endLS_cases {s : ByteArray} {f : Int × List (List Int × Int)} (hs : s ≠ ByteArray.empty) : endLS s f = no2 ∨ (endLS s f = (f, true) ∧ lokK f = true ∧ fmtL f = s) := by
  unfold endLS
  by_cases h1 : strEq (if lokK f = true then fmtL f else ByteArray.empty) s = true
  · rw [if_pos h1]
    right
    refine ⟨rfl, ?_⟩
    have e := strEq_iff.1 h1
    by_cases h2 : lokK f = true
    · rw [if_pos h2] at e
      exact ⟨h2, e⟩
    · rw [if_neg h2] at e
      exact absurd e.symm hs
  · exact .inl (if_neg h1)
theorem endLI_cases {s : ByteArray} {f : Int × List (List Int × Int)} : endLI s f = no2 ∨ (endLI s f = (f, true) ∧ lokK f = true ∧ fmtL f = s) := by
  unfold endLI
  by_cases h2 : lokK f = true
  · rw [if_pos h2, if_pos h2]
    by_cases h1 : strEq (fmtL f) s = true
    · exact .inr ⟨if_pos h1, h2, strEq_iff.1 h1⟩
    · exact .inl (if_neg h1)
  · exact .inl (if_neg h2)
theorem readLS_cases (s : ByteArray) : readLS s = no2 ∨ ∃ f, readLS s = (f, true) ∧ lokK f = true ∧ fmtL f = s := by
  by_cases h2 : (partsA 124 s).length = 2
  · have hs : s ≠ ByteArray.empty := fun e => by
      subst e
      exact absurd h2 (by simp [partsA, partsK])
    unfold readLS
    rw [if_pos h2]
    by_cases h3 : (numK ((partsA 124 s).getD 0 ByteArray.empty)).2 = true
    · rw [if_pos h3]
      cases tailS ((partsA 124 s).getD 1 ByteArray.empty) with
      | none => exact .inl rfl
      | some l =>
        rcases endLS_cases (f := ((numK ((partsA 124 s).getD 0 ByteArray.empty)).1, l)) hs with h | h
        · exact .inl h
        · exact .inr ⟨_, h⟩
    · exact .inl (if_neg h3)
  · exact .inl (if_neg h2)
theorem readLI_cases (s : ByteArray) : readLI s = no2 ∨ ∃ f, readLI s = (f, true) ∧ lokK f = true ∧ fmtL f = s := by
  unfold readLI
  by_cases h1 : (cutV s ⟨#[124]⟩).2.2 = true
  · rw [if_pos h1]
    by_cases h2 : (parseI (cutV s ⟨#[124]⟩).1).2 = true
    · rw [if_pos h2]
      by_cases h3 : (parseI (cutV s ⟨#[124]⟩).1).1.length = 1
      · rw [if_pos h3]
        cases tailI (cutV s ⟨#[124]⟩).2.1 with
        | none => exact .inl rfl
        | some l =>
          rcases endLI_cases (s := s) (f := ((parseI (cutV s ⟨#[124]⟩).1).1.getD 0 0, l)) with h | h
          · exact .inl h
          · exact .inr ⟨_, h⟩
      · exact .inl (if_neg h3)
    · exact .inl (if_neg h2)
  · exact .inl (if_neg h1)
noncomputable def restT (f : Int × List (List Int × Int)) : List UInt8 := if f.2.length = 0 then [48] else Lib.join (termsT f) [44, 32]
theorem fmtL_eq (f : Int × List (List Int × Int)) : (fmtL f).data.toList = Lib.itoa f.1 ++ 124 :: restT f := by
  unfold fmtL headT restT
  rw [txt_data, List.append_assoc]
  rfl
theorem int_at {c : Int} {d : UInt8} (h : (d.toNat : Int) = c) : ∀ b : UInt8, (fun b : UInt8 => decide ((b.toNat : Int) = c)) b = true ↔ b = d := fun b => by
  rw [decide_eq_true_eq]
  constructor
  · intro e
    exact UInt8.toNat_inj.1 (by omega)
  · rintro rfl
    exact h
structure LRight (f : Int × List (List Int × Int)) : Prop where
  v : inK f.1 (-999999999) 999999999 = true
  n : f.2.length ≤ 600
  t : ∀ t ∈ f.2, inK t.2 (-999999999) 999999999 = true ∧ t.1 ≠ [] ∧ ∀ x ∈ t.1, inK x (-999999999) 999999999 = true
theorem lright {f : Int × List (List Int × Int)} (h : lokK f = true) : LRight f := by
  simp only [lokK, Bool.and_eq_true, decide_eq_true_eq, inK_iff'] at h
  obtain ⟨h1, h2, h3⟩ := h
  have ht := terms_all _ _ _ h3
  refine ⟨inK_iff'.2 (by omega), h2, fun t m => ?_⟩
  obtain ⟨he, hc⟩ := ht t m
  simp only [coefK, Bool.and_eq_true, inK_iff'] at hc
  simp only [expK, Bool.and_eq_true, decide_eq_true_eq] at he
  refine ⟨inK_iff'.2 (by omega), fun e => ?_, fun x hx => ?_⟩
  · rw [e] at he
    simp at he
    omega
  · have := inK_iff'.1 (List.all_eq_true.1 he.2 x hx)
    exact inK_iff'.2 (by omega)
theorem rest_no {f : Int × List (List Int × Int)} : ∀ b ∈ restT f, b ≠ (124 : UInt8) := fun b hb => by
  unfold restT at hb
  split at hb
  · rw [List.mem_singleton.1 hb]
    decide
  · rcases join_mem hb with ⟨x, hx, hb⟩ | hb
    · obtain ⟨t, _, rfl⟩ := List.mem_map.1 hx
      exact term_no (by decide) (by decide) (by decide) (by decide) b hb
    · simp at hb
      rcases hb with rfl | rfl <;> decide
theorem rest_ne {f : Int × List (List Int × Int)} (h : ¬ f.2.length = 0) : ¬ strEq (baOf (restT f)) zeroT = true := fun he => by
  have e := congrArg (fun b : ByteArray => b.data.toList) (strEq_iff.1 he)
  have e : restT f = [48] := by simpa [baOf, zeroT] using e
  have hm : (58 : UInt8) ∈ restT f := by
    unfold restT
    rw [if_neg h]
    cases hq : f.2 with
    | nil => rw [hq] at h; exact absurd rfl h
    | cons t ts =>
      unfold termsT
      rw [hq, List.map_cons, Lib.join_cons]
      refine List.mem_append_left _ ?_
      unfold termT
      simp
  rw [e] at hm
  simp at hm
theorem parseI_one {n : Int} (h : inK n (-999999999) 999999999 = true) : parseI (itoaB n) = ([n], true) := by
  have := (parse_same _).trans (parse_row (row := [n]) (by simp) fun m hm => by rw [List.mem_singleton.1 hm]; exact h)
  have e : itoasB [n] = itoaB n := by
    unfold itoasB itoasL itoaB
    rw [List.map_cons, List.map_nil, Lib.join_one]
  rwa [e] at this
theorem goSL_terms : ∀ (ts : List (List Int × Int)) (i : Nat) (out : List (List Int × Int)) (ps : List ByteArray), (∀ t ∈ ts, inK t.2 (-999999999) 999999999 = true ∧ t.1 ≠ [] ∧ ∀ x ∈ t.1, inK x (-999999999) 999999999 = true) → ps.length = ts.length →
    (∀ j, j < ts.length → cutP (i + j) (ps.getD j ByteArray.empty) = txt (termT (ts.getD j ([], 0)))) → goSL ps i out = some (out ++ ts)
  | [], i, out, ps, _, hl, _ => by
    rw [List.length_eq_zero_iff.1 hl, goSL, List.append_nil]
  | t :: ts, i, out, [], _, hl, _ => by simp at hl
  | t :: ts, i, out, p :: ps, h, hl, hc => by
    obtain ⟨h1, h2, h3⟩ := h t (List.mem_cons_self ..)
    have hp : cutP i p = txt (termT t) := hc 0 (by simp)
    have hs : partsA 58 (cutP i p) = [itoaB t.2, itoasB t.1] := by
      unfold partsA
      rw [hp, txt_data]
      have : termT t = Lib.itoa t.2 ++ 58 :: itoasL t.1 := by simp [termT]
      rw [this, parts_two (int_at (c := 58) (d := 58) rfl) _ _ (itoa_no (by decide) (by decide)) (itoas_no (by decide) (by decide) (by decide))]
      rfl
    have e0 : [itoaB t.2, itoasB t.1].getD 0 ByteArray.empty = itoaB t.2 := rfl
    have e1 : [itoaB t.2, itoasB t.1].getD 1 ByteArray.empty = itoasB t.1 := rfl
    rw [goSL, hs, if_pos (show ([itoaB t.2, itoasB t.1] : List ByteArray).length = 2 from rfl), e0, e1, num_can h1 rfl, if_pos rfl, parse_row h2 h3, if_pos rfl]
    rw [goSL_terms ts (i + 1) _ ps (fun x hx => h x (List.mem_cons_of_mem _ hx)) (by simpa using hl) fun j hj => by
      have := hc (j + 1) (by simp; omega)
      rw [show i + 1 + j = i + (j + 1) by omega]
      simpa using this]
    simp
theorem goIL_terms : ∀ (ts : List (List Int × Int)) (out : List (List Int × Int)), (∀ t ∈ ts, inK t.2 (-999999999) 999999999 = true ∧ t.1 ≠ [] ∧ ∀ x ∈ t.1, inK x (-999999999) 999999999 = true) → goIL (ts.map fun t => txt (termT t)) out = some (out ++ ts)
  | [], out, _ => by rw [List.map_nil, goIL, List.append_nil]
  | t :: ts, out, h => by
    obtain ⟨h1, h2, h3⟩ := h t (List.mem_cons_self ..)
    have hc : cutV (txt (termT t)) ⟨#[58]⟩ = (itoaB t.2, itoasB t.1, true) := by
      unfold cutV
      have : termT t = Lib.itoa t.2 ++ 58 :: itoasL t.1 := by simp [termT]
      rw [txt_data, this, show (⟨#[58]⟩ : ByteArray).data.toList = [58] from rfl, cut_hit _ _ (itoa_no (by decide) (by decide))]
      rfl
    rw [List.map_cons, goIL, hc, if_pos rfl, parseI_one h1, if_pos rfl, (parse_same _).trans (parse_row h2 h3), if_pos rfl, if_pos (show (([t.2], true) : List Int × Bool).1.length = 1 from rfl), goIL_terms ts _ fun x hx => h x (List.mem_cons_of_mem _ hx)]
    simp
theorem cutP_blank {i : Nat} (h : 0 < i) (x : List UInt8) : cutP i (baOf (32 :: x)) = txt x := by
  have hs : (baOf (32 :: x)).size = x.length + 1 := by
    rw [Lib.size_eq]
    simp [baOf]
  unfold cutP
  rw [if_pos (dt h), if_pos (dt (by omega))]
  rw [← baOf_data ((baOf (32 :: x)).extract 1 _), Lib.extract_data, hs]
  simp [baOf, txt]
theorem terms_ne {f : Int × List (List Int × Int)} (h : ¬ f.2.length = 0) : termsT f ≠ [] := fun e => by
  have := congrArg List.length e
  rw [termsT_len] at this
  exact h this
theorem terms_no44 {f : Int × List (List Int × Int)} : ∀ x ∈ termsT f, ∀ b ∈ x, b ≠ (44 : UInt8) := fun x hx => by
  obtain ⟨t, _, rfl⟩ := List.mem_map.1 hx
  exact term_no (by decide) (by decide) (by decide) (by decide)
theorem tailS_right {f : Int × List (List Int × Int)} (h : LRight f) : tailS (baOf (restT f)) = some f.2 := by
  unfold tailS
  by_cases h0 : f.2.length = 0
  · have : restT f = [48] := if_pos h0
    rw [this, if_pos (strEq_iff.2 (show baOf [48] = zeroT from rfl)), List.length_eq_zero_iff.1 h0]
  · rw [if_neg (rest_ne h0)]
    have hr : restT f = Lib.join (termsT f) [44, 32] := if_neg h0
    have hn := h.n
    have hd : (baOf (restT f)).data.toList = restT f := by simp [baOf]
    cases hq : termsT f with
    | nil => exact absurd hq (terms_ne h0)
    | cons x xs =>
      have e : partsA 44 (baOf (restT f)) = (x :: xs.map (32 :: ·)).map baOf := by
        unfold partsA
        rw [hd, hr, hq, partsc (c := 44) (by decide) _ (int_at (c := 44) (d := 44) rfl) xs x fun z hz => terms_no44 z (by rw [hq]; exact hz)]
      have hl : (partsA 44 (baOf (restT f))).length = f.2.length := by
        rw [e, ← termsT_len, hq]
        simp
      rw [List.take_of_length_le (by omega), goSL_terms f.2 0 [] _ h.t hl fun j hj => ?_]
      · rfl
      · rw [e, Nat.zero_add, ← termsT_get hj, hq]
        cases j with
        | zero =>
          show cutP 0 (baOf x) = txt x
          rfl
        | succ j =>
          have hj' : j < xs.length := by
            have := congrArg List.length hq
            rw [termsT_len] at this
            simp at this
            omega
          have e1 : ((x :: xs.map (32 :: ·)).map baOf).getD (j + 1) ByteArray.empty = baOf (32 :: xs[j]) := by simp [List.getD_eq_getElem?_getD, hj']
          have e2 : (x :: xs).getD (j + 1) [] = xs[j] := by simp [List.getD_eq_getElem?_getD, hj']
          rw [e1, e2]
          exact cutP_blank (by omega) _
theorem tailI_right {f : Int × List (List Int × Int)} (h : LRight f) : tailI (baOf (restT f)) = some f.2 := by
  unfold tailI
  by_cases h0 : f.2.length = 0
  · have : restT f = [48] := if_pos h0
    rw [this, if_pos (strEq_iff.2 (show baOf [48] = zeroT from rfl)), List.length_eq_zero_iff.1 h0]
  · rw [if_neg (rest_ne h0)]
    have hr : restT f = Lib.join (termsT f) [44, 32] := if_neg h0
    rw [hr]
    have := split_c (c := 44) (terms_ne h0) terms_no44
    show goIL (Lib.splitB ⟨#[44, 32]⟩ 0 (Lib.countB (txt (Lib.join (termsT f) [44, 32])) ⟨#[44, 32]⟩) (txt (Lib.join (termsT f) [44, 32]))) [] = _
    rw [this, termsT, List.map_map]
    exact goIL_terms f.2 [] h.t
theorem readLS_right {f : Int × List (List Int × Int)} (h : lokK f = true) : readLS (fmtL f) = (f, true) := by
  have hr := lright h
  have hs : partsA 124 (fmtL f) = [itoaB f.1, baOf (restT f)] := by
    unfold partsA
    rw [fmtL_eq, parts_two (int_at (c := 124) (d := 124) rfl) _ _ (itoa_no (by decide) (by decide)) rest_no]
    rfl
  have e0 : [itoaB f.1, baOf (restT f)].getD 0 ByteArray.empty = itoaB f.1 := rfl
  have e1 : [itoaB f.1, baOf (restT f)].getD 1 ByteArray.empty = baOf (restT f) := rfl
  unfold readLS
  rw [hs, if_pos (show ([itoaB f.1, baOf (restT f)] : List ByteArray).length = 2 from rfl), e0, e1, num_can hr.v rfl, if_pos rfl, tailS_right hr]
  show endLS (fmtL f) f = _
  unfold endLS
  rw [if_pos h, if_pos (strEq_iff.2 rfl)]
theorem readLI_right {f : Int × List (List Int × Int)} (h : lokK f = true) : readLI (fmtL f) = (f, true) := by
  have hr := lright h
  have hc : cutV (fmtL f) ⟨#[124]⟩ = (itoaB f.1, baOf (restT f), true) := by
    unfold cutV
    rw [fmtL_eq, show (⟨#[124]⟩ : ByteArray).data.toList = [124] from rfl, cut_hit _ _ (itoa_no (by decide) (by decide))]
    rfl
  unfold readLI
  rw [hc, if_pos rfl, parseI_one hr.v, if_pos rfl, if_pos (show (([f.1], true) : List Int × Bool).1.length = 1 from rfl), tailI_right hr]
  show endLI (fmtL f) f = _
  unfold endLI
  rw [if_pos h, if_pos h, if_pos (strEq_iff.2 rfl)]
theorem readL_same (s : ByteArray) : readLI s = readLS s := by
  rcases readLS_cases s with h | ⟨f, h, h1, h3⟩
  · rcases readLI_cases s with h' | ⟨f, h', h1, h3⟩
    · rw [h, h']
    · have := readLS_right h1
      rw [h3, h] at this
      have := congrArg Prod.snd this
      exact absurd this (by simp [no2])
  · rw [h, ← h3]
    exact readLI_right h1
end Go.Fw
namespace Go.Fw
theorem blt1 {α : Type} (out : List α) (x : α) (h : out.length < 3000000) : Nat.blt (out.length + [x].length) 1099511627776 = true := by
  refine Nat.ble_eq_true_of_le ?_
  rw [List.length_singleton]
  omega
theorem inB_0 {m : Nat} (h : 0 < m) : inB 0 m = true := inB_nat (j := 0) h
theorem inB_1 {m : Nat} (h : 1 < m) : inB 1 m = true := inB_nat (j := 1) h
theorem baOf_size (l : List UInt8) : (baOf l).size = l.length := by simp [baOf, ByteArray.size]
theorem cutV_sizes (s sep : ByteArray) : (cutV s sep).1.size ≤ s.size ∧ (cutV s sep).2.1.size ≤ s.size := by
  have hs := Lib.size_eq s
  have e1 : (cutV s sep).1.size = (Lib.cut s.data.toList sep.data.toList).1.length := baOf_size _
  have e2 : (cutV s sep).2.1.size = (Lib.cut s.data.toList sep.data.toList).2.1.length := baOf_size _
  rw [e1, e2]
  unfold Lib.cut
  by_cases h : 0 ≤ Lib.index s.data.toList sep.data.toList
  · rw [if_pos h]
    constructor
    · show (List.take _ _).length ≤ _
      rw [List.length_take]
      omega
    · show (List.drop _ _).length ≤ _
      rw [List.length_drop]
      omega
  · rw [if_neg h]
    constructor
    · show s.data.toList.length ≤ _
      omega
    · show ([] : List UInt8).length ≤ _
      rw [List.length_nil]
      omega
theorem partsA_sizes (c : Int) (s : ByteArray) : ∀ w ∈ partsA c s, w.size ≤ s.size := by
  intro w hw
  obtain ⟨l, hl, rfl⟩ := List.mem_map.1 hw
  have := parts_size _ _ l hl
  rw [Lib.size_eq s]
  have e : (baOf l).size = l.length := by simp [baOf, ByteArray.size]
  omega
theorem partsA_len (c : Int) (s : ByteArray) : (partsA c s).length ≤ s.size + 1 := by
  have := parts_len (fun b => decide ((b.toNat : Int) = c)) s.data.toList
  rw [Lib.size_eq s]
  unfold partsA
  rw [List.length_map]
  exact this
theorem countc_le (c : UInt8) : ∀ (fuel : Nat) (l : List UInt8), 2 * Lib.countFrom [c, 32] fuel l ≤ l.length
  | 0, l => by simp [Lib.countFrom]
  | fuel + 1, l => by
    rw [Lib.countFrom]
    by_cases h : (Lib.index l [c, 32] == -1) = true
    · rw [if_pos h]
      omega
    · rw [if_neg h]
      have hge := Lib.index_ge l [c, 32]
      have hne : Lib.index l [c, 32] ≠ -1 := fun e => h (beq_iff_eq.2 e)
      have hr := Lib.index_room l [c, 32] (by omega)
      have h2 : ([c, 32] : List UInt8).length = 2 := rfl
      rw [h2] at hr ⊢
      have ih := countc_le c fuel (l.drop ((Lib.index l [c, 32]).toNat + 2))
      rw [List.length_drop] at ih
      omega
theorem splitc_sizes (c : UInt8) (s : ByteArray) : 2 * (Lib.splitB ⟨#[c, 32]⟩ 0 (Lib.countB s ⟨#[c, 32]⟩) s).length ≤ s.size + 2 ∧ ∀ w ∈ Lib.splitB ⟨#[c, 32]⟩ 0 (Lib.countB s ⟨#[c, 32]⟩) s, w.size ≤ s.size := by
  refine ⟨?_, splitB_sz _ _ _⟩
  have h1 := Lib.splitB_length_le ⟨#[c, 32]⟩ 0 (Lib.countB s ⟨#[c, 32]⟩) s
  have h2 : 2 * Lib.countB s ⟨#[c, 32]⟩ ≤ s.size := by
    rw [Lib.size_eq]
    exact countc_le c _ _
  omega
theorem cutP_size (i : Nat) (p : ByteArray) : (cutP i p).size ≤ p.size := by
  unfold cutP
  split
  · split
    · rw [ByteArray.size_extract]
      omega
    · exact Nat.le_refl _
  · exact Nat.le_refl _
end Go.Fw
set_option maxRecDepth 100000
namespace Go.Fw
noncomputable section
variable {ρ : Type}
namespace laws_markIntS
def mk : List Int → Int → List Int × Int
  | [], k => ([], k)
  | _ :: xs, k => (k :: (mk xs (w64 (k + 1))).1, (mk xs (w64 (k + 1))).2)
def g (a : List Int) (k : Int) : List Int × Int := mk a k
end laws_markIntS
namespace laws_markIntS
def Z1 {ρ : Type} (N : Nat) (v0 : LI) (v1 : Int) (kn : LI → Int → Option ρ) : Option ρ :=
 kn v0 v1
def Z4 {ρ : Type} (N : Nat) (v0 : LI) (v1 : Int) (kn : LI → I2 (Option ρ)) : Option ρ :=
 kn v0 v1 0
def Z7 {ρ : Type} (N : Nat) (v0 : LI) (v1 v5 : Int) (kn : LI → I2 (Option ρ)) (k0 : LI → Int → Option ρ) : Option ρ :=
 cond (lk N (decide (v5 < (v0.length : Int))))
 (
  cond (lk N (inB v5 v0.length)) (
   kn (v0.set v5.toNat v1) (w64 (v1 + 1)) (w64 (v5 + 1))) none)
 (
  k0 v0 v1)
def Z6L {ρ : Type} (N : Nat) (k0 : LI → Int → Option ρ) : Nat → LI → Int → Int → Option ρ
  | 0, _, _, _ => none
  | M + 1, v0, v1, v5 => Z7 N v0 v1 v5 (fun v0 v1 v5 => Z6L N k0 M v0 v1 v5) k0
def Z6 N v0 v1 v5 k0 := (Z6L N k0 N v0 v1 v5 : Option ρ)
def Z5 N v0 v1 v5 kn := (Z6 N v0 v1 v5 kn : Option ρ)
def Z3 N v0 v1 kn := (Z4 N v0 v1 (fun v0 v1 v5 => Z5 N v0 v1 v5 kn) : Option ρ)
def Z8 {ρ : Type} (N : Nat) (io100000 : LI) (v1 : Int) (kr : LI → Int → Option ρ) : Option ρ :=
 kr io100000 v1
def Z2 N v0 v1 kr := (Z3 N v0 v1 (fun io100000 v1 => Z8 N io100000 v1 kr) : Option ρ)
def Z0 N v0 v1 kr := (Z1 N v0 v1 (fun v0 v1 => Z2 N v0 v1 kr) : Option ρ)
def Spec : Prop := ∀  (v0 : LI) (v1 : Int), Ty.bd (.sl 0 (.int .i64)) v0 → ∃ N0, ∀ N, N0 ≤ N → Z0 N v0 v1 (fun io100000 v4 => some (io100000, (v4, ()))) = some ((g v0 v1).1, ((g v0 v1).2, ()))
theorem loop {ρ : Type} (N : Nat) (k0 : List Int → Int → Option ρ) : ∀ (M j : Nat) (a : List Int) (k : Int), a.length ≤ maxLen → j ≤ a.length → a.length - j < M →
    Z6L N k0 M a k (j : Int) = k0 (a.take j ++ (mk (a.drop j) k).1) (mk (a.drop j) k).2 := by
  intro M
  induction M with
  | zero => intro j a k _ _ h; omega
  | succ M ih =>
    intro j a k ha hj hM
    simp only [Z6L, Z7]
    by_cases h : j < a.length
    · rw [ct (dt (by omega)), ct (inB_nat h), Int.toNat_natCast, w64_succ (by omega), ih (j + 1) _ _ (by simpa using ha) (by simp; omega) (by simp; omega), drop_getD 0 h,
        List.drop_set_of_lt (by omega), take_set_s (by omega)]
      simp [mk]
    · have : j = a.length := by omega
      subst this
      rw [cf (df (by omega))]
      simp [mk]
theorem ok : Spec := fun a k ha => ⟨a.length + 1, fun N hN => by
  simp only [Z1, Z4, Z7, Z6, Z5, Z3, Z8, Z2, Z0]
  rw [show (0 : Int) = ((0 : Nat) : Int) from rfl, loop _ _ _ 0 a k ha.1 (by omega) (by omega)]
  simp [g]⟩
theorem mk_len : ∀ (a : List Int) (k : Int), (mk a k).1.length = a.length
  | [], _ => rfl
  | _ :: xs, k => by simp [mk, mk_len xs]
theorem mk_end : ∀ (a : List Int) (k : Int), 0 ≤ k → k + a.length < 9223372036854775808 → (mk a k).2 = k + a.length
  | [], k, _, _ => by simp [mk]
  | _ :: xs, k, h0, h => by
    simp only [mk, List.length_cons] at h ⊢
    rw [w64_id (by omega) (by omega), mk_end xs (k + 1) (by omega) (by omega)]
    omega
end laws_markIntS
end
end Go.Fw
namespace Go.Fw
noncomputable section
variable {ρ : Type}
namespace laws_heldIntS
def hd : List Int → Int → Int
  | [], k => k
  | x :: xs, k => if x = k then hd xs (w64 (k + 1)) else -1
def g (a : List Int) (k : Int) : Int := hd a k
end laws_heldIntS
namespace laws_heldIntS
def Z1 {ρ : Type} (N : Nat) (v0 : LI) (v1 : Int) (kn : LI → Int → Option ρ) : Option ρ :=
 kn v0 v1
def Z4 {ρ : Type} (N : Nat) (v0 : LI) (v1 : Int) (kn : LI → I2 (Option ρ)) : Option ρ :=
 kn v0 v1 0
def Z7 {ρ : Type} (N : Nat) (v0 : LI) (v1 v5 : Int) (kn : LI → I2 (Option ρ)) (k0 kr : Int → Option ρ) : Option ρ :=
 cond (lk N (decide (v5 < (v0.length : Int))))
 (
  cond (lk N (inB v5 v0.length)) (
   cond (lk N (!(decide ((v0.getD v5.toNat 0) = v1))))
   (
    kr (-1))
   (
    kn v0 (w64 (v1 + 1)) (w64 (v5 + 1)))) none)
 (
  k0 v1)
def Z6L {ρ : Type} (N : Nat) (k0 kr : Int → Option ρ) : Nat → LI → Int → Int → Option ρ
  | 0, _, _, _ => none
  | M + 1, v0, v1, v5 => Z7 N v0 v1 v5 (fun v0 v1 v5 => Z6L N k0 kr M v0 v1 v5) k0 kr
def Z6 N v0 v1 v5 k0 kr := (Z6L N k0 kr N v0 v1 v5 : Option ρ)
def Z5 N v0 v1 v5 kn kr := (Z6 N v0 v1 v5 kn kr : Option ρ)
def Z3 N v0 v1 kn kr := (Z4 N v0 v1 (fun v0 v1 v5 => Z5 N v0 v1 v5 kn kr) : Option ρ)
def Z8 {ρ : Type} (N : Nat) (v1 : Int) (kr : Int → Option ρ) : Option ρ :=
 kr v1
def Z2 N v0 v1 kr := (Z3 N v0 v1 (fun v1 => Z8 N v1 kr) kr : Option ρ)
def Z0 N v0 v1 kr := (Z1 N v0 v1 (fun v0 v1 => Z2 N v0 v1 kr) : Option ρ)
def Spec : Prop := ∀  (v0 : LI) (v1 : Int), Ty.bd (.sl 0 (.int .i64)) v0 → ∃ N0, ∀ N, N0 ≤ N → Z0 N v0 v1 (fun v4 => some ((), (v4, ()))) = some ((), ((g v0 v1), ()))
theorem loop {ρ : Type} (N : Nat) (kr : Int → Option ρ) (a : List Int) (ha : a.length ≤ maxLen) : ∀ (M j : Nat) (k : Int), j ≤ a.length → a.length - j < M →
    Z6L N kr kr M a k (j : Int) = kr (hd (a.drop j) k) := by
  intro M
  induction M with
  | zero => intro j k _ h; omega
  | succ M ih =>
    intro j k hj hM
    simp only [Z6L, Z7]
    by_cases h : j < a.length
    · rw [ct (dt (by omega)), ct (inB_nat h), Int.toNat_natCast, w64_succ (by omega), ih (j + 1) _ h (by omega), drop_getD 0 h]
      by_cases e : a.getD j 0 = k
      · rw [cf (nf e), hd, if_pos e]
      · rw [ct (nt e), hd, if_neg e]
    · rw [cf (df (by omega)), List.drop_of_length_le (by omega), hd]
theorem ok : Spec := fun a k ha => ⟨a.length + 1, fun N hN => by
  simp only [Z1, Z4, Z7, Z6, Z5, Z3, Z8, Z2, Z0]
  rw [show (0 : Int) = ((0 : Nat) : Int) from rfl, loop _ _ a ha.1 N 0 k (by omega) (by omega)]
  simp [g]⟩
end laws_heldIntS
end
end Go.Fw
namespace Go.Fw
theorem heldInt_mark : ∀ (a : List Int) (k : Int), laws_heldIntS.g (laws_markIntS.g a k).1 k = (laws_markIntS.g a k).2
  | [], k => rfl
  | x :: xs, k => by
    have ih := heldInt_mark xs (w64 (k + 1))
    simp only [laws_heldIntS.g, laws_markIntS.g, laws_markIntS.mk, laws_heldIntS.hd, if_true] at ih ⊢
    exact ih
end Go.Fw
namespace Go.Fw
noncomputable section
variable {ρ : Type}
namespace laws_markTermS
def mk : List (List Int × Int) → Int → List (List Int × Int) × Int
  | [], k => ([], k)
  | t :: ts, k => (((laws_markIntS.g t.1 k).1, (laws_markIntS.g t.1 k).2) :: (mk ts (w64 ((laws_markIntS.g t.1 k).2 + 1))).1, (mk ts (w64 ((laws_markIntS.g t.1 k).2 + 1))).2)
def g (a : List (List Int × Int)) (k : Int) : List (List Int × Int) × Int := mk a k
end laws_markTermS
namespace laws_markTermS
def Z1 {ρ : Type} (N : Nat) (v0 : List (LI × Int)) (v1 : Int) (kn : (List (LI × Int)) → Int → Option ρ) : Option ρ :=
 kn v0 v1
def Z4 {ρ : Type} (N : Nat) (v0 : List (LI × Int)) (v1 : Int) (kn : (List (LI × Int)) → I2 (Option ρ)) : Option ρ :=
 kn v0 v1 0
def Z7 {ρ : Type} (N : Nat) (v0 : List (LI × Int)) (v1 v5 : Int) (kn : (List (LI × Int)) → I2 (Option ρ)) (k0 : (List (LI × Int)) → Int → Option ρ) : Option ρ :=
 cond (lk N (decide (v5 < (v0.length : Int))))
 (
  cond (lk N (inB v5 v0.length)) (
   cond (lk N (inB v5 (v0.set v5.toNat ((laws_markIntS.g (v0.getD v5.toNat ([], 0)).1 v1).1, (v0.getD v5.toNat ([], 0)).2)).length)) (
    kn ((v0.set v5.toNat ((laws_markIntS.g (v0.getD v5.toNat ([], 0)).1 v1).1, (v0.getD v5.toNat ([], 0)).2)).set v5.toNat (((v0.set v5.toNat ((laws_markIntS.g (v0.getD v5.toNat ([], 0)).1 v1).1, (v0.getD v5.toNat ([], 0)).2)).getD v5.toNat ([], 0)).1, (laws_markIntS.g (v0.getD v5.toNat ([], 0)).1 v1).2)) (w64 ((laws_markIntS.g (v0.getD v5.toNat ([], 0)).1 v1).2 + 1)) (w64 (v5 + 1))) none) none)
 (
  k0 v0 v1)
def Z6L {ρ : Type} (N : Nat) (k0 : (List (LI × Int)) → Int → Option ρ) : Nat → (List (LI × Int)) → Int → Int → Option ρ
  | 0, _, _, _ => none
  | M + 1, v0, v1, v5 => Z7 N v0 v1 v5 (fun v0 v1 v5 => Z6L N k0 M v0 v1 v5) k0
def Z6 N v0 v1 v5 k0 := (Z6L N k0 N v0 v1 v5 : Option ρ)
def Z5 N v0 v1 v5 kn := (Z6 N v0 v1 v5 kn : Option ρ)
def Z3 N v0 v1 kn := (Z4 N v0 v1 (fun v0 v1 v5 => Z5 N v0 v1 v5 kn) : Option ρ)
def Z8 {ρ : Type} (N : Nat) (io100000 : List (LI × Int)) (v1 : Int) (kr : (List (LI × Int)) → Int → Option ρ) : Option ρ :=
 kr io100000 v1
def Z2 N v0 v1 kr := (Z3 N v0 v1 (fun io100000 v1 => Z8 N io100000 v1 kr) : Option ρ)
def Z0 N v0 v1 kr := (Z1 N v0 v1 (fun v0 v1 => Z2 N v0 v1 kr) : Option ρ)
def Spec : Prop := ∀  (v0 : List (LI × Int)) (v1 : Int), Ty.bd (.sl 0 (.pair (.sl 0 (.int .i64)) (.int .i64))) v0 → ∃ N0, ∀ N, N0 ≤ N → Z0 N v0 v1 (fun io100000 v4 => some (io100000, (v4, ()))) = some ((g v0 v1).1, ((g v0 v1).2, ()))
theorem loop {ρ : Type} (N : Nat) (k0 : List (List Int × Int) → Int → Option ρ) : ∀ (M j : Nat) (a : List (List Int × Int)) (k : Int), a.length ≤ maxLen → j ≤ a.length → a.length - j < M →
    Z6L N k0 M a k (j : Int) = k0 (a.take j ++ (mk (a.drop j) k).1) (mk (a.drop j) k).2 := by
  intro M
  induction M with
  | zero => intro j a k _ _ h; omega
  | succ M ih =>
    intro j a k ha hj hM
    simp only [Z6L, Z7]
    by_cases h : j < a.length
    · rw [ct (dt (by omega)), ct (inB_nat h), Int.toNat_natCast, ct (inB_nat (by simpa using h)), w64_succ (by omega), List.set_set, getD_set_self h, ih (j + 1) _ _ (by simpa using ha) (by simp; omega) (by simp; omega), drop_getD ([], 0) h,
        List.drop_set_of_lt (by omega), take_set_s (by omega)]
      simp [mk]
    · have : j = a.length := by omega
      subst this
      rw [cf (df (by omega))]
      simp [mk]
theorem ok : Spec := fun a k ha => ⟨a.length + 1, fun N hN => by
  simp only [Z1, Z4, Z7, Z6, Z5, Z3, Z8, Z2, Z0]
  rw [show (0 : Int) = ((0 : Nat) : Int) from rfl, loop _ _ _ 0 a k ha.1 (by omega) (by omega)]
  simp [g]⟩
end laws_markTermS
end
end Go.Fw
namespace Go.Fw
noncomputable section
variable {ρ : Type}
namespace laws_heldTermS
def hd : List (List Int × Int) → Int → Int
  | [], k => k
  | t :: ts, k => if laws_heldIntS.g t.1 k < 0 then -1 else if t.2 = laws_heldIntS.g t.1 k then hd ts (w64 (laws_heldIntS.g t.1 k + 1)) else -1
def g (a : List (List Int × Int)) (k : Int) : Int := hd a k
end laws_heldTermS
namespace laws_heldTermS
def Z1 {ρ : Type} (N : Nat) (v0 : List (LI × Int)) (v1 : Int) (kn : (List (LI × Int)) → Int → Option ρ) : Option ρ :=
 kn v0 v1
def Z4 {ρ : Type} (N : Nat) (v0 : List (LI × Int)) (v1 : Int) (kn : (List (LI × Int)) → I2 (Option ρ)) : Option ρ :=
 kn v0 v1 0
def Z7 {ρ : Type} (N : Nat) (v0 : List (LI × Int)) (v1 v5 : Int) (kn : (List (LI × Int)) → I2 (Option ρ)) (k0 kr : Int → Option ρ) : Option ρ :=
 cond (lk N (decide (v5 < (v0.length : Int))))
 (
  cond (lk N (inB v5 v0.length)) (
   cond (lk N (decide ((laws_heldIntS.g (v0.getD v5.toNat ([], 0)).1 v1) < 0)))
   (
    kr (-1))
   (
    cond (lk N (inB v5 v0.length)) (
     cond (lk N (!(decide ((v0.getD v5.toNat ([], 0)).2 = (laws_heldIntS.g (v0.getD v5.toNat ([], 0)).1 v1)))))
     (
      kr (-1))
     (
      kn v0 (w64 ((laws_heldIntS.g (v0.getD v5.toNat ([], 0)).1 v1) + 1)) (w64 (v5 + 1)))) none)) none)
 (
  k0 v1)
def Z6L {ρ : Type} (N : Nat) (k0 kr : Int → Option ρ) : Nat → (List (LI × Int)) → Int → Int → Option ρ
  | 0, _, _, _ => none
  | M + 1, v0, v1, v5 => Z7 N v0 v1 v5 (fun v0 v1 v5 => Z6L N k0 kr M v0 v1 v5) k0 kr
def Z6 N v0 v1 v5 k0 kr := (Z6L N k0 kr N v0 v1 v5 : Option ρ)
def Z5 N v0 v1 v5 kn kr := (Z6 N v0 v1 v5 kn kr : Option ρ)
def Z3 N v0 v1 kn kr := (Z4 N v0 v1 (fun v0 v1 v5 => Z5 N v0 v1 v5 kn kr) : Option ρ)
def Z8 {ρ : Type} (N : Nat) (v1 : Int) (kr : Int → Option ρ) : Option ρ :=
 kr v1
def Z2 N v0 v1 kr := (Z3 N v0 v1 (fun v1 => Z8 N v1 kr) kr : Option ρ)
def Z0 N v0 v1 kr := (Z1 N v0 v1 (fun v0 v1 => Z2 N v0 v1 kr) : Option ρ)
def Spec : Prop := ∀  (v0 : List (LI × Int)) (v1 : Int), Ty.bd (.sl 0 (.pair (.sl 0 (.int .i64)) (.int .i64))) v0 → ∃ N0, ∀ N, N0 ≤ N → Z0 N v0 v1 (fun v4 => some ((), (v4, ()))) = some ((), ((g v0 v1), ()))
theorem loop {ρ : Type} (N : Nat) (kr : Int → Option ρ) (a : List (List Int × Int)) (ha : a.length ≤ maxLen) : ∀ (M j : Nat) (k : Int), j ≤ a.length → a.length - j < M →
    Z6L N kr kr M a k (j : Int) = kr (hd (a.drop j) k) := by
  intro M
  induction M with
  | zero => intro j k _ h; omega
  | succ M ih =>
    intro j k hj hM
    simp only [Z6L, Z7]
    by_cases h : j < a.length
    · rw [ct (dt (by omega)), ct (inB_nat h), Int.toNat_natCast, w64_succ (by omega), ih (j + 1) _ h (by omega), drop_getD ([], 0) h]
      by_cases e1 : laws_heldIntS.g (a.getD j ([], 0)).1 k < 0
      · rw [ct (dt e1), hd, if_pos e1]
      · rw [cf (df e1), hd, if_neg e1, ct (inB_nat h)]
        by_cases e : (a.getD j ([], 0)).2 = laws_heldIntS.g (a.getD j ([], 0)).1 k
        · rw [cf (nf e), if_pos e]
        · rw [ct (nt e), if_neg e]
    · rw [cf (df (by omega)), List.drop_of_length_le (by omega), hd]
theorem ok : Spec := fun a k ha => ⟨a.length + 1, fun N hN => by
  simp only [Z1, Z4, Z7, Z6, Z5, Z3, Z8, Z2, Z0]
  rw [show (0 : Int) = ((0 : Nat) : Int) from rfl, loop _ _ a ha.1 N 0 k (by omega) (by omega)]
  simp [g]⟩
end laws_heldTermS
end
end Go.Fw
namespace Go.Fw
def szT : List (List Int × Int) → Nat
  | [] => 0
  | t :: ts => t.1.length + 1 + szT ts
theorem heldTerm_mark : ∀ (l : List (List Int × Int)) (k : Int), 0 ≤ k → k + szT l < 9223372036854775808 →
    laws_heldTermS.g (laws_markTermS.g l k).1 k = (laws_markTermS.g l k).2 ∧ (laws_markTermS.g l k).2 = k + szT l
  | [], k, _, _ => ⟨rfl, by simp [laws_markTermS.g, laws_markTermS.mk, szT]⟩
  | t :: ts, k, h0, h => by
    simp only [szT] at h ⊢
    have e1 := laws_markIntS.mk_end t.1 k h0 (by omega)
    have e2 := heldInt_mark t.1 k
    have e3 : (laws_markIntS.g t.1 k).2 = k + t.1.length := e1
    have e4 : w64 (k + t.1.length + 1) = k + t.1.length + 1 := w64_id (by omega) (by omega)
    obtain ⟨i1, i2⟩ := heldTerm_mark ts (k + t.1.length + 1) (by omega) (by omega)
    simp only [laws_heldTermS.g, laws_markTermS.g, laws_markTermS.mk, laws_heldTermS.hd, e2, e3, e4, if_true] at i1 i2 ⊢
    rw [if_neg (by omega)]
    exact ⟨i1, by rw [i2]; omega⟩
end Go.Fw
namespace Go.Fw
noncomputable section
variable {ρ : Type}
namespace laws_markLaurent
def g (a : Int × List (List Int × Int)) (k : Int) : (Int × List (List Int × Int)) × Int := ((a.1, (laws_markTermS.g a.2 k).1), (laws_markTermS.g a.2 k).2)
end laws_markLaurent
namespace laws_markLaurent
def Z0 {ρ : Type} (N : Nat) (v0 : Int × List (LI × Int)) (v1 : Int) (kr : (List (LI × Int)) → I2 (Option ρ)) : Option ρ :=
 kr (laws_markTermS.g v0.2 v1).1 (laws_markTermS.g v0.2 v1).2 v0.1
def Spec : Prop := ∀  (v0 : Int × List (LI × Int)) (v1 : Int), Ty.bd (.pair (.int .i64) (.sl 0 (.pair (.sl 0 (.int .i64)) (.int .i64)))) v0 → ∃ N0, ∀ N, N0 ≤ N → Z0 N v0 v1 (fun io100000_1 v4 io100000_0 => some ((io100000_0, io100000_1), (v4, ()))) = some ((g v0 v1).1, ((g v0 v1).2, ()))
theorem ok : Spec := fun a k ha => ⟨0, fun N hN => by simp only [Z0, g]⟩
end laws_markLaurent
end
end Go.Fw
namespace Go.Fw
noncomputable section
variable {ρ : Type}
namespace laws_heldLaurent
def g (a : Int × List (List Int × Int)) (left : Int) : Int := if laws_heldTermS.g a.2 left < 0 then -1 else laws_heldTermS.g a.2 left
end laws_heldLaurent
namespace laws_heldLaurent
def Z0 {ρ : Type} (N : Nat) (v0 : Int × List (LI × Int)) (v1 : Int) (kr : Int → Option ρ) : Option ρ :=
 cond (lk N (decide ((laws_heldTermS.g v0.2 v1) < 0)))
 (
  kr (-1))
 (
  kr (laws_heldTermS.g v0.2 v1))
def Spec : Prop := ∀  (v0 : Int × List (LI × Int)) (v1 : Int), Ty.bd (.pair (.int .i64) (.sl 0 (.pair (.sl 0 (.int .i64)) (.int .i64)))) v0 → ∃ N0, ∀ N, N0 ≤ N → Z0 N v0 v1 (fun v4 => some ((), (v4, ()))) = some ((), ((g v0 v1), ()))
theorem ok : Spec := fun a left ha => ⟨0, fun N hN => by
  simp only [Z0, g]
  by_cases h : laws_heldTermS.g a.2 left < 0
  · rw [ct (dt h), if_pos h]
  · rw [cf (df h), if_neg h]⟩
end laws_heldLaurent
end
end Go.Fw
namespace Go.Fw
theorem lau_mark (x : Int × List (List Int × Int)) (h : szT x.2 < 4611686018427387904) :
    laws_heldLaurent.g (x.1, (laws_markLaurent.g x 1).1.2) 1 = (laws_markLaurent.g x 1).2 ∧ 0 ≤ (laws_markLaurent.g x 1).2 := by
  obtain ⟨h1, h2⟩ := heldTerm_mark x.2 1 (by omega) (by omega)
  have e : (laws_markLaurent.g x 1).2 = 1 + szT x.2 := h2
  refine ⟨?_, by rw [e]; omega⟩
  show (if laws_heldTermS.g (laws_markTermS.g x.2 1).1 1 < 0 then -1 else laws_heldTermS.g (laws_markTermS.g x.2 1).1 1) = (laws_markTermS.g x.2 1).2
  rw [h1, if_neg (by rw [h2]; omega)]
end Go.Fw
namespace Go.Fw
noncomputable section
variable {ρ : Type}
namespace spec_l1Split
def P (s : ByteArray) (_ : Int) : Bool := decide (s.size ≤ 1048576)
def g (s : ByteArray) (by_ : Int) : List ByteArray := (partsK (fun b => decide ((b.toNat : Int) = by_)) s.data.toList).map baOf
end spec_l1Split
namespace spec_l1Split
def Z1 {ρ : Type} (N : Nat) (v0 : ByteArray) (v1 : Int) (kn : ByteArray → Int → Option ρ) : Option ρ :=
 kn v0 v1
def Z3 {ρ : Type} (N : Nat) (v0 : ByteArray) (v1 : Int) (kn : List ByteArray → ByteArray → Int → Option ρ) : Option ρ :=
 kn ([] : List ByteArray) v0 v1
def Z5 {ρ : Type} (N : Nat) (v5 : List ByteArray) (v0 : ByteArray) (v1 : Int) (kn : List ByteArray → ByteArray → I2 (Option ρ)) : Option ρ :=
 kn v5 v0 v1 0
def Z8 {ρ : Type} (N : Nat) (v5 : List ByteArray) (v0 : ByteArray) (v1 v6 : Int) (kn : List ByteArray → ByteArray → I3 (Option ρ)) : Option ρ :=
 kn v5 v0 v1 v6 0
def Z11 {ρ : Type} (N : Nat) (v5 : List ByteArray) (v0 : ByteArray) (v1 v6 v7 : Int) (kn : List ByteArray → ByteArray → I3 (Option ρ)) (k0 : List ByteArray → Option ρ) : Option ρ :=
 cond (lk N (decide (v7 ≤ (v0.size : Int))))
 (
  cond (lk N (decide (v7 = (v0.size : Int))))
  (
   cond (lk N (leB 0 v6 && (leB v6 v7 && leB v7 v0.size))) (
    cond (lk N (Nat.blt (v5.length + ([(v0.extract v6.toNat v7.toNat)] : List ByteArray).length) 1099511627776)) (
     kn (v5 ++ ([(v0.extract v6.toNat v7.toNat)] : List ByteArray)) v0 v1 (w64 (v7 + 1)) (w64 (v7 + 1))) none) none)
  (
   cond (lk N (decide (0 ≤ v7) && decide (v7 < (v0.size : Int)))) (
    cond (lk N (decide ((bt v0 v7) = v1)))
    (
     cond (lk N (leB 0 v6 && (leB v6 v7 && leB v7 v0.size))) (
      cond (lk N (Nat.blt (v5.length + ([(v0.extract v6.toNat v7.toNat)] : List ByteArray).length) 1099511627776)) (
       kn (v5 ++ ([(v0.extract v6.toNat v7.toNat)] : List ByteArray)) v0 v1 (w64 (v7 + 1)) (w64 (v7 + 1))) none) none)
    (
     kn v5 v0 v1 v6 (w64 (v7 + 1)))) none))
 (
  k0 v5)
def Z10L {ρ : Type} (N : Nat) (k0 : List ByteArray → Option ρ) : Nat → List ByteArray → ByteArray → Int → Int → Int → Option ρ
  | 0, _, _, _, _, _ => none
  | M + 1, v5, v0, v1, v6, v7 => Z11 N v5 v0 v1 v6 v7 (fun v5 v0 v1 v6 v7 => Z10L N k0 M v5 v0 v1 v6 v7) k0
def Z10 N v5 v0 v1 v6 v7 k0 := (Z10L N k0 N v5 v0 v1 v6 v7 : Option ρ)
def Z9 N v5 v0 v1 v6 v7 kn := (Z10 N v5 v0 v1 v6 v7 kn : Option ρ)
def Z7 N v5 v0 v1 v6 kn := (Z8 N v5 v0 v1 v6 (fun v5 v0 v1 v6 v7 => Z9 N v5 v0 v1 v6 v7 kn) : Option ρ)
def Z12 {ρ : Type} (N : Nat) (v5 : List ByteArray) (kr : List ByteArray → Option ρ) : Option ρ :=
 kr v5
def Z6 N v5 v0 v1 v6 kr := (Z7 N v5 v0 v1 v6 (fun v5 => Z12 N v5 kr) : Option ρ)
def Z4 N v5 v0 v1 kr := (Z5 N v5 v0 v1 (fun v5 v0 v1 v6 => Z6 N v5 v0 v1 v6 kr) : Option ρ)
def Z2 N v0 v1 kr := (Z3 N v0 v1 (fun v5 v0 v1 => Z4 N v5 v0 v1 kr) : Option ρ)
def Z0 N v0 v1 kr := (Z1 N v0 v1 (fun v0 v1 => Z2 N v0 v1 kr) : Option ρ)
def Spec : Prop := ∀  (v0 : ByteArray) (v1 : Int), P v0 v1 = true → ∃ N0, ∀ N, N0 ≤ N → Z0 N v0 v1 (fun v4 => some ((), (v4, ()))) = some ((), ((g v0 v1), ()))
theorem loop {ρ : Type} {N : Nat} {s : ByteArray} (hs : s.size ≤ 1048576) (by_ : Int) (k0 : List ByteArray → Option ρ) : ∀ (M i fr : Nat) (out : List ByteArray), fr ≤ i → i ≤ s.size → out.length + (s.size - i) ≤ 1048577 → s.size + 1 - i < M →
    Z10L N k0 M out s by_ (fr : Int) (i : Int) = k0 (out ++ (glue ((s.data.toList.drop fr).take (i - fr)) (partsK (fun b => decide ((b.toNat : Int) = by_)) (s.data.toList.drop i))).map baOf) := by
  have hsz := Lib.size_eq s
  intro M
  induction M with
  | zero => intro i fr out _ _ _ h; omega
  | succ M ih =>
    intro i fr out hf hi ho hM
    have hpiece : ∀ j : Nat, s.extract fr j = baOf ((s.data.toList.drop fr).take (j - fr)) := fun j => by rw [← Lib.extract_data, baOf_data]
    have hc : (leB 0 (fr : Int) && (leB (fr : Int) (i : Int) && leB (i : Int) s.size)) = true := by rw [leB_t (by omega), leB_t (by omega), leB_t (by omega)]; rfl
    have hb : ∀ x : ByteArray, Nat.blt (out.length + ([x] : List ByteArray).length) 1099511627776 = true := fun x => Nat.ble_eq_true_of_le (by simp; omega)
    simp only [Z10L, Z11]
    rw [ct (dt (by omega))]
    by_cases h : i = s.size
    · rw [ct (dt (by omega)), ct hc, ct (hb _), Int.toNat_natCast, Int.toNat_natCast, hpiece, w64_succ (by rw [maxLen_val]; omega)]
      obtain ⟨M, rfl⟩ : ∃ m, M = m + 1 := ⟨M - 1, by omega⟩
      simp only [Z10L, Z11]
      rw [cf (df (by omega)), List.drop_of_length_le (i := i) (by omega)]
      simp [partsK, glue]
    · have hlt : i < s.data.toList.length := by omega
      have hd : s.data.toList.drop i = s.data.toList[i] :: s.data.toList.drop (i + 1) := List.drop_eq_getElem_cons hlt
      have hbt : bt s (i : Int) = (s.data.toList[i].toNat : Int) := by
        unfold bt
        rw [Int.toNat_natCast, Array.getD_eq_getD_getElem?, Array.getElem?_eq_getElem (by simpa using hlt), Option.getD_some]
        simp
      rw [cf (df (by omega)), ct (show (decide (0 ≤ (i : Int)) && decide ((i : Int) < (s.size : Int))) = true by rw [dt (by omega), dt (by omega)]; rfl), hbt, hd]
      by_cases hsep : (s.data.toList[i].toNat : Int) = by_
      · rw [ct (dt hsep), ct hc, ct (hb _), Int.toNat_natCast, Int.toNat_natCast, hpiece, w64_succ (by rw [maxLen_val]; omega), glue_sep (by simpa using hsep)]
        rw [ih (i + 1) (i + 1) _ (Nat.le_refl _) (by omega) (by simp; omega) (by omega), Nat.sub_self, List.take_zero, glue_nil (parts_ne _ _)]
        simp
      · rw [cf (df hsep), w64_succ (by rw [maxLen_val]; omega), glue_go (by simpa using hsep), ih (i + 1) fr _ (by omega) (by omega) (by omega) (by omega)]
        congr 4
        obtain ⟨d, rfl⟩ : ∃ d, i = fr + d := ⟨i - fr, by omega⟩
        rw [show fr + d + 1 - fr = d + 1 by omega, show fr + d - fr = d by omega, List.take_add_one, List.getElem?_drop, List.getElem?_eq_getElem hlt]
        rfl
theorem ok : Spec := fun s by_ hp => ⟨s.size + 3, fun N hN => by
  have hs : s.size ≤ 1048576 := of_decide_eq_true hp
  simp only [Z1, Z3, Z5, Z8, Z11, Z10, Z9, Z7, Z12, Z6, Z4, Z2, Z0]
  refine (loop hs by_ _ N 0 0 [] (Nat.le_refl _) (Nat.zero_le _) (by simp; omega) (by omega)).trans ?_
  rw [Nat.sub_self, List.take_zero, List.drop_zero, glue_nil (parts_ne _ _), List.nil_append]
  rfl⟩
end spec_l1Split
end
end Go.Fw
namespace Go.Fw
noncomputable section
variable {ρ : Type}
namespace spec_FormatInt
noncomputable def g (n : Int) : ByteArray := itoaB n
def P (n : Int) : Bool := i64P n
end spec_FormatInt
namespace spec_FormatInt
def Z1 {ρ : Type} (N : Nat) (v0 : Int) (kn : Int → Option ρ) : Option ρ :=
 kn v0
def Z3 {ρ : Type} (N : Nat) (v0 : Int) (kn : List Int → Int → Option ρ) : Option ρ :=
 kn ([] : List Int) v0
def Z5 {ρ : Type} (N : Nat) (v3 : List Int) (v0 : Int) (kn : List Int → I2 (Option ρ)) : Option ρ :=
 kn v3 v0 v0
def Z9 {ρ : Type} (N : Nat) (v3 : List Int) (v0 v4 : Int) (kn : List Int → I2 (Option ρ)) (k0 : List Int → Int → Option ρ) : Option ρ :=
 cond (lk N (!(decide (v4 = 0))))
 (
  cond (lk N (true)) (
   cond (lk N (decide ((Int.tmod v4 10) < 0)))
   (
    cond (lk N (Nat.blt (v3.length + ([(w8 ((w64 (48 + (w64 (0 - (Int.tmod v4 10)))))))] : List Int).length) 1099511627776)) (
     cond (lk N (true)) (
      kn (v3 ++ ([(w8 ((w64 (48 + (w64 (0 - (Int.tmod v4 10)))))))] : List Int)) v0 (w64 (Int.tdiv v4 10))) none) none)
   (
    cond (lk N (Nat.blt (v3.length + ([(w8 ((w64 (48 + (Int.tmod v4 10)))))] : List Int).length) 1099511627776)) (
     cond (lk N (true)) (
      kn (v3 ++ ([(w8 ((w64 (48 + (Int.tmod v4 10)))))] : List Int)) v0 (w64 (Int.tdiv v4 10))) none) none)) none)
 (
  cond (lk N (decide ((v3.length : Int) = 0)))
  (
   cond (lk N (true)) (
    cond (lk N (decide ((Int.tmod v4 10) < 0)))
    (
     cond (lk N (Nat.blt (v3.length + ([(w8 ((w64 (48 + (w64 (0 - (Int.tmod v4 10)))))))] : List Int).length) 1099511627776)) (
      cond (lk N (true)) (
       kn (v3 ++ ([(w8 ((w64 (48 + (w64 (0 - (Int.tmod v4 10)))))))] : List Int)) v0 (w64 (Int.tdiv v4 10))) none) none)
    (
     cond (lk N (Nat.blt (v3.length + ([(w8 ((w64 (48 + (Int.tmod v4 10)))))] : List Int).length) 1099511627776)) (
      cond (lk N (true)) (
       kn (v3 ++ ([(w8 ((w64 (48 + (Int.tmod v4 10)))))] : List Int)) v0 (w64 (Int.tdiv v4 10))) none) none)) none)
  (
   k0 v3 v0))
def Z8L {ρ : Type} (N : Nat) (k0 : List Int → Int → Option ρ) : Nat → List Int → Int → Int → Option ρ
  | 0, _, _, _ => none
  | M + 1, v3, v0, v4 => Z9 N v3 v0 v4 (fun v3 v0 v4 => Z8L N k0 M v3 v0 v4) k0
def Z8 N v3 v0 v4 k0 := (Z8L N k0 N v3 v0 v4 : Option ρ)
def Z7 N v3 v0 v4 kn := (Z8 N v3 v0 v4 kn : Option ρ)
def Z11 {ρ : Type} (N : Nat) (v3 : List Int) (v0 : Int) (kn : List Int → List Int → Int → Option ρ) : Option ρ :=
 kn v3 ([] : List Int) v0
def Z13 {ρ : Type} (N : Nat) (v3 v6 : List Int) (v0 : Int) (kn : List Int → List Int → Option ρ) : Option ρ :=
 cond (lk N (decide (v0 < 0)))
 (
  cond (lk N (Nat.blt (v6.length + ([45] : List Int).length) 1099511627776)) (
   kn v3 (v6 ++ ([45] : List Int))) none)
 (
  kn v3 v6)
def Z16 {ρ : Type} (N : Nat) (v3 v6 : List Int) (kn : List Int → List Int → Int → Option ρ) : Option ρ :=
 kn v3 v6 (w64 ((v3.length : Int) - 1))
def Z19 {ρ : Type} (N : Nat) (v3 v6 : List Int) (v7 : Int) (kn : List Int → List Int → Int → Option ρ) (k2 : List Int → Option ρ) : Option ρ :=
 cond (lk N (decide (0 ≤ v7)))
 (
  cond (lk N (inB v7 v3.length)) (
   cond (lk N (Nat.blt (v6.length + ([(v3.getD v7.toNat 0)] : List Int).length) 1099511627776)) (
    kn v3 (v6 ++ ([(v3.getD v7.toNat 0)] : List Int)) (w64 (v7 - 1))) none) none)
 (
  k2 v6)
def Z18L {ρ : Type} (N : Nat) (k2 : List Int → Option ρ) : Nat → List Int → List Int → Int → Option ρ
  | 0, _, _, _ => none
  | M + 1, v3, v6, v7 => Z19 N v3 v6 v7 (fun v3 v6 v7 => Z18L N k2 M v3 v6 v7) k2
def Z18 N v3 v6 v7 k2 := (Z18L N k2 N v3 v6 v7 : Option ρ)
def Z17 N v3 v6 v7 kn := (Z18 N v3 v6 v7 kn : Option ρ)
def Z15 N v3 v6 kn := (Z16 N v3 v6 (fun v3 v6 v7 => Z17 N v3 v6 v7 kn) : Option ρ)
def Z20 {ρ : Type} (N : Nat) (v6 : List Int) (kr : ByteArray → Option ρ) : Option ρ :=
 kr (strOfNums v6)
def Z14 N v3 v6 kr := (Z15 N v3 v6 (fun v6 => Z20 N v6 kr) : Option ρ)
def Z12 N v3 v6 v0 kr := (Z13 N v3 v6 v0 (fun v3 v6 => Z14 N v3 v6 kr) : Option ρ)
def Z10 N v3 v0 kr := (Z11 N v3 v0 (fun v3 v6 v0 => Z12 N v3 v6 v0 kr) : Option ρ)
def Z6 N v3 v0 v4 kr := (Z7 N v3 v0 v4 (fun v3 v0 => Z10 N v3 v0 kr) : Option ρ)
def Z4 N v3 v0 kr := (Z5 N v3 v0 (fun v3 v0 v4 => Z6 N v3 v0 v4 kr) : Option ρ)
def Z2 N v0 kr := (Z3 N v0 (fun v3 v0 => Z4 N v3 v0 kr) : Option ρ)
def Z0 N v0 kr := (Z1 N v0 (fun v0 => Z2 N v0 kr) : Option ρ)
def Spec : Prop := ∀  (v0 : Int), P v0 = true → ∃ N0, ∀ N, N0 ≤ N → Z0 N v0 (fun v2 => some ((), (v2, ()))) = some ((), ((g v0), ()))
theorem done {ρ : Type} {N M : Nat} (k0 : List Int → Int → Option ρ) {ds : List Int} (hd : ds ≠ []) (n : Int) : Z8L N k0 (M + 1) ds n 0 = k0 ds n := by
  have hl : ds.length ≠ 0 := fun h => hd (List.length_eq_zero_iff.1 h)
  simp only [Z8L, Z9]
  rw [cf (show (!decide True) = false from rfl), cf (df (by omega))]
theorem loop {ρ : Type} {N : Nat} (k0 : List Int → Int → Option ρ) (n : Int) : ∀ (c M : Nat) (ds : List Int) (k : Int), k.natAbs < 10 ^ c → k.natAbs < 9223372036854775809 → 1 ≤ c → c < M → ds.length + c ≤ 100 → (k ≠ 0 ∨ ds = []) →
    Z8L N k0 M ds n k = k0 (ds ++ lsd k.natAbs) n := by
  intro c
  induction c with
  | zero => intro M ds k _ _ h; omega
  | succ c ih =>
    intro M ds k hk hk2 _ hM hd hor
    obtain ⟨M, rfl⟩ : ∃ m, M = m + 1 := ⟨M - 1, by omega⟩
    have hq : w64 (Int.tdiv k 10) = Int.tdiv k 10 := by
      have := natAbs_tdiv k
      exact w64_id (by omega) (by omega)
    have hstep : Z8L N k0 (M + 1) ds n k = Z8L N k0 M (ds ++ [48 + ((k.natAbs % 10 : Nat) : Int)]) n (Int.tdiv k 10) := by
      have hb : ∀ x : Int, Nat.blt (ds.length + ([x] : List Int).length) 1099511627776 = true := fun x => Nat.ble_eq_true_of_le (by simp; omega)
      simp only [Z8L, Z9, hq, hb, lk_eq, cond_true]
      by_cases hk0 : k = 0
      · subst hk0
        have hds : ds = [] := hor.resolve_left (by simp)
        subst hds
        rfl
      · rw [nt hk0, cond_true]
        by_cases hneg : Int.tmod k 10 < 0
        · rw [dt hneg, cond_true, dig_neg hneg]
        · rw [df hneg, cond_false, dig_pos hneg]
    rw [hstep]
    by_cases hsm : k.natAbs < 10
    · have e0 : Int.tdiv k 10 = 0 := by
        have := natAbs_tdiv k
        omega
      obtain ⟨M, rfl⟩ : ∃ m, M = m + 1 := ⟨M - 1, by omega⟩
      rw [e0, done k0 (by simp) n, lsd_small hsm, Nat.mod_eq_of_lt hsm]
    · have hc : 1 ≤ c := by
        rcases Nat.eq_zero_or_pos c with h | h
        · subst h
          omega
        · exact h
      have hd2 := natAbs_tdiv k
      rw [ih M _ (Int.tdiv k 10) (by rw [hd2, Nat.div_lt_iff_lt_mul (by omega), ← Nat.pow_succ]; exact hk) (by omega) hc (by omega) (by simp; omega) (.inl (by omega)), hd2, lsd_big hsm, List.append_assoc]
      rfl
theorem back {ρ : Type} {N : Nat} (k2 : List Int → Option ρ) {ds : List Int} (hd : ds.length ≤ 100) : ∀ (j M : Nat) (out : List Int), j ≤ ds.length → j < M → out.length + j ≤ 1000 → Z18L N k2 M ds out ((j : Int) - 1) = k2 (out ++ (ds.take j).reverse) := by
  intro j
  induction j with
  | zero =>
    intro M out _ hM _
    obtain ⟨M, rfl⟩ : ∃ m, M = m + 1 := ⟨M - 1, by omega⟩
    simp only [Z18L, Z19]
    rw [cf (df (by omega)), List.take_zero, List.reverse_nil, List.append_nil]
  | succ j ih =>
    intro M out hj hM ho
    obtain ⟨M, rfl⟩ : ∃ m, M = m + 1 := ⟨M - 1, by omega⟩
    have e : ((j + 1 : Nat) : Int) - 1 = (j : Int) := by omega
    have hb : ∀ x : Int, Nat.blt (out.length + ([x] : List Int).length) 1099511627776 = true := fun x => Nat.ble_eq_true_of_le (by simp; omega)
    simp only [Z18L, Z19, e]
    rw [ct (dt (by omega)), ct (inB_nat hj), ct (hb _), Int.toNat_natCast, w64_id (by omega) (by omega), ih M _ (by omega) (by omega) (by simp; omega), ← take_getD 0 hj, List.reverse_append, List.append_assoc]
    rfl
theorem lsd_len {u : Nat} : ∀ (c : Nat), u < 10 ^ c → 1 ≤ c → (lsd u).length ≤ c := by
  intro c
  induction c generalizing u with
  | zero => intro _ h; omega
  | succ c ih =>
    intro h _
    by_cases hs : u < 10
    · rw [lsd_small hs]
      simp
    · rw [lsd_big hs, List.length_cons]
      have hc : 1 ≤ c := by
        rcases Nat.eq_zero_or_pos c with h' | h'
        · subst h'
          omega
        · exact h'
      have := ih (u := u / 10) (by rw [Nat.div_lt_iff_lt_mul (by omega), ← Nat.pow_succ]; exact h) hc
      omega
theorem ok : Spec := fun n hp => ⟨200, fun N hN => by
  simp only [P, i64P, Bool.and_eq_true, decide_eq_true_eq] at hp
  have h19 : n.natAbs < 10 ^ 19 := by
    have : (10 : Nat) ^ 19 = 10000000000000000000 := by decide
    omega
  have hlen := lsd_len 19 h19 (by omega)
  simp only [Z0, Z1, Z2, Z3, Z4, Z5, Z6, Z7, Z8]
  refine (loop _ n 19 N [] n h19 (by omega) (by omega) (by omega) (by simp) (.inr rfl)).trans ?_
  rw [List.nil_append]
  have hl0 : lsd n.natAbs = (lsd n.natAbs).take (lsd n.natAbs).length := by rw [List.take_length]
  have fin : ∀ out : List Int, out.length ≤ 10 → Z18L N (fun out6 => some ((), (strOfNums out6, ()))) N (lsd n.natAbs) out (((lsd n.natAbs).length : Int) - 1) = some ((), (strOfNums (out ++ (lsd n.natAbs).reverse), ())) := fun out ho => by
    rw [back _ (by omega) _ N out (Nat.le_refl _) (by omega) (by omega), List.take_length]
  simp only [Z10, Z11, Z12, Z13]
  by_cases hneg : n < 0
  · rw [ct (dt hneg), ct (show Nat.blt (([] : List Int).length + ([45] : List Int).length) 1099511627776 = true from rfl)]
    simp only [Z14, Z15, Z16, Z17, Z18, Z20]
    rw [w64_id (by omega) (by omega), fin _ (by simp), g, itoaB, Lib.itoa, if_pos hneg]
    have := nums_neg n.natAbs
    simp only [List.nil_append, List.singleton_append]
    rw [this]
  · rw [cf (df hneg)]
    simp only [Z14, Z15, Z16, Z17, Z18, Z20]
    rw [w64_id (by omega) (by omega), fin _ (by simp), g, itoaB, Lib.itoa, if_neg hneg, List.nil_append, nums_lsd, show n.natAbs = n.toNat by omega]⟩
end spec_FormatInt
end
end Go.Fw
namespace Go.Fw
noncomputable section
variable {ρ : Type}
namespace spec_l1Number
noncomputable def g (s : ByteArray) : Int × Bool := numK s
end spec_l1Number
namespace spec_l1Number
def Z1 {ρ : Type} (N : Nat) (v0 : ByteArray) (kn : ByteArray → Option ρ) : Option ρ :=
 kn v0
def Z3 {ρ : Type} (N : Nat) (v0 : ByteArray) (kn : ByteArray → Int → Option ρ) : Option ρ :=
 kn v0 0
def Z5 {ρ : Type} (N : Nat) (v0 : ByteArray) (v4 : Int) (kn : ByteArray → Int → Option ρ) : Option ρ :=
 cond (lk N (decide (0 < (v0.size : Int))))
 (
  cond (lk N (decide (0 ≤ 0) && decide (0 < (v0.size : Int)))) (
   cond (lk N (decide ((bt v0 0) = 45)))
   (
    kn v0 1)
   (
    kn v0 v4)) none)
 (
  kn v0 v4)
def Z7 {ρ : Type} (N : Nat) (v0 : ByteArray) (v4 : Int) (kn : ByteArray → Int → Option ρ) (kr : Int → Bool → Option ρ) : Option ρ :=
 cond (lk N (decide ((v0.size : Int) = v4)))
 (
  kr 0 false)
 (
  cond (lk N (decide ((w64 (v4 + 9)) < (v0.size : Int))))
  (
   kr 0 false)
  (
   kn v0 v4))
def Z9 {ρ : Type} (N : Nat) (v0 : ByteArray) (v4 : Int) (kn : ByteArray → I2 (Option ρ)) : Option ρ :=
 kn v0 v4 0
def Z12 {ρ : Type} (N : Nat) (v0 : ByteArray) (v4 v5 : Int) (kn : ByteArray → I3 (Option ρ)) : Option ρ :=
 kn v0 v4 v5 v4
def Z15 {ρ : Type} (N : Nat) (v0 : ByteArray) (v4 v5 v6 : Int) (kn : ByteArray → I3 (Option ρ)) (k0 : ByteArray → I2 (Option ρ)) (kr : Int → Bool → Option ρ) : Option ρ :=
 cond (lk N (decide (v6 < (v0.size : Int))))
 (
  cond (lk N (decide (0 ≤ v6) && decide (v6 < (v0.size : Int)))) (
   cond (lk N (decide ((bt v0 v6) < 48)))
   (
    kr 0 false)
   (
    cond (lk N (decide (0 ≤ v6) && decide (v6 < (v0.size : Int)))) (
     cond (lk N (decide (57 < (bt v0 v6))))
     (
      kr 0 false)
     (
      cond (lk N (decide (0 ≤ v6) && decide (v6 < (v0.size : Int)))) (
       kn v0 v4 (w64 ((w64 (10 * v5)) + (w64 ((w8 ((bt v0 v6) - 48)))))) (w64 (v6 + 1))) none)) none)) none)
 (
  k0 v0 v4 v5)
def Z14L {ρ : Type} (N : Nat) (k0 : ByteArray → I2 (Option ρ)) (kr : Int → Bool → Option ρ) : Nat → ByteArray → Int → Int → Int → Option ρ
  | 0, _, _, _, _ => none
  | M + 1, v0, v4, v5, v6 => Z15 N v0 v4 v5 v6 (fun v0 v4 v5 v6 => Z14L N k0 kr M v0 v4 v5 v6) k0 kr
def Z14 N v0 v4 v5 v6 k0 kr := (Z14L N k0 kr N v0 v4 v5 v6 : Option ρ)
def Z13 N v0 v4 v5 v6 kn kr := (Z14 N v0 v4 v5 v6 kn kr : Option ρ)
def Z11 N v0 v4 v5 kn kr := (Z12 N v0 v4 v5 (fun v0 v4 v5 v6 => Z13 N v0 v4 v5 v6 kn kr) : Option ρ)
def Z16 {ρ : Type} (N : Nat) (v0 : ByteArray) (v4 v5 : Int) (kr : Int → Bool → Option ρ) : Option ρ :=
 cond (lk N (decide (v4 = 1)))
 (
  cond (lk N (spec_FormatInt.P (w64 (0 - v5)))) (
   kr (w64 (0 - v5)) (lk N (strEq (spec_FormatInt.g (w64 (0 - v5))) v0))) none)
 (
  cond (lk N (spec_FormatInt.P v5)) (
   kr v5 (lk N (strEq (spec_FormatInt.g v5) v0))) none)
def Z10 N v0 v4 v5 kr := (Z11 N v0 v4 v5 (fun v0 v4 v5 => Z16 N v0 v4 v5 kr) kr : Option ρ)
def Z8 N v0 v4 kr := (Z9 N v0 v4 (fun v0 v4 v5 => Z10 N v0 v4 v5 kr) : Option ρ)
def Z6 N v0 v4 kr := (Z7 N v0 v4 (fun v0 v4 => Z8 N v0 v4 kr) kr : Option ρ)
def Z4 N v0 v4 kr := (Z5 N v0 v4 (fun v0 v4 => Z6 N v0 v4 kr) : Option ρ)
def Z2 N v0 kr := (Z3 N v0 (fun v0 v4 => Z4 N v0 v4 kr) : Option ρ)
def Z0 N v0 kr := (Z1 N v0 (fun v0 => Z2 N v0 kr) : Option ρ)
def Spec : Prop := ∀  (v0 : ByteArray), ∃ N0, ∀ N, N0 ≤ N → Z0 N v0 (fun v2 v3 => some ((), (v2, (v3, ())))) = some ((), ((g v0).1, ((g v0).2, ())))
theorem loop {ρ : Type} {N : Nat} {s : ByteArray} (h100 : s.size ≤ 100) (at_ : Int) (k0 : ByteArray → Int → Int → Option ρ) (kr : Int → Bool → Option ρ) : ∀ (M i n : Nat), i ≤ s.size → s.size - i ≤ 9 → n * 10 ^ (s.size - i) + 10 ^ (s.size - i) ≤ 1000000000 → s.size - i < M →
    Z14L N k0 kr M s at_ (n : Int) (i : Int) = cond ((s.data.toList.drop i).all digB) (k0 s at_ (valD n (s.data.toList.drop i) : Nat)) (kr 0 false) := by
  have hsz := Lib.size_eq s
  intro M
  induction M with
  | zero => intro i n _ _ _ h; omega
  | succ M ih =>
    intro i n hi h9 hn hM
    simp only [Z14L, Z15]
    by_cases h : i < s.size
    · have hlt : i < s.data.toList.length := by omega
      have hd : s.data.toList.drop i = s.data.toList[i] :: s.data.toList.drop (i + 1) := List.drop_eq_getElem_cons hlt
      have hbt : bt s (i : Int) = (s.data.toList[i].toNat : Int) := by
        unfold bt
        rw [Int.toNat_natCast, Array.getD_eq_getD_getElem?, Array.getElem?_eq_getElem (by simpa using hlt), Option.getD_some]
        simp
      have hc : (decide (0 ≤ (i : Int)) && decide ((i : Int) < (s.size : Int))) = true := by rw [dt (by omega), dt (by omega)]; rfl
      rw [ct (dt (by omega)), ct hc, hbt, hd, List.all_cons]
      generalize s.data.toList[i] = c
      by_cases hlo : (c.toNat : Int) < 48
      · rw [ct (dt hlo), show digB c = false by simp only [digB, Bool.and_eq_false_iff, decide_eq_false_iff_not]; omega]
        rfl
      rw [cf (df hlo), ct hc]
      by_cases hhi : 57 < (c.toNat : Int)
      · rw [ct (dt hhi), show digB c = false by simp only [digB, Bool.and_eq_false_iff, decide_eq_false_iff_not]; omega]
        rfl
      have hdig : digB c = true := by simp only [digB, Bool.and_eq_true, decide_eq_true_eq]; omega
      obtain ⟨k, hk⟩ : ∃ k, s.size - i = k + 1 := ⟨s.size - i - 1, by omega⟩
      have hk2 : s.size - (i + 1) = k := by omega
      rw [hk, Nat.pow_succ] at hn
      have hs := dstep_eq n c
      have h10 : 10 * n + 10 ≤ 1000000000 := by
        have : 1 ≤ 10 ^ k := Nat.pow_pos (by omega)
        have h1 : n * 10 ≤ n * (10 ^ k * 10) := Nat.mul_le_mul_left _ (by omega)
        omega
      have e : w64 (w64 (10 * (n : Int)) + w64 (w8 ((c.toNat : Int) - 48))) = ((dstep n c : Nat) : Int) := by
        rw [w8_id (by omega) (by omega), w64_id (n := 10 * (n : Int)) (by omega) (by omega), w64_id (n := (c.toNat : Int) - 48) (by omega) (by omega), w64_id (by omega) (by omega), hs]
        omega
      rw [cf (df hhi), ct hc, e, w64_succ (by rw [maxLen_val]; omega), hdig, Bool.true_and, valD_cons]
      refine ih (i + 1) (dstep n c) h (by omega) ?_ (by omega)
      rw [hk2]
      have h2 : dstep n c * 10 ^ k + 10 ^ k = (dstep n c + 1) * 10 ^ k := by rw [Nat.add_mul, Nat.one_mul]
      have h3 : (dstep n c + 1) * 10 ^ k ≤ (n * 10 + 10) * 10 ^ k := Nat.mul_le_mul_right _ (by omega)
      have h4 : (n * 10 + 10) * 10 ^ k = n * (10 ^ k * 10) + 10 ^ k * 10 := by
        rw [Nat.add_mul, Nat.mul_assoc, Nat.mul_comm 10 (10 ^ k)]
      omega
    · rw [cf (df (by omega)), List.drop_of_length_le (by omega), valD_nil]
      rfl
theorem ok : Spec := fun s => ⟨100, fun N hN => by
  have hsz := Lib.size_eq s
  have main : ∀ a : Nat, a ≤ 1 → a = signN s.data.toList → a ≤ s.size → Z6 N s (a : Int) (fun t2 t3 => some ((), (t2, (t3, ())))) = some ((), ((numK s).1, ((numK s).2, ()))) := by
    intro a ha hsg has
    have hlen : (s.data.toList.drop a).length = s.size - a := by rw [List.length_drop, hsz]
    simp only [Z6, Z7, numK, ← hsg]
    by_cases h1 : s.size = a
    · rw [ct (dt (by omega)), if_pos (.inl (by omega))]
    rw [cf (df (by omega)), w64_id (n := (a : Int) + 9) (by omega) (by omega)]
    by_cases h2 : a + 9 < s.size
    · rw [ct (dt (by omega)), if_pos (.inr (by omega))]
    rw [cf (df (by omega)), if_neg (by omega)]
    simp only [Z8, Z9, Z10, Z11, Z12, Z13, Z14]
    have hpow : 10 ^ (s.size - a) ≤ 10 ^ 9 := Nat.pow_le_pow_right (by omega) (by omega)
    have h9' : (10 : Nat) ^ 9 = 1000000000 := by decide
    have hlp := loop (ρ := Unit × Int × Bool × Unit) (N := N) (s := s) (by omega) (a : Int) (fun s0 at4 n5 => Z16 N s0 at4 n5 (fun t2 t3 => some ((), (t2, (t3, ()))))) (fun t2 t3 => some ((), (t2, (t3, ())))) N a 0 has (by omega) (by omega) (by omega)
    refine hlp.trans ?_
    cases hall : (s.data.toList.drop a).all digB
    · rw [cond_false, if_neg (by simp)]
    · have hv := valD_lt _ 0 hall
      rw [hlen, Nat.zero_add, Nat.one_mul] at hv
      rw [cond_true, if_pos rfl]
      simp only [Z16]
      generalize valD 0 (s.data.toList.drop a) = v at hv
      by_cases h3 : a = 1
      · have e : w64 (0 - (v : Int)) = -(v : Int) := by rw [w64_id (by omega) (by omega)]; omega
        have hP : spec_FormatInt.P (-(v : Int)) = true := by
          show i64P _ = true
          simp only [i64P, Bool.and_eq_true, decide_eq_true_eq]
          omega
        rw [ct (dt (by omega)), e, ct hP, if_pos h3, lk_eq]
        rfl
      · have hP : spec_FormatInt.P (v : Int) = true := by
          show i64P _ = true
          simp only [i64P, Bool.and_eq_true, decide_eq_true_eq]
          omega
        rw [cf (df (by omega)), ct hP, if_neg h3, lk_eq]
        rfl
  simp only [Z0, Z1, Z2, Z3, Z4, Z5]
  cases hL : s.data.toList with
  | nil =>
    have h0 : s.size = 0 := by rw [hsz, hL]; rfl
    rw [cf (df (by omega))]
    exact main 0 (by omega) (by rw [hL]; rfl) (by omega)
  | cons c r =>
    have h0 : s.size = r.length + 1 := by rw [hsz, hL]; rfl
    have hbt : bt s 0 = (c.toNat : Int) := by
      unfold bt
      rw [Array.getD_eq_getD_getElem?, ← Array.getElem?_toList, hL]
      rfl
    rw [ct (dt (by omega)), ct (show (decide ((0 : Nat) ≤ 0) && decide ((0 : Int) < (s.size : Int))) = true by rw [dt (show (0 : Int) < (s.size : Int) by omega)]; rfl), hbt]
    by_cases hc : c = 45
    · have : (c.toNat : Int) = 45 := by rw [hc]; rfl
      rw [ct (dt this)]
      exact main 1 (by omega) (by rw [hL, hc]; rfl) (by omega)
    · have hne : ¬ (c.toNat : Int) = 45 := fun e => hc (by
        apply UInt8.toNat_inj.1
        rw [show (45 : UInt8).toNat = 45 from rfl]
        omega)
      rw [cf (df hne)]
      exact main 0 (by omega) (by rw [hL]; simp [signN, hc]) (by omega)⟩
end spec_l1Number
end
end Go.Fw
namespace Go.Fw
noncomputable section
variable {ρ : Type}
namespace spec_ParseInts
def P (s : ByteArray) : Bool := decide (s.size ≤ 1048576)
noncomputable def g (s : ByteArray) : List Int × Bool := parseS s
end spec_ParseInts
namespace spec_ParseInts
def Z1 {ρ : Type} (N : Nat) (v0 : ByteArray) (kn : ByteArray → Option ρ) : Option ρ :=
 kn v0
def Z3 {ρ : Type} (N : Nat) (v0 : ByteArray) (kn : LI → ByteArray → Option ρ) : Option ρ :=
 kn ([] : List Int) v0
def Z5 {ρ : Type} (N : Nat) (v4 : LI) (v0 : ByteArray) (kn : LI → ByteArray → Option ρ) (kr : LI → Bool → Option ρ) : Option ρ :=
 cond (lk N (strEq v0 ByteArray.empty))
 (
  kr v4 true)
 (
  kn v4 v0)
def Z7 {ρ : Type} (N : Nat) (v4 : LI) (v0 : ByteArray) (kn : LI → List ByteArray → Option ρ) : Option ρ :=
 cond (lk N (spec_l1Split.P v0 32)) (
  kn v4 (spec_l1Split.g v0 32)) none
def Z10 {ρ : Type} (N : Nat) (v4 : LI) (v5 : List ByteArray) (kn : LI → List ByteArray → Int → Option ρ) : Option ρ :=
 kn v4 v5 0
def Z13 {ρ : Type} (N : Nat) (v4 : LI) (v5 : List ByteArray) (v6 : Int) (kn : LI → List ByteArray → Int → Option ρ) (k0 : LI → Option ρ) (kr : LI → Bool → Option ρ) : Option ρ :=
 cond (lk N (decide (v6 < (v5.length : Int))))
 (
  cond (lk N (inB v6 v5.length)) (
   cond (!(lk N ((spec_l1Number.g (v5.getD v6.toNat ByteArray.empty)).2)))
   (
    kr ([] : List Int) false)
   (
    cond (lk N (Nat.blt (v4.length + ([(spec_l1Number.g (v5.getD v6.toNat ByteArray.empty)).1] : List Int).length) 1099511627776)) (
     kn (v4 ++ ([(spec_l1Number.g (v5.getD v6.toNat ByteArray.empty)).1] : List Int)) v5 (w64 (v6 + 1))) none)) none)
 (
  k0 v4)
def Z12L {ρ : Type} (N : Nat) (k0 : LI → Option ρ) (kr : LI → Bool → Option ρ) : Nat → LI → List ByteArray → Int → Option ρ
  | 0, _, _, _ => none
  | M + 1, v4, v5, v6 => Z13 N v4 v5 v6 (fun v4 v5 v6 => Z12L N k0 kr M v4 v5 v6) k0 kr
def Z12 N v4 v5 v6 k0 kr := (Z12L N k0 kr N v4 v5 v6 : Option ρ)
def Z11 N v4 v5 v6 kn kr := (Z12 N v4 v5 v6 kn kr : Option ρ)
def Z9 N v4 v5 kn kr := (Z10 N v4 v5 (fun v4 v5 v6 => Z11 N v4 v5 v6 kn kr) : Option ρ)
def Z14 {ρ : Type} (N : Nat) (v4 : LI) (kr : LI → Bool → Option ρ) : Option ρ :=
 kr v4 true
def Z8 N v4 v5 kr := (Z9 N v4 v5 (fun v4 => Z14 N v4 kr) kr : Option ρ)
def Z6 N v4 v0 kr := (Z7 N v4 v0 (fun v4 v5 => Z8 N v4 v5 kr) : Option ρ)
def Z4 N v4 v0 kr := (Z5 N v4 v0 (fun v4 v0 => Z6 N v4 v0 kr) kr : Option ρ)
def Z2 N v0 kr := (Z3 N v0 (fun v4 v0 => Z4 N v4 v0 kr) : Option ρ)
def Z0 N v0 kr := (Z1 N v0 (fun v0 => Z2 N v0 kr) : Option ρ)
def Spec : Prop := ∀  (v0 : ByteArray), P v0 = true → ∃ N0, ∀ N, N0 ≤ N → Z0 N v0 (fun v2 v3 => some ((), (v2, (v3, ())))) = some ((), ((g v0).1, ((g v0).2, ())))
theorem loop {ρ : Type} {N : Nat} (k0 : List Int → Option ρ) (kr : List Int → Bool → Option ρ) {ps : List ByteArray} (hps : ps.length ≤ 2000000) : ∀ (M i : Nat) (out : List Int), i ≤ ps.length → out.length + (ps.length - i) ≤ 2000000 → ps.length - i < M →
    Z12L N k0 kr M out ps (i : Int) = match allP partS (ps.drop i) with | some l => k0 (out ++ l) | none => kr [] false := by
  intro M
  induction M with
  | zero => intro i out _ _ h; omega
  | succ M ih =>
    intro i out hi ho hM
    simp only [Z12L, Z13]
    by_cases h : i < ps.length
    · have hb : ∀ x : Int, Nat.blt (out.length + ([x] : List Int).length) 1099511627776 = true := fun x => Nat.ble_eq_true_of_le (by simp; omega)
      have hg : spec_l1Number.g (ps.getD i ByteArray.empty) = numK (ps.getD i ByteArray.empty) := rfl
      rw [ct (dt (by omega)), ct (inB_nat h), Int.toNat_natCast, drop_getD (l := ps) ByteArray.empty h, allP, hg, lk_eq]
      rw [show partS (ps.getD i ByteArray.empty) = (if (numK (ps.getD i ByteArray.empty)).2 = true then some (numK (ps.getD i ByteArray.empty)).1 else none) from rfl]
      cases hok : (numK (ps.getD i ByteArray.empty)).2
      · rw [if_neg (by simp)]
        rfl
      · rw [if_pos rfl, cf' (show (!true) = false from rfl), ct (hb _), w64_succ (by rw [maxLen_val]; omega), ih (i + 1) _ h (by simp; omega) (by omega)]
        cases allP partS (ps.drop (i + 1)) with
        | none => rfl
        | some l => simp
    · rw [cf (df (by omega)), List.drop_of_length_le (by omega)]
      simp [allP]
theorem ok : Spec := fun s hp => ⟨s.size + 100, fun N hN => by
  have hs : s.size ≤ 1048576 := of_decide_eq_true hp
  have h1 : spec_l1Split.P s 32 = true := hp
  have h2 : spec_l1Split.g s 32 = prtB s := prt_int s
  have hl := prt_len s
  simp only [Z0, Z1, Z2, Z3, Z4, Z5, lk_eq, g, parseS]
  cases he : strEq s ByteArray.empty
  · rw [cond_false, if_neg (by simp)]
    simp only [Z6, Z7]
    rw [ct h1, h2]
    simp only [Z8, Z9, Z10, Z11, Z12]
    refine (loop _ _ (ps := prtB s) (by omega) N 0 [] (Nat.zero_le _) (by simp; omega) (by omega)).trans ?_
    rw [List.drop_zero]
    cases hq : allP partS (prtB s) with
    | none => rfl
    | some l => rfl
  · rfl⟩
end spec_ParseInts
end
end Go.Fw
namespace Go.Fw
noncomputable section
variable {ρ : Type}
namespace spec_l1In
def g (n low high : Int) : Bool := inK n low high
end spec_l1In
namespace spec_l1In
def Z0 {ρ : Type} (N : Nat) (v0 v1 v2 : Int) (kr : Bool → Option ρ) : Option ρ :=
 cond (lk N (decide (v1 ≤ v0)))
 (
  kr (lk N (decide (v0 ≤ v2))))
 (
  kr false)
def Spec : Prop := ∀  (v0 v1 v2 : Int), ∃ N0, ∀ N, N0 ≤ N → Z0 N v0 v1 v2 (fun v6 => some ((), (v6, ()))) = some ((), ((g v0 v1 v2), ()))
theorem ok : Spec := fun n low high => ⟨0, fun N hN => by
  simp only [Z0, lk_eq, g, inK]
  cases decide (low ≤ n) <;> rfl⟩
end spec_l1In
end
end Go.Fw
namespace Go.Fw
noncomputable section
variable {ρ : Type}
namespace spec_l1Less
def g (a b : List Int) : Bool := lexLt a b
end spec_l1Less
namespace spec_l1Less
def Z1 {ρ : Type} (N : Nat) (v0 v1 : LI) (kn : LI → LI → Option ρ) : Option ρ :=
 kn v0 v1
def Z4 {ρ : Type} (N : Nat) (v0 v1 : LI) (kn : LI → LI → Int → Option ρ) : Option ρ :=
 kn v0 v1 0
def Z7 {ρ : Type} (N : Nat) (v0 v1 : LI) (v5 : Int) (kn : LI → LI → Int → Option ρ) (k0 : LI → LI → Option ρ) (kr : Bool → Option ρ) : Option ρ :=
 cond (lk N (decide (v5 < (v0.length : Int))))
 (
  cond (lk N (decide (v5 < (v1.length : Int))))
  (
   cond (lk N (inB v5 v0.length)) (
    cond (lk N (inB v5 v1.length)) (
     cond (lk N (!(decide ((v0.getD v5.toNat 0) = (v1.getD v5.toNat 0)))))
     (
      cond (lk N (inB v5 v0.length)) (
       cond (lk N (inB v5 v1.length)) (
        kr (lk N (decide ((v0.getD v5.toNat 0) < (v1.getD v5.toNat 0))))) none) none)
     (
      kn v0 v1 (w64 (v5 + 1)))) none) none)
  (
   k0 v0 v1))
 (
  k0 v0 v1)
def Z6L {ρ : Type} (N : Nat) (k0 : LI → LI → Option ρ) (kr : Bool → Option ρ) : Nat → LI → LI → Int → Option ρ
  | 0, _, _, _ => none
  | M + 1, v0, v1, v5 => Z7 N v0 v1 v5 (fun v0 v1 v5 => Z6L N k0 kr M v0 v1 v5) k0 kr
def Z6 N v0 v1 v5 k0 kr := (Z6L N k0 kr N v0 v1 v5 : Option ρ)
def Z5 N v0 v1 v5 kn kr := (Z6 N v0 v1 v5 kn kr : Option ρ)
def Z3 N v0 v1 kn kr := (Z4 N v0 v1 (fun v0 v1 v5 => Z5 N v0 v1 v5 kn kr) : Option ρ)
def Z8 {ρ : Type} (N : Nat) (v0 v1 : LI) (kr : Bool → Option ρ) : Option ρ :=
 kr (lk N (decide ((v0.length : Int) < (v1.length : Int))))
def Z2 N v0 v1 kr := (Z3 N v0 v1 (fun v0 v1 => Z8 N v0 v1 kr) kr : Option ρ)
def Z0 N v0 v1 kr := (Z1 N v0 v1 (fun v0 v1 => Z2 N v0 v1 kr) : Option ρ)
def Spec : Prop := ∀  (v0 v1 : LI), Ty.bd (.sl 0 (.int .i64)) v0 → Ty.bd (.sl 0 (.int .i64)) v1 → ∃ N0, ∀ N, N0 ≤ N → Z0 N v0 v1 (fun v4 => some ((), (v4, ()))) = some ((), ((g v0 v1), ()))
theorem loop {ρ : Type} (N : Nat) (k0 : List Int → List Int → Option ρ) (kr : Bool → Option ρ) (a b : List Int) (ha : a.length ≤ maxLen) (h0 : k0 a b = kr (decide (a.length < b.length))) : ∀ (M j : Nat), j ≤ a.length → j ≤ b.length → a.length - j < M →
    Z6L N k0 kr M a b (j : Int) = kr (lexLt (a.drop j) (b.drop j)) := by
  intro M
  induction M with
  | zero => intro j _ _ h; omega
  | succ M ih =>
    intro j hj hb hM
    simp only [Z6L, Z7]
    by_cases h : j < a.length
    · rw [ct (dt (by omega)), drop_getD 0 h]
      by_cases h2 : j < b.length
      · rw [ct (dt (by omega)), ct (inB_nat h), ct (inB_nat h2), Int.toNat_natCast, w64_succ (by omega), drop_getD (l := b) 0 h2, lexLt, ih (j + 1) h h2 (by omega)]
        by_cases e : a.getD j 0 = b.getD j 0
        · rw [cf (nf e), if_pos e]
        · rw [ct (nt e), if_neg e, ct (inB_nat h), ct (inB_nat h2), lk_eq]
      · rw [cf (df (by omega)), List.drop_of_length_le (l := b) (by omega), h0, df (by omega)]
        rfl
    · rw [cf (df (by omega)), List.drop_of_length_le (by omega), h0]
      by_cases h2 : j < b.length
      · rw [dt (by omega), drop_getD (l := b) 0 h2]; rfl
      · rw [df (by omega), List.drop_of_length_le (l := b) (by omega)]; rfl
theorem ok : Spec := fun a b ha hb => ⟨a.length + 1, fun N hN => by
  simp only [Z1, Z4, Z7, Z6, Z5, Z3, Z8, Z2, Z0]
  refine (loop N _ (fun t => some ((), (t, ()))) a b ha.1 ?_ N 0 (by omega) (by omega) (by omega)).trans rfl
  rw [lk_eq, show decide ((a.length : Int) < (b.length : Int)) = decide (a.length < b.length) from decide_eq_decide.2 (by omega)]⟩
end spec_l1Less
end
end Go.Fw
namespace Go.Fw
noncomputable section
variable {ρ : Type}
namespace spec_l2Right
def g (f : Int × List (List Int × Int)) : Bool := lokK f
end spec_l2Right
namespace spec_l2Right
def Z1 {ρ : Type} (N : Nat) (v0 : Int × List (LI × Int)) (kn : Int → (List (LI × Int)) → Option ρ) : Option ρ :=
 kn v0.1 v0.2
def Z3 {ρ : Type} (N : Nat) (v1_0 : Int) (v1_1 : List (LI × Int)) (kn : Int → (List (LI × Int)) → Option ρ) (kr : Bool → Option ρ) : Option ρ :=
 cond (!(lk N ((spec_l1In.g v1_0 1 8))))
 (
  kr false)
 (
  cond (lk N (decide (600 < (v1_1.length : Int))))
  (
   kr false)
  (
   kn v1_0 v1_1))
def Z6 {ρ : Type} (N : Nat) (v1_0 : Int) (v1_1 : List (LI × Int)) (kn : I2 ((List (LI × Int)) → Option ρ)) : Option ρ :=
 kn 0 v1_0 v1_1
def Z10 {ρ : Type} (N : Nat) (v3 v1_0 : Int) (v1_1 : List (LI × Int)) (kn : I2 ((List (LI × Int)) → Option ρ)) (k0 : Option ρ) : Option ρ :=
 cond (lk N (decide (v3 < (v1_1.length : Int))))
 (
  kn v3 v1_0 v1_1)
 (
  k0)
def Z14 {ρ : Type} (N : Nat) (v3 v1_0 : Int) (v1_1 : List (LI × Int)) (kn : I2 ((List (LI × Int)) → LI → Int → Option ρ)) : Option ρ :=
 cond (lk N (inB v3 v1_1.length)) (
  kn v3 v1_0 v1_1 (v1_1.getD v3.toNat ([], 0)).1 (v1_1.getD v3.toNat ([], 0)).2) none
def Z16 {ρ : Type} (N : Nat) (v3 v1_0 : Int) (v1_1 : List (LI × Int)) (v4_0 : LI) (v4_1 : Int) (kn : I2 ((List (LI × Int)) → LI → Int → Option ρ)) (kr : Bool → Option ρ) : Option ρ :=
 cond (lk N (!(decide ((v4_0.length : Int) = v1_0))))
 (
  kr false)
 (
  cond (lk N (decide (v4_1 = 0)))
  (
   kr false)
  (
   cond (!(lk N ((spec_l1In.g v4_1 (-1000000) 1000000))))
   (
    kr false)
   (
    cond (lk N (decide (0 < v3)))
    (
     cond (lk N (inB (w64 (v3 - 1)) v1_1.length)) (
      cond (!(lk N ((spec_l1Less.g v4_0 (v1_1.getD (w64 (v3 - 1)).toNat ([], 0)).1))))
      (
       kr false)
      (
       kn v3 v1_0 v1_1 v4_0 v4_1)) none)
    (
     kn v3 v1_0 v1_1 v4_0 v4_1))))
def Z18 {ρ : Type} (N : Nat) (v3 v1_0 : Int) (v1_1 : List (LI × Int)) (v4_0 : LI) (v4_1 : Int) (kn : I3 ((List (LI × Int)) → LI → Int → Option ρ)) : Option ρ :=
 kn v3 0 v1_0 v1_1 v4_0 v4_1
def Z21 {ρ : Type} (N : Nat) (v3 v5 v1_0 : Int) (v1_1 : List (LI × Int)) (v4_0 : LI) (v4_1 : Int) (kn : I3 ((List (LI × Int)) → LI → Int → Option ρ)) (k2 : I2 ((List (LI × Int)) → Option ρ)) (kr : Bool → Option ρ) : Option ρ :=
 cond (lk N (decide (v5 < v1_0)))
 (
  cond (lk N (inB v5 v4_0.length)) (
   cond (!(lk N ((spec_l1In.g (v4_0.getD v5.toNat 0) (-20) 20))))
   (
    kr false)
   (
    kn v3 (w64 (v5 + 1)) v1_0 v1_1 v4_0 v4_1)) none)
 (
  k2 v3 v1_0 v1_1)
def Z20L {ρ : Type} (N : Nat) (k2 : I2 ((List (LI × Int)) → Option ρ)) (kr : Bool → Option ρ) : Nat → Int → Int → Int → (List (LI × Int)) → LI → Int → Option ρ
  | 0, _, _, _, _, _, _ => none
  | M + 1, v3, v5, v1_0, v1_1, v4_0, v4_1 => Z21 N v3 v5 v1_0 v1_1 v4_0 v4_1 (fun v3 v5 v1_0 v1_1 v4_0 v4_1 => Z20L N k2 kr M v3 v5 v1_0 v1_1 v4_0 v4_1) k2 kr
def Z20 N v3 v5 v1_0 v1_1 v4_0 v4_1 k2 kr := (Z20L N k2 kr N v3 v5 v1_0 v1_1 v4_0 v4_1 : Option ρ)
def Z19 N v3 v5 v1_0 v1_1 v4_0 v4_1 kn kr := (Z20 N v3 v5 v1_0 v1_1 v4_0 v4_1 kn kr : Option ρ)
def Z17 N v3 v1_0 v1_1 v4_0 v4_1 kn kr := (Z18 N v3 v1_0 v1_1 v4_0 v4_1 (fun v3 v5 v1_0 v1_1 v4_0 v4_1 => Z19 N v3 v5 v1_0 v1_1 v4_0 v4_1 kn kr) : Option ρ)
def Z15 N v3 v1_0 v1_1 v4_0 v4_1 kn kr := (Z16 N v3 v1_0 v1_1 v4_0 v4_1 (fun v3 v1_0 v1_1 v4_0 v4_1 => Z17 N v3 v1_0 v1_1 v4_0 v4_1 kn kr) kr : Option ρ)
def Z13 N v3 v1_0 v1_1 kn kr := (Z14 N v3 v1_0 v1_1 (fun v3 v1_0 v1_1 v4_0 v4_1 => Z15 N v3 v1_0 v1_1 v4_0 v4_1 kn kr) : Option ρ)
def Z12 N v3 v1_0 v1_1 kn kr := (Z13 N v3 v1_0 v1_1 kn kr : Option ρ)
def Z22 {ρ : Type} (N : Nat) (v3 v1_0 : Int) (v1_1 : List (LI × Int)) (kn : I2 ((List (LI × Int)) → Option ρ)) : Option ρ :=
 kn (w64 (v3 + 1)) v1_0 v1_1
def Z11 N v3 v1_0 v1_1 kn kr := (Z12 N v3 v1_0 v1_1 (fun v3 v1_0 v1_1 => Z22 N v3 v1_0 v1_1 kn) kr : Option ρ)
def Z9 N v3 v1_0 v1_1 kn k0 kr := (Z10 N v3 v1_0 v1_1 (fun v3 v1_0 v1_1 => Z11 N v3 v1_0 v1_1 kn kr) k0 : Option ρ)
def Z8L {ρ : Type} (N : Nat) (k0 : Option ρ) (kr : Bool → Option ρ) : Nat → Int → Int → (List (LI × Int)) → Option ρ
  | 0, _, _, _ => none
  | M + 1, v3, v1_0, v1_1 => Z9 N v3 v1_0 v1_1 (fun v3 v1_0 v1_1 => Z8L N k0 kr M v3 v1_0 v1_1) k0 kr
def Z8 N v3 v1_0 v1_1 k0 kr := (Z8L N k0 kr N v3 v1_0 v1_1 : Option ρ)
def Z7 N v3 v1_0 v1_1 kn kr := (Z8 N v3 v1_0 v1_1 kn kr : Option ρ)
def Z5 N v1_0 v1_1 kn kr := (Z6 N v1_0 v1_1 (fun v3 v1_0 v1_1 => Z7 N v3 v1_0 v1_1 kn kr) : Option ρ)
def Z23 {ρ : Type} (N : Nat)  (kr : Bool → Option ρ) : Option ρ :=
 kr true
def Z4 N v1_0 v1_1 kr := (Z5 N v1_0 v1_1 (Z23 N kr) kr : Option ρ)
def Z2 N v1_0 v1_1 kr := (Z3 N v1_0 v1_1 (fun v1_0 v1_1 => Z4 N v1_0 v1_1 kr) kr : Option ρ)
def Z0 N v0 kr := (Z1 N v0 (fun v1_0 v1_1 => Z2 N v1_0 v1_1 kr) : Option ρ)
def Spec : Prop := ∀  (v0 : Int × List (LI × Int)), Ty.bd (.pair (.int .i64) (.sl 0 (.pair (.sl 0 (.int .i64)) (.int .i64)))) v0 → ∃ N0, ∀ N, N0 ≤ N → Z0 N v0 (fun v2 => some ((), (v2, ()))) = some ((), ((g v0), ()))
theorem inner {ρ : Type} (N : Nat) (k2 : Int → Int → List (List Int × Int) → Option ρ) (kr : Bool → Option ρ) (k v : Int) (l : List (List Int × Int)) (e : List Int) (c : Int) (he : e.length ≤ maxLen) (hv : (e.length : Int) = v) : ∀ (M j : Nat), j ≤ e.length → e.length - j < M →
    Z20L N k2 kr M k (j : Int) v l e c = cond ((e.drop j).all fun x => inK x (-20) 20) (k2 k v l) (kr false) := by
  intro M
  induction M with
  | zero => intro j _ h; omega
  | succ M ih =>
    intro j hj hM
    simp only [Z20L, Z21]
    by_cases h : j < e.length
    · rw [ct (dt (by omega)), ct (inB_nat h), Int.toNat_natCast, w64_succ (by omega), drop_getD 0 h, List.all_cons, ih (j + 1) h (by omega)]
      simp only [lk_eq, spec_l1In.g]
      cases inK (e.getD j 0) (-20) 20 <;> rfl
    · rw [cf (df (by omega)), List.drop_of_length_le (by omega)]; rfl
theorem loop {ρ : Type} (N : Nat) (kr : Bool → Option ρ) (v : Int) (l : List (List Int × Int)) (hl : l.length ≤ maxLen) (hv : inK v 1 8 = true) (hN : 10 ≤ N) : ∀ (M j : Nat), j ≤ l.length → l.length - j < M →
    Z8L N (kr true) kr M (j : Int) v l = kr (termsK v (l.drop j) (prevE l j)) := by
  simp only [inK, Bool.and_eq_true, decide_eq_true_eq] at hv
  intro M
  induction M with
  | zero => intro j _ h; omega
  | succ M ih =>
    intro j hj hM
    simp only [Z8L, Z1, Z3, Z6, Z10, Z14, Z16, Z18, Z21, Z20, Z19, Z17, Z15, Z13, Z12, Z22, Z11, Z9, Z8, Z7, Z5, Z23, Z4, Z2, Z0]
    by_cases h : j < l.length
    · rw [ct (dt (by omega)), ct (inB_nat h), Int.toNat_natCast, drop_getD ([], 0) h, termsK]
      by_cases hlen : ((l.getD j ([], 0)).1.length : Int) = v
      · rw [cf (nf hlen)]
        have hin := inner (ρ := ρ) N (fun k3 f1_0 f1_1 => Z8L N (kr true) kr M (w64 (k3 + 1)) f1_0 f1_1) kr j v l (l.getD j ([], 0)).1 (l.getD j ([], 0)).2 (by rw [maxLen_val]; omega) hlen N 0 (by omega) (by omega)
        rw [List.drop_zero, w64_succ (by omega), ih (j + 1) h (by omega)] at hin
        rw [show (((0 : Nat) : Int)) = 0 from rfl] at hin
        simp only [lk_eq, spec_l1In.g, expK, dt hlen, Bool.true_and, coefK]
        rw [hin]
        generalize ((l.getD j ([], 0)).1.all fun x => inK x (-20) 20) = b1
        cases hz : decide ((l.getD j ([], 0)).2 = 0) with
        | true => cases b1 <;> rfl
        | false =>
          cases inK (l.getD j ([], 0)).2 (-1000000) 1000000 with
          | false => cases b1 <;> rfl
          | true =>
            cases j with
            | zero => cases b1 <;> rfl
            | succ j =>
              rw [dt (show (0 : Int) < ((j + 1 : Nat) : Int) by omega), show w64 (((j + 1 : Nat) : Int) - 1) = (j : Int) by rw [w64_id (by omega) (by rw [maxLen_val] at hl; omega)]; omega, inB_nat (by omega)]
              simp only [cond_true, Int.toNat_natCast, spec_l1Less.g, prevE, belowK, Bool.not_true, cond_false, Bool.not_false, Bool.true_and]
              cases lexLt (l.getD (j + 1) ([], 0)).1 (l.getD j ([], 0)).1 <;> cases b1 <;> rfl
      · rw [ct (nt hlen), expK, df hlen]; rfl
    · rw [cf (df (by omega)), List.drop_of_length_le (by omega), termsK]
theorem ok : Spec := fun f hb => ⟨f.2.length + 10, fun N hN => by
  simp only [Z1, Z3, Z6, Z10, Z14, Z16, Z18, Z21, Z20, Z19, Z17, Z15, Z13, Z12, Z22, Z11, Z9, Z8, Z7, Z5, Z23, Z4, Z2, Z0, g, lokK, spec_l1In.g]
  cases h1 : inK f.1 1 8
  · simp [lk_eq]
  by_cases h2 : (600 : Int) < f.2.length
  · rw [cf' (by simp [lk_eq]), ct (dt h2), df (by omega)]
    simp
  · rw [cf' (by simp [lk_eq]), cf (df h2), dt (show f.2.length ≤ 600 by omega)]
    exact (loop N (fun t => some ((), (t, ()))) _ f.2 hb.2.1 h1 (by omega) N 0 (by omega) (by omega)).trans rfl⟩
end spec_l2Right
end
end Go.Fw
namespace Go.Fw
noncomputable section
variable {ρ : Type}
namespace spec_FormatInts
noncomputable def g (l : List Int) : ByteArray := itoasB l
def P (l : List Int) : Bool := rowP l
end spec_FormatInts
namespace spec_FormatInts
def Z1 {ρ : Type} (N : Nat) (v0 : LI) (kn : LI → Option ρ) : Option ρ :=
 kn v0
def Z3 {ρ : Type} (N : Nat) (v0 : LI) (kn : LI → ByteArray → Option ρ) : Option ρ :=
 kn v0 ByteArray.empty
def Z6 {ρ : Type} (N : Nat) (v0 : LI) (v3 : ByteArray) (kn : LI → ByteArray → Int → Option ρ) : Option ρ :=
 kn v0 v3 0
def Z9 {ρ : Type} (N : Nat) (v0 : LI) (v3 : ByteArray) (v4 : Int) (kn : LI → ByteArray → Int → Option ρ) (k0 : ByteArray → Option ρ) : Option ρ :=
 cond (lk N (decide (v4 < (v0.length : Int))))
 (
  cond (lk N (decide (0 < v4)))
  (
   cond (Nat.blt (v3.size + (⟨#[32]⟩ : ByteArray).size) 4611686018427387904) (
    cond (lk N (inB v4 v0.length)) (
     cond (lk N (spec_FormatInt.P (v0.getD v4.toNat 0))) (
      cond (Nat.blt ((v3 ++ (⟨#[32]⟩ : ByteArray)).size + (spec_FormatInt.g (v0.getD v4.toNat 0)).size) 4611686018427387904) (
       kn v0 ((v3 ++ (⟨#[32]⟩ : ByteArray)) ++ (spec_FormatInt.g (v0.getD v4.toNat 0))) (w64 (v4 + 1))) none) none) none) none)
  (
   cond (lk N (inB v4 v0.length)) (
    cond (lk N (spec_FormatInt.P (v0.getD v4.toNat 0))) (
     cond (Nat.blt (v3.size + (spec_FormatInt.g (v0.getD v4.toNat 0)).size) 4611686018427387904) (
      kn v0 (v3 ++ (spec_FormatInt.g (v0.getD v4.toNat 0))) (w64 (v4 + 1))) none) none) none))
 (
  k0 v3)
def Z8L {ρ : Type} (N : Nat) (k0 : ByteArray → Option ρ) : Nat → LI → ByteArray → Int → Option ρ
  | 0, _, _, _ => none
  | M + 1, v0, v3, v4 => Z9 N v0 v3 v4 (fun v0 v3 v4 => Z8L N k0 M v0 v3 v4) k0
def Z8 N v0 v3 v4 k0 := (Z8L N k0 N v0 v3 v4 : Option ρ)
def Z7 N v0 v3 v4 kn := (Z8 N v0 v3 v4 kn : Option ρ)
def Z5 N v0 v3 kn := (Z6 N v0 v3 (fun v0 v3 v4 => Z7 N v0 v3 v4 kn) : Option ρ)
def Z10 {ρ : Type} (N : Nat) (v3 : ByteArray) (kr : ByteArray → Option ρ) : Option ρ :=
 kr v3
def Z4 N v0 v3 kr := (Z5 N v0 v3 (fun v3 => Z10 N v3 kr) : Option ρ)
def Z2 N v0 kr := (Z3 N v0 (fun v0 v3 => Z4 N v0 v3 kr) : Option ρ)
def Z0 N v0 kr := (Z1 N v0 (fun v0 => Z2 N v0 kr) : Option ρ)
def Spec : Prop := ∀  (v0 : LI), Ty.bd (.sl 0 (.int .i64)) v0 → P v0 = true → ∃ N0, ∀ N, N0 ≤ N → Z0 N v0 (fun v2 => some ((), (v2, ()))) = some ((), ((g v0), ()))
theorem loop {ρ : Type} {N : Nat} (k0 : ByteArray → Option ρ) {l : List Int} (hp : rowP l = true) : ∀ (M j : Nat), j ≤ l.length → l.length - j < M → Z8L N k0 M l (itoasB (l.take j)) (j : Int) = k0 (itoasB l) := by
  simp only [rowP, Bool.and_eq_true, decide_eq_true_eq] at hp
  intro M
  induction M with
  | zero => intro j _ h; omega
  | succ M ih =>
    intro j hj hM
    simp only [Z8L, Z9]
    by_cases h : j < l.length
    · have hi : i64P (l.getD j 0) = true := List.all_eq_true.1 hp.2 _ (getD_mem 0 h)
      have h1 : spec_FormatInt.P (l.getD j 0) = true := hi
      have h2 : spec_FormatInt.g (l.getD j 0) = itoaB (l.getD j 0) := rfl
      have hsz := itoaB_size hi
      have hall : (l.take j).all i64P = true := List.all_eq_true.2 fun x hx => List.all_eq_true.1 hp.2 x (List.mem_of_mem_take hx)
      have hlen := itoas_len hall
      have hs : (itoasB (l.take j)).size ≤ 22 * j := by
        have e : (itoasB (l.take j)).size = (itoasL (l.take j)).length := by simp [itoasB, ByteArray.size]
        rw [List.length_take] at hlen
        omega
      have e1 : (⟨#[32]⟩ : ByteArray).size = 1 := rfl
      have e3 : itoasB (l.take j) ++ (⟨#[32]⟩ : ByteArray) = ⟨(itoasL (l.take j) ++ [32]).toArray⟩ := ba_app _ [32]
      rw [ct (dt (by omega)), w64_succ (by rw [maxLen_val]; omega), Int.toNat_natCast]
      by_cases h0 : j = 0
      · subst h0
        rw [cf (df (by omega)), ct (inB_nat h), ct h1, h2, ct' (show Nat.blt ((itoasB (l.take 0)).size + (itoaB (l.getD 0 0)).size) 4611686018427387904 = true from Nat.ble_eq_true_of_le (by omega))]
        have e : itoasB (l.take 0) ++ itoaB (l.getD 0 0) = itoasB (l.take (0 + 1)) := by
          rw [← take_getD 0 h, List.take_zero, List.nil_append]
          show (⟨([] : List UInt8).toArray⟩ : ByteArray) ++ ⟨(Lib.itoa (l.getD 0 0)).toArray⟩ = ⟨(itoasL [l.getD 0 0]).toArray⟩
          rw [ba_app, itoas_one, List.nil_append]
        rw [e]
        exact ih 1 h (by omega)
      · have hne : l.take j ≠ [] := fun e => by
          have := congrArg List.length e
          rw [List.length_take, List.length_nil] at this
          omega
        have hs2 : (itoasB (l.take j) ++ (⟨#[32]⟩ : ByteArray)).size ≤ 22 * j + 1 := by
          rw [ByteArray.size_append, e1]
          omega
        rw [ct (dt (by omega)), ct' (show Nat.blt ((itoasB (l.take j)).size + (⟨#[32]⟩ : ByteArray).size) 4611686018427387904 = true from Nat.ble_eq_true_of_le (by omega)), ct (inB_nat h), ct h1, h2,
          ct' (show Nat.blt ((itoasB (l.take j) ++ (⟨#[32]⟩ : ByteArray)).size + (itoaB (l.getD j 0)).size) 4611686018427387904 = true from Nat.ble_eq_true_of_le (by omega))]
        have e : itoasB (l.take j) ++ (⟨#[32]⟩ : ByteArray) ++ itoaB (l.getD j 0) = itoasB (l.take (j + 1)) := by
          rw [e3, ← take_getD 0 h]
          show _ ++ (⟨(Lib.itoa (l.getD j 0)).toArray⟩ : ByteArray) = ⟨(itoasL (l.take j ++ [l.getD j 0])).toArray⟩
          rw [ba_app, itoas_snoc hne]
        rw [e]
        exact ih (j + 1) h (by omega)
    · rw [cf (df (by omega)), List.take_of_length_le (by omega)]
theorem ok : Spec := fun l hb hp => ⟨l.length + 1, fun N hN => by
  simp only [Z1, Z3, Z6, Z9, Z8, Z7, Z5, Z10, Z4, Z2, Z0]
  exact loop (fun s3 => some ((), (s3, ()))) hp N 0 (Nat.zero_le _) (by omega)⟩
end spec_FormatInts
end
end Go.Fw
namespace Go.Fw
noncomputable section
variable {ρ : Type}
namespace spec_FormatLaurent
noncomputable def g (f : Int × List (List Int × Int)) : ByteArray := if lokK f = true then fmtL f else ByteArray.empty
end spec_FormatLaurent
namespace spec_FormatLaurent
def Z1 {ρ : Type} (N : Nat) (v0 : Int × List (LI × Int)) (kn : Int → (List (LI × Int)) → Option ρ) : Option ρ :=
 kn v0.1 v0.2
def Z3 {ρ : Type} (N : Nat) (v1_0 : Int) (v1_1 : List (LI × Int)) (kn : Int → (List (LI × Int)) → Option ρ) (kr : ByteArray → Option ρ) : Option ρ :=
 cond (!(lk N ((spec_l2Right.g (v1_0, v1_1)))))
 (
  kr ByteArray.empty)
 (
  kn v1_0 v1_1)
def Z5 {ρ : Type} (N : Nat) (v1_0 : Int) (v1_1 : List (LI × Int)) (kn : ByteArray → Int → (List (LI × Int)) → Option ρ) : Option ρ :=
 cond (lk N (spec_FormatInt.P v1_0)) (
  cond (Nat.blt ((spec_FormatInt.g v1_0).size + (⟨#[124]⟩ : ByteArray).size) 4611686018427387904) (
   kn ((spec_FormatInt.g v1_0) ++ (⟨#[124]⟩ : ByteArray)) v1_0 v1_1) none) none
def Z7 {ρ : Type} (N : Nat) (v3 : ByteArray) (v1_0 : Int) (v1_1 : List (LI × Int)) (kn : ByteArray → Int → (List (LI × Int)) → Option ρ) (kr : ByteArray → Option ρ) : Option ρ :=
 cond (lk N (decide ((v1_1.length : Int) = 0)))
 (
  cond (Nat.blt (v3.size + (⟨#[48]⟩ : ByteArray).size) 4611686018427387904) (
   kr (v3 ++ (⟨#[48]⟩ : ByteArray))) none)
 (
  kn v3 v1_0 v1_1)
def Z10 {ρ : Type} (N : Nat) (v3 : ByteArray) (v1_0 : Int) (v1_1 : List (LI × Int)) (kn : ByteArray → I2 ((List (LI × Int)) → Option ρ)) : Option ρ :=
 kn v3 0 v1_0 v1_1
def Z13 {ρ : Type} (N : Nat) (v3 : ByteArray) (v4 v1_0 : Int) (v1_1 : List (LI × Int)) (kn : ByteArray → I2 ((List (LI × Int)) → Option ρ)) (k0 : ByteArray → Option ρ) : Option ρ :=
 cond (lk N (decide (v4 < (v1_1.length : Int))))
 (
  cond (lk N (decide (0 < v4)))
  (
   cond (Nat.blt (v3.size + (⟨#[44, 32]⟩ : ByteArray).size) 4611686018427387904) (
    cond (lk N (inB v4 v1_1.length)) (
     cond (lk N (inB v4 v1_1.length)) (
      cond (lk N (spec_FormatInt.P (v1_1.getD v4.toNat ([], 0)).2)) (
       cond (Nat.blt ((v3 ++ (⟨#[44, 32]⟩ : ByteArray)).size + (spec_FormatInt.g (v1_1.getD v4.toNat ([], 0)).2).size) 4611686018427387904) (
        cond (Nat.blt (((v3 ++ (⟨#[44, 32]⟩ : ByteArray)) ++ (spec_FormatInt.g (v1_1.getD v4.toNat ([], 0)).2)).size + (⟨#[58]⟩ : ByteArray).size) 4611686018427387904) (
         cond (lk N (spec_FormatInts.P (v1_1.getD v4.toNat ([], 0)).1)) (
          cond (Nat.blt ((((v3 ++ (⟨#[44, 32]⟩ : ByteArray)) ++ (spec_FormatInt.g (v1_1.getD v4.toNat ([], 0)).2)) ++ (⟨#[58]⟩ : ByteArray)).size + (spec_FormatInts.g (v1_1.getD v4.toNat ([], 0)).1).size) 4611686018427387904) (
           kn ((((v3 ++ (⟨#[44, 32]⟩ : ByteArray)) ++ (spec_FormatInt.g (v1_1.getD v4.toNat ([], 0)).2)) ++ (⟨#[58]⟩ : ByteArray)) ++ (spec_FormatInts.g (v1_1.getD v4.toNat ([], 0)).1)) (w64 (v4 + 1)) v1_0 v1_1) none) none) none) none) none) none) none) none)
  (
   cond (lk N (inB v4 v1_1.length)) (
    cond (lk N (inB v4 v1_1.length)) (
     cond (lk N (spec_FormatInt.P (v1_1.getD v4.toNat ([], 0)).2)) (
      cond (Nat.blt (v3.size + (spec_FormatInt.g (v1_1.getD v4.toNat ([], 0)).2).size) 4611686018427387904) (
       cond (Nat.blt ((v3 ++ (spec_FormatInt.g (v1_1.getD v4.toNat ([], 0)).2)).size + (⟨#[58]⟩ : ByteArray).size) 4611686018427387904) (
        cond (lk N (spec_FormatInts.P (v1_1.getD v4.toNat ([], 0)).1)) (
         cond (Nat.blt (((v3 ++ (spec_FormatInt.g (v1_1.getD v4.toNat ([], 0)).2)) ++ (⟨#[58]⟩ : ByteArray)).size + (spec_FormatInts.g (v1_1.getD v4.toNat ([], 0)).1).size) 4611686018427387904) (
          kn (((v3 ++ (spec_FormatInt.g (v1_1.getD v4.toNat ([], 0)).2)) ++ (⟨#[58]⟩ : ByteArray)) ++ (spec_FormatInts.g (v1_1.getD v4.toNat ([], 0)).1)) (w64 (v4 + 1)) v1_0 v1_1) none) none) none) none) none) none) none))
 (
  k0 v3)
def Z12L {ρ : Type} (N : Nat) (k0 : ByteArray → Option ρ) : Nat → ByteArray → Int → Int → (List (LI × Int)) → Option ρ
  | 0, _, _, _, _ => none
  | M + 1, v3, v4, v1_0, v1_1 => Z13 N v3 v4 v1_0 v1_1 (fun v3 v4 v1_0 v1_1 => Z12L N k0 M v3 v4 v1_0 v1_1) k0
def Z12 N v3 v4 v1_0 v1_1 k0 := (Z12L N k0 N v3 v4 v1_0 v1_1 : Option ρ)
def Z11 N v3 v4 v1_0 v1_1 kn := (Z12 N v3 v4 v1_0 v1_1 kn : Option ρ)
def Z9 N v3 v1_0 v1_1 kn := (Z10 N v3 v1_0 v1_1 (fun v3 v4 v1_0 v1_1 => Z11 N v3 v4 v1_0 v1_1 kn) : Option ρ)
def Z14 {ρ : Type} (N : Nat) (v3 : ByteArray) (kr : ByteArray → Option ρ) : Option ρ :=
 kr v3
def Z8 N v3 v1_0 v1_1 kr := (Z9 N v3 v1_0 v1_1 (fun v3 => Z14 N v3 kr) : Option ρ)
def Z6 N v3 v1_0 v1_1 kr := (Z7 N v3 v1_0 v1_1 (fun v3 v1_0 v1_1 => Z8 N v3 v1_0 v1_1 kr) kr : Option ρ)
def Z4 N v1_0 v1_1 kr := (Z5 N v1_0 v1_1 (fun v3 v1_0 v1_1 => Z6 N v3 v1_0 v1_1 kr) : Option ρ)
def Z2 N v1_0 v1_1 kr := (Z3 N v1_0 v1_1 (fun v1_0 v1_1 => Z4 N v1_0 v1_1 kr) kr : Option ρ)
def Z0 N v0 kr := (Z1 N v0 (fun v1_0 v1_1 => Z2 N v1_0 v1_1 kr) : Option ρ)
def Spec : Prop := ∀  (v0 : Int × List (LI × Int)), Ty.bd (.pair (.int .i64) (.sl 0 (.pair (.sl 0 (.int .i64)) (.int .i64)))) v0 → ∃ N0, ∀ N, N0 ≤ N → Z0 N v0 (fun v2 => some ((), (v2, ()))) = some ((), ((g v0), ()))
theorem blt_txt {a b : ByteArray} (h : a.size + b.size < 4611686018427387904) : Nat.blt (a.size + b.size) 4611686018427387904 = true := Nat.ble_eq_true_of_le h
theorem loop {ρ : Type} {N : Nat} {f : Int × List (List Int × Int)} (hf : LFacts f) (k0 : ByteArray → Option ρ) : ∀ (M j : Nat), j ≤ f.2.length → f.2.length - j < M →
    Z12L N k0 M (txt (headT f ++ Lib.join ((termsT f).take j) [44, 32])) (j : Int) f.1 f.2 = k0 (txt (headT f ++ Lib.join (termsT f) [44, 32])) := by
  have hn := hf.n
  have hh := headT_len hf
  intro M
  induction M with
  | zero => intro j _ h; omega
  | succ M ih =>
    intro j hj hM
    simp only [Z12L, Z13]
    by_cases h : j < f.2.length
    · have hm := getD_mem (l := f.2) (j := j) ([], 0) h
      have h1 : spec_FormatInt.P (f.2.getD j ([], 0)).2 = true := hf.c _ hm
      have h1g : spec_FormatInt.g (f.2.getD j ([], 0)).2 = txt (Lib.itoa (f.2.getD j ([], 0)).2) := rfl
      have h2 : spec_FormatInts.P (f.2.getD j ([], 0)).1 = true := hf.e _ hm
      have h2g : spec_FormatInts.g (f.2.getD j ([], 0)).1 = txt (itoasL (f.2.getD j ([], 0)).1) := rfl
      have hl := hf.l _ hm
      have hp := partL_len hf j
      have ht : termT (f.2.getD j ([], 0)) = Lib.itoa (f.2.getD j ([], 0)).2 ++ [58] ++ itoasL (f.2.getD j ([], 0)).1 := rfl
      have hl' := hl
      rw [ht] at hl'
      simp only [List.length_append, List.length_cons, List.length_nil] at hl'
      have e1 : (⟨#[44, 32]⟩ : ByteArray) = txt [44, 32] := rfl
      have e2 : (⟨#[58]⟩ : ByteArray) = txt [58] := rfl
      rw [ct (dt (by omega)), Int.toNat_natCast, h1g, h2g, e1, e2]
      simp only [txt_app]
      by_cases h0 : j = 0
      · subst h0
        rw [cf (df (by omega)), ct (inB_nat h), ct (inB_nat h), ct h1,
          ct' (blt_txt (by rw [txt_size, txt_size]; simp only [List.length_append]; omega)), ct' (blt_txt (by rw [txt_size, txt_size]; simp only [List.length_append, List.length_cons, List.length_nil]; omega)), ct h2,
          ct' (blt_txt (by rw [txt_size, txt_size]; simp only [List.length_append, List.length_cons, List.length_nil]; omega)), w64_succ (by rw [maxLen_val]; omega)]
        have e4 : headT f ++ Lib.join ((termsT f).take 0) [44, 32] ++ Lib.itoa (f.2.getD 0 ([], 0)).2 ++ [58] ++ itoasL (f.2.getD 0 ([], 0)).1 = headT f ++ Lib.join ((termsT f).take (0 + 1)) [44, 32] := by
          rw [← take_getD [] (by rw [termsT_len]; exact h), termsT_get h, List.take_zero, List.nil_append, Lib.join_one, Lib.join_nil, List.append_nil, ht]
          simp only [List.append_assoc]
        rw [e4]
        exact ih 1 h (by omega)
      · have hne : (termsT f).take j ≠ [] := fun e => by
          have := congrArg List.length e
          rw [List.length_take, termsT_len, List.length_nil] at this
          omega
        rw [ct (dt (by omega)), ct' (blt_txt (by rw [txt_size, txt_size]; simp only [List.length_append, List.length_cons, List.length_nil]; omega)), ct (inB_nat h), ct (inB_nat h), ct h1,
          ct' (blt_txt (by rw [txt_size, txt_size]; simp only [List.length_append, List.length_cons, List.length_nil]; omega)), ct' (blt_txt (by rw [txt_size, txt_size]; simp only [List.length_append, List.length_cons, List.length_nil]; omega)), ct h2,
          ct' (blt_txt (by rw [txt_size, txt_size]; simp only [List.length_append, List.length_cons, List.length_nil]; omega)), w64_succ (by rw [maxLen_val]; omega)]
        have e4 : headT f ++ Lib.join ((termsT f).take j) [44, 32] ++ [44, 32] ++ Lib.itoa (f.2.getD j ([], 0)).2 ++ [58] ++ itoasL (f.2.getD j ([], 0)).1 = headT f ++ Lib.join ((termsT f).take (j + 1)) [44, 32] := by
          rw [← take_getD [] (by rw [termsT_len]; exact h), termsT_get h, join_snoc hne, ht]
          simp only [List.append_assoc]
        rw [e4]
        exact ih (j + 1) h (by omega)
    · rw [cf (df (by omega)), List.take_of_length_le (by rw [termsT_len]; omega)]
theorem ok : Spec := fun f hb => ⟨f.2.length + 100, fun N hN => by
  have e0 : spec_l2Right.g (f.1, f.2) = lokK f := rfl
  simp only [Z0, Z1, Z2, Z3, e0, lk_eq, g]
  cases h1 : lokK f
  · rfl
  have hf := lfacts h1
  have hh := headT_len hf
  have hP : spec_FormatInt.P f.1 = true := i64_of (by have := hf.v; omega) (by have := hf.v; omega)
  have hg : spec_FormatInt.g f.1 = txt (Lib.itoa f.1) := rfl
  have e1 : (⟨#[124]⟩ : ByteArray) = txt [124] := rfl
  have e2 : (⟨#[48]⟩ : ByteArray) = txt [48] := rfl
  have hh' := hh
  unfold headT at hh'
  simp only [List.length_append, List.length_cons, List.length_nil] at hh'
  simp only [Bool.not_true, cond_false, Z4, Z5]
  rw [ct hP, hg, e1, ct' (blt_txt (by rw [txt_size, txt_size]; simp only [List.length_append, List.length_cons, List.length_nil]; omega)), txt_app, if_pos trivial]
  simp only [Z6, Z7]
  by_cases h0 : f.2.length = 0
  · rw [ct (dt (by omega)), e2, ct' (blt_txt (by rw [txt_size, txt_size]; simp only [List.length_append, List.length_cons, List.length_nil]; omega)), txt_app, fmtL, if_pos h0]
    rfl
  · rw [cf (df (by omega))]
    simp only [Z8, Z9, Z10, Z11, Z12]
    have hlp := loop (ρ := Unit × ByteArray × Unit) (N := N) hf (fun s3 => Z14 N s3 (fun t2 => some ((), (t2, ())))) N 0 (Nat.zero_le _) (by omega)
    rw [List.take_zero, Lib.join_nil, List.append_nil] at hlp
    refine hlp.trans ?_
    rw [fmtL, if_neg h0]
    rfl⟩
end spec_FormatLaurent
end
end Go.Fw
namespace Go.Fw
noncomputable section
variable {ρ : Type}
namespace spec_ParseLaurent
def P (s : ByteArray) : Bool := decide (s.size ≤ 1048576)
noncomputable def g (s : ByteArray) : (Int × List (List Int × Int)) × Bool := readLS s
end spec_ParseLaurent
namespace spec_ParseLaurent
def Z1 {ρ : Type} (N : Nat) (v0 : ByteArray) (kn : ByteArray → Int → Option ρ) : Option ρ :=
 kn v0 0
def Z3 {ρ : Type} (N : Nat) (v0 : ByteArray) (v2_0 : Int) (kn : List ByteArray → ByteArray → Int → Option ρ) : Option ρ :=
 cond (lk N (spec_l1Split.P v0 124)) (
  kn (spec_l1Split.g v0 124) v0 v2_0) none
def Z5 {ρ : Type} (N : Nat) (v4 : List ByteArray) (v0 : ByteArray) (v2_0 : Int) (kn : List ByteArray → ByteArray → Int → Option ρ) (kr : (List (LI × Int)) → Bool → Int → Option ρ) : Option ρ :=
 cond (lk N (!(decide ((v4.length : Int) = 2))))
 (
  kr ([] : List (LI × Int)) false 0)
 (
  kn v4 v0 v2_0)
def Z7 {ρ : Type} (N : Nat) (v4 : List ByteArray) (v0 : ByteArray) (v2_0 : Int) (kn : List ByteArray → ByteArray → Int → Bool → Int → Option ρ) : Option ρ :=
 cond (lk N (inB 0 v4.length)) (
  kn v4 v0 (spec_l1Number.g (v4.getD 0 ByteArray.empty)).1 (lk N ((spec_l1Number.g (v4.getD 0 ByteArray.empty)).2)) v2_0) none
def Z9 {ρ : Type} (N : Nat) (v4 : List ByteArray) (v0 : ByteArray) (v5 : Int) (v6 : Bool) (v2_0 : Int) (kn : List ByteArray → ByteArray → I2 (Option ρ)) (kr : (List (LI × Int)) → Bool → Int → Option ρ) : Option ρ :=
 cond (!(v6))
 (
  kr ([] : List (LI × Int)) false 0)
 (
  kn v4 v0 v5 v2_0)
def Z11 {ρ : Type} (N : Nat) (v4 : List ByteArray) (v0 : ByteArray) (v5 v2_0 : Int) (kn : List ByteArray → (List (LI × Int)) → ByteArray → I2 (Option ρ)) : Option ρ :=
 kn v4 ([] : List (LI × Int)) v0 v2_0 v5
def Z13 {ρ : Type} (N : Nat) (v4 : List ByteArray) (v7_1 : List (LI × Int)) (v0 : ByteArray) (v2_0 v7_0 : Int) (kn : List ByteArray → List ByteArray → (List (LI × Int)) → ByteArray → I2 (Option ρ)) : Option ρ :=
 cond (lk N (inB 1 v4.length)) (
  cond (lk N (spec_l1Split.P (v4.getD 1 ByteArray.empty) 44)) (
   kn v4 (spec_l1Split.g (v4.getD 1 ByteArray.empty) 44) v7_1 v0 v2_0 v7_0) none) none
def Z16 {ρ : Type} (N : Nat) (v4 v8 : List ByteArray) (v7_1 : List (LI × Int)) (v0 : ByteArray) (v2_0 v7_0 : Int) (kn : List ByteArray → List ByteArray → (List (LI × Int)) → ByteArray → I3 (Option ρ)) : Option ρ :=
 kn v4 v8 v7_1 v0 0 v2_0 v7_0
def Z20 {ρ : Type} (N : Nat) (v4 v8 : List ByteArray) (v7_1 : List (LI × Int)) (v0 : ByteArray) (v9 v2_0 v7_0 : Int) (kn : List ByteArray → List ByteArray → (List (LI × Int)) → ByteArray → I3 (Option ρ)) (k0 : (List (LI × Int)) → ByteArray → I2 (Option ρ)) : Option ρ :=
 cond (lk N (decide (v9 < (v8.length : Int))))
 (
  cond (lk N (decide (v9 ≤ 600)))
  (
   cond (lk N (inB 1 v4.length)) (
    cond (lk N (!(strEq (v4.getD 1 ByteArray.empty) (⟨#[48]⟩ : ByteArray))))
    (
     kn v4 v8 v7_1 v0 v9 v2_0 v7_0)
    (
     k0 v7_1 v0 v2_0 v7_0)) none)
  (
   k0 v7_1 v0 v2_0 v7_0))
 (
  k0 v7_1 v0 v2_0 v7_0)
def Z24 {ρ : Type} (N : Nat) (v4 v8 : List ByteArray) (v7_1 : List (LI × Int)) (v0 : ByteArray) (v9 v2_0 v7_0 : Int) (kn : List ByteArray → List ByteArray → (List (LI × Int)) → ByteArray → Int → ByteArray → I2 (Option ρ)) : Option ρ :=
 cond (lk N (inB v9 v8.length)) (
  kn v4 v8 v7_1 v0 v9 (v8.getD v9.toNat ByteArray.empty) v2_0 v7_0) none
def Z26 {ρ : Type} (N : Nat) (v4 v8 : List ByteArray) (v7_1 : List (LI × Int)) (v0 : ByteArray) (v9 : Int) (v10 : ByteArray) (v2_0 v7_0 : Int) (kn : List ByteArray → List ByteArray → (List (LI × Int)) → ByteArray → Int → ByteArray → I2 (Option ρ)) : Option ρ :=
 cond (lk N (decide (0 < v9)))
 (
  cond (lk N (decide (0 < (v10.size : Int))))
  (
   cond (lk N (leB 0 1 && leB 1 v10.size)) (
    kn v4 v8 v7_1 v0 v9 (v10.extract 1 v10.size) v2_0 v7_0) none)
  (
   kn v4 v8 v7_1 v0 v9 v10 v2_0 v7_0))
 (
  kn v4 v8 v7_1 v0 v9 v10 v2_0 v7_0)
def Z27 {ρ : Type} (N : Nat) (v4 v8 : List ByteArray) (v7_1 : List (LI × Int)) (v0 : ByteArray) (v9 : Int) (v10 : ByteArray) (v2_0 v7_0 : Int) (kn : List ByteArray → List ByteArray → (List (LI × Int)) → ByteArray → I3 (Option ρ)) (kr : (List (LI × Int)) → Bool → Int → Option ρ) : Option ρ :=
 cond (lk N (spec_l1Split.P v10 58)) (
  cond (lk N (!(decide (((spec_l1Split.g v10 58).length : Int) = 2))))
  (
   kr ([] : List (LI × Int)) false 0)
  (
   cond (lk N (inB 0 (spec_l1Split.g v10 58).length)) (
    cond (lk N (inB 1 (spec_l1Split.g v10 58).length)) (
     cond (lk N (spec_ParseInts.P ((spec_l1Split.g v10 58).getD 1 ByteArray.empty))) (
      cond (!(lk N ((spec_l1Number.g ((spec_l1Split.g v10 58).getD 0 ByteArray.empty)).2)))
      (
       kr ([] : List (LI × Int)) false 0)
      (
       cond (!(lk N ((spec_ParseInts.g ((spec_l1Split.g v10 58).getD 1 ByteArray.empty)).2)))
       (
        kr ([] : List (LI × Int)) false 0)
       (
        cond (lk N (Nat.blt (v7_1.length + ([((spec_ParseInts.g ((spec_l1Split.g v10 58).getD 1 ByteArray.empty)).1, (spec_l1Number.g ((spec_l1Split.g v10 58).getD 0 ByteArray.empty)).1)] : List (LI × Int)).length) 1099511627776)) (
         kn v4 v8 (v7_1 ++ ([((spec_ParseInts.g ((spec_l1Split.g v10 58).getD 1 ByteArray.empty)).1, (spec_l1Number.g ((spec_l1Split.g v10 58).getD 0 ByteArray.empty)).1)] : List (LI × Int))) v0 v9 v2_0 v7_0) none))) none) none) none)) none
def Z25 N v4 v8 v7_1 v0 v9 v10 v2_0 v7_0 kn kr := (Z26 N v4 v8 v7_1 v0 v9 v10 v2_0 v7_0 (fun v4 v8 v7_1 v0 v9 v10 v2_0 v7_0 => Z27 N v4 v8 v7_1 v0 v9 v10 v2_0 v7_0 kn kr) : Option ρ)
def Z23 N v4 v8 v7_1 v0 v9 v2_0 v7_0 kn kr := (Z24 N v4 v8 v7_1 v0 v9 v2_0 v7_0 (fun v4 v8 v7_1 v0 v9 v10 v2_0 v7_0 => Z25 N v4 v8 v7_1 v0 v9 v10 v2_0 v7_0 kn kr) : Option ρ)
def Z22 N v4 v8 v7_1 v0 v9 v2_0 v7_0 kn kr := (Z23 N v4 v8 v7_1 v0 v9 v2_0 v7_0 kn kr : Option ρ)
def Z28 {ρ : Type} (N : Nat) (v4 v8 : List ByteArray) (v7_1 : List (LI × Int)) (v0 : ByteArray) (v9 v2_0 v7_0 : Int) (kn : List ByteArray → List ByteArray → (List (LI × Int)) → ByteArray → I3 (Option ρ)) : Option ρ :=
 kn v4 v8 v7_1 v0 (w64 (v9 + 1)) v2_0 v7_0
def Z21 N v4 v8 v7_1 v0 v9 v2_0 v7_0 kn kr := (Z22 N v4 v8 v7_1 v0 v9 v2_0 v7_0 (fun v4 v8 v7_1 v0 v9 v2_0 v7_0 => Z28 N v4 v8 v7_1 v0 v9 v2_0 v7_0 kn) kr : Option ρ)
def Z19 N v4 v8 v7_1 v0 v9 v2_0 v7_0 kn k0 kr := (Z20 N v4 v8 v7_1 v0 v9 v2_0 v7_0 (fun v4 v8 v7_1 v0 v9 v2_0 v7_0 => Z21 N v4 v8 v7_1 v0 v9 v2_0 v7_0 kn kr) k0 : Option ρ)
def Z18L {ρ : Type} (N : Nat) (k0 : (List (LI × Int)) → ByteArray → I2 (Option ρ)) (kr : (List (LI × Int)) → Bool → Int → Option ρ) : Nat → List ByteArray → List ByteArray → (List (LI × Int)) → ByteArray → Int → Int → Int → Option ρ
  | 0, _, _, _, _, _, _, _ => none
  | M + 1, v4, v8, v7_1, v0, v9, v2_0, v7_0 => Z19 N v4 v8 v7_1 v0 v9 v2_0 v7_0 (fun v4 v8 v7_1 v0 v9 v2_0 v7_0 => Z18L N k0 kr M v4 v8 v7_1 v0 v9 v2_0 v7_0) k0 kr
def Z18 N v4 v8 v7_1 v0 v9 v2_0 v7_0 k0 kr := (Z18L N k0 kr N v4 v8 v7_1 v0 v9 v2_0 v7_0 : Option ρ)
def Z17 N v4 v8 v7_1 v0 v9 v2_0 v7_0 kn kr := (Z18 N v4 v8 v7_1 v0 v9 v2_0 v7_0 kn kr : Option ρ)
def Z15 N v4 v8 v7_1 v0 v2_0 v7_0 kn kr := (Z16 N v4 v8 v7_1 v0 v2_0 v7_0 (fun v4 v8 v7_1 v0 v9 v2_0 v7_0 => Z17 N v4 v8 v7_1 v0 v9 v2_0 v7_0 kn kr) : Option ρ)
def Z29 {ρ : Type} (N : Nat) (v7_1 : List (LI × Int)) (v0 : ByteArray) (v2_0 v7_0 : Int) (kr : (List (LI × Int)) → Bool → Int → Option ρ) : Option ρ :=
 cond (lk N (!(strEq (spec_FormatLaurent.g (v7_0, v7_1)) v0)))
 (
  kr ([] : List (LI × Int)) false 0)
 (
  kr v7_1 true v7_0)
def Z14 N v4 v8 v7_1 v0 v2_0 v7_0 kr := (Z15 N v4 v8 v7_1 v0 v2_0 v7_0 (fun v7_1 v0 v2_0 v7_0 => Z29 N v7_1 v0 v2_0 v7_0 kr) kr : Option ρ)
def Z12 N v4 v7_1 v0 v2_0 v7_0 kr := (Z13 N v4 v7_1 v0 v2_0 v7_0 (fun v4 v8 v7_1 v0 v2_0 v7_0 => Z14 N v4 v8 v7_1 v0 v2_0 v7_0 kr) : Option ρ)
def Z10 N v4 v0 v5 v2_0 kr := (Z11 N v4 v0 v5 v2_0 (fun v4 v7_1 v0 v2_0 v7_0 => Z12 N v4 v7_1 v0 v2_0 v7_0 kr) : Option ρ)
def Z8 N v4 v0 v5 v6 v2_0 kr := (Z9 N v4 v0 v5 v6 v2_0 (fun v4 v0 v5 v2_0 => Z10 N v4 v0 v5 v2_0 kr) kr : Option ρ)
def Z6 N v4 v0 v2_0 kr := (Z7 N v4 v0 v2_0 (fun v4 v0 v5 v6 v2_0 => Z8 N v4 v0 v5 v6 v2_0 kr) : Option ρ)
def Z4 N v4 v0 v2_0 kr := (Z5 N v4 v0 v2_0 (fun v4 v0 v2_0 => Z6 N v4 v0 v2_0 kr) kr : Option ρ)
def Z2 N v0 v2_0 kr := (Z3 N v0 v2_0 (fun v4 v0 v2_0 => Z4 N v4 v0 v2_0 kr) : Option ρ)
def Z0 N v0 kr := (Z1 N v0 (fun v0 v2_0 => Z2 N v0 v2_0 kr) : Option ρ)
def Spec : Prop := ∀  (v0 : ByteArray), P v0 = true → ∃ N0, ∀ N, N0 ≤ N → Z0 N v0 (fun v2_1 v3 v2_0 => some ((), ((v2_0, v2_1), (v3, ())))) = some ((), ((g v0).1, ((g v0).2, ())))
theorem loop {ρ : Type} {N : Nat} (k0 : List (List Int × Int) → ByteArray → Int → Int → Option ρ) (kr : List (List Int × Int) → Bool → Int → Option ρ) (s : ByteArray) (t0 v : Int) {two ps : List ByteArray} (h1 : 1 < two.length) (hz : strEq (two.getD 1 ByteArray.empty) ⟨#[48]⟩ = false) (hps : ps.length ≤ 2000000) (hsz : ∀ w ∈ ps, w.size ≤ 1048576) :
    ∀ (M i : Nat) (out : List (List Int × Int)), i ≤ (ps.take 601).length → out.length ≤ i → (ps.take 601).length - i < M →
    Z18L N k0 kr M two ps out s (i : Int) t0 v = match goSL ((ps.take 601).drop i) i out with | some q => k0 q s t0 v | none => kr [] false 0 := by
  intro M
  induction M with
  | zero => intro i out _ _ h; omega
  | succ M ih =>
    intro i out hi ho hM
    have hL : (ps.take 601).length = min 601 ps.length := List.length_take
    have h1b : inB 1 two.length = true := inB_1 h1
    simp only [Z18L, Z19, Z20]
    by_cases h : i < (ps.take 601).length
    · have hlt : i < ps.length := by omega
      have hmem := hsz _ (getD_mem (l := ps) ByteArray.empty hlt)
      have hge : (ps.take 601).getD i ByteArray.empty = ps.getD i ByteArray.empty := by
        rw [List.getD_eq_getElem?_getD, List.getD_eq_getElem?_getD, List.getElem?_take, if_pos (by omega)]
      rw [ct (dt (by omega)), ct (dt (by omega)), ct h1b, ct (by rw [hz]; rfl)]
      simp only [Z21, Z22, Z23, Z24, Z25]
      rw [ct (inB_nat hlt), Int.toNat_natCast, drop_getD (l := ps.take 601) ByteArray.empty h, hge]
      generalize hp : ps.getD i ByteArray.empty = p at hmem
      have step : ∀ w : ByteArray, w = cutP i p → Z27 N two ps out s (i : Int) w t0 v (fun two parts8 f7_1 s0 kx9 t2_0 f7_0 => Z28 N two parts8 f7_1 s0 kx9 t2_0 f7_0 fun two4 parts8 f7_1 s0 kx9 t2_0 f7_0 => Z18L N k0 kr M two4 parts8 f7_1 s0 kx9 t2_0 f7_0) kr =
            match goSL (p :: (ps.take 601).drop (i + 1)) i out with | some q => k0 q s t0 v | none => kr [] false 0 := fun w e => by
        have hw : w.size ≤ 1048576 := by
          have := cutP_size i p
          rw [e]
          omega
        have hg : spec_l1Split.g w 58 = partsA 58 (cutP i p) := by rw [← e]; rfl
        have hPs : spec_l1Split.P w 58 = true := dt hw
        rw [goSL]
        simp only [Z27, Z28]
        rw [ct hPs, hg]
        have hs2 := partsA_sizes 58 (cutP i p)
        rw [← e] at hs2
        rw [← e]
        generalize partsA 58 w = x at hs2
        by_cases h2 : x.length = 2
        · have h2' : (!(decide ((x.length : Int) = 2))) = false := by rw [dt (by omega)]; rfl
          rw [cf h2', if_pos h2, ct (inB_0 (by omega)), ct (inB_1 (by omega))]
          have hm1 := hs2 _ (getD_mem (l := x) (j := 1) ByteArray.empty (by omega))
          have hN : spec_l1Number.g (x.getD 0 ByteArray.empty) = numK (x.getD 0 ByteArray.empty) := rfl
          have hQ : spec_ParseInts.g (x.getD 1 ByteArray.empty) = parseS (x.getD 1 ByteArray.empty) := rfl
          have hQP : spec_ParseInts.P (x.getD 1 ByteArray.empty) = true := dt (by omega)
          rw [hN, hQ, ct hQP, lk_eq]
          cases hn : (numK (x.getD 0 ByteArray.empty)).2
          · rfl
          · rw [if_pos rfl, cf' (show (!true) = false from rfl), lk_eq]
            cases hq : (parseS (x.getD 1 ByteArray.empty)).2
            · rfl
            · rw [if_pos rfl, cf' (show (!true) = false from rfl), ct (blt1 _ _ (by omega)), w64_succ (by rw [maxLen_val]; omega)]
              exact ih (i + 1) _ h (by simp; omega) (by omega)
        · have h2' : (!(decide ((x.length : Int) = 2))) = true := by rw [df (by omega)]; rfl
          rw [ct h2', if_neg h2]
      simp only [Z26]
      by_cases h0 : 0 < i
      · rw [ct (dt (by omega))]
        by_cases h1 : 0 < p.size
        · rw [ct (dt (by omega)), ct (show (leB 0 1 && leB 1 p.size) = true by rw [leB_t (by omega), leB_t (by omega)]; rfl)]
          refine step _ ?_
          unfold cutP
          rw [if_pos (dt h0), if_pos (dt (by omega))]
        · rw [cf (df (by omega))]
          refine step _ ?_
          unfold cutP
          rw [if_pos (dt h0), if_neg (by rw [decide_eq_true_eq]; omega)]
      · rw [cf (df (by omega))]
        refine step _ ?_
        unfold cutP
        rw [if_neg (by rw [decide_eq_true_eq]; omega)]
    · rw [List.drop_of_length_le (by omega), goSL]
      by_cases hlt : i < ps.length
      · rw [ct (dt (by omega)), cf (df (by omega))]
      · rw [cf (df (by omega))]
theorem loop0 {ρ : Type} {N : Nat} (k0 : List (List Int × Int) → ByteArray → Int → Int → Option ρ) (kr : List (List Int × Int) → Bool → Int → Option ρ) (s : ByteArray) (t0 v : Int) {two ps : List ByteArray} (h1 : 1 < two.length) (hz : strEq (two.getD 1 ByteArray.empty) ⟨#[48]⟩ = true) (M : Nat) :
    Z18L N k0 kr (M + 1) two ps [] s 0 t0 v = k0 [] s t0 v := by
  have h1b : inB 1 two.length = true := inB_1 h1
  simp only [Z18L, Z19, Z20]
  by_cases h : 0 < ps.length
  · rw [ct (dt (by omega)), ct (dt (by omega)), ct h1b, cf (by rw [hz]; rfl)]
  · rw [cf (df (by omega))]
theorem ok : Spec := fun s hp => ⟨s.size + 1000, fun N hN => by
  have hs : s.size ≤ 1048576 := of_decide_eq_true hp
  have h1 : spec_l1Split.P s 124 = true := hp
  have h2 : spec_l1Split.g s 124 = partsA 124 s := rfl
  simp only [Z0, Z1, Z2, Z3]
  rw [ct h1, h2]
  have hsz := partsA_sizes 124 s
  simp only [Z4, Z5, g, readLS]
  generalize partsA 124 s = two at hsz
  by_cases hl : two.length = 2
  · have hl' : (!(decide ((two.length : Int) = 2))) = false := by rw [dt (by omega)]; rfl
    rw [cf hl', if_pos hl]
    simp only [Z6, Z7]
    rw [ct (inB_0 (by omega))]
    have hN2 : spec_l1Number.g (two.getD 0 ByteArray.empty) = numK (two.getD 0 ByteArray.empty) := rfl
    rw [hN2]
    simp only [Z8, Z9, lk_eq]
    cases hn : (numK (two.getD 0 ByteArray.empty)).2
    · rfl
    · rw [if_pos rfl, cf' (show (!true) = false from rfl)]
      simp only [Z10, Z11, Z12, Z13]
      have hm1 := hsz _ (getD_mem (l := two) (j := 1) ByteArray.empty (by omega))
      have hP2 : spec_l1Split.P (two.getD 1 ByteArray.empty) 44 = true := dt (by omega)
      have hg2 : spec_l1Split.g (two.getD 1 ByteArray.empty) 44 = partsA 44 (two.getD 1 ByteArray.empty) := rfl
      rw [ct (inB_1 (by omega)), ct hP2, hg2]
      have hsz2 := partsA_sizes 44 (two.getD 1 ByteArray.empty)
      have hlen2 := partsA_len 44 (two.getD 1 ByteArray.empty)
      have key : ∀ f : Int × List (List Int × Int), Z29 (ρ := _) N f.2 s 0 f.1 (fun t2_1 t3 t2_0 => some ((), ((t2_0, t2_1), (t3, ())))) = some ((), ((endLS s f).1, ((endLS s f).2, ()))) := fun f => by
        have e : spec_FormatLaurent.g (f.1, f.2) = if lokK f = true then fmtL f else ByteArray.empty := rfl
        simp only [Z29, lk_eq, endLS, e]
        cases strEq (if lokK f = true then fmtL f else ByteArray.empty) s <;> rfl
      simp only [Z14, Z15, Z16, Z17, Z18, tailS]
      obtain ⟨M, rfl⟩ : ∃ M, N = M + 1 := ⟨N - 1, by omega⟩
      by_cases hz : strEq (two.getD 1 ByteArray.empty) zeroT = true
      · rw [if_pos hz, loop0 _ _ s 0 _ (by omega) hz]
        exact key (_, [])
      · rw [if_neg hz]
        have hz' : strEq (two.getD 1 ByteArray.empty) ⟨#[48]⟩ = false := by simpa [zeroT] using hz
        refine (loop _ _ s 0 _ (by omega) hz' (by omega) (fun w hw => Nat.le_trans (hsz2 w hw) (by omega)) (M + 1) 0 [] (Nat.zero_le _) (by simp) (by rw [List.length_take]; omega)).trans ?_
        rw [List.drop_zero]
        cases hq : goSL ((partsA 44 (two.getD 1 ByteArray.empty)).take 601) 0 [] with
        | none => rfl
        | some q => exact key (_, q)
  · have hl' : (!(decide ((two.length : Int) = 2))) = true := by rw [df (by omega)]; rfl
    rw [ct hl', if_neg hl]
    rfl⟩
end spec_ParseLaurent
end
end Go.Fw
namespace Go.Fw
noncomputable section
variable {ρ : Type}
namespace strings_Cut
noncomputable def g (s sep : ByteArray) : ByteArray × ByteArray × Bool := cutV s sep
def P (s sep : ByteArray) : Bool := Nat.blt s.size 4294967281
end strings_Cut
namespace strings_Cut
theorem ok : True := trivial
end strings_Cut
end
end Go.Fw
namespace Go.Fw
noncomputable section
variable {ρ : Type}
namespace strings_Split
noncomputable def g (s sep : ByteArray) : List ByteArray := Lib.splitB sep 0 (Lib.countB s sep) s
def P (s sep : ByteArray) : Bool := Nat.blt s.size 4294967281 && Nat.ble 1 sep.size
end strings_Split
namespace strings_Split
theorem ok : True := trivial
end strings_Split
end
end Go.Fw
namespace Go.Fw
noncomputable section
variable {ρ : Type}
namespace strconv_Atoi
def g (s : ByteArray) : Int × Bool := atoiW s
def P (s : ByteArray) : Bool := decide (s.size ≤ 1048576)
end strconv_Atoi
namespace strconv_Atoi
theorem ok : True := trivial
end strconv_Atoi
end
end Go.Fw
namespace Go.Fw
noncomputable section
variable {ρ : Type}
namespace impl_within
def g (n low high : Int) : Bool := inK n low high
end impl_within
namespace impl_within
def Z0 {ρ : Type} (N : Nat) (v0 v1 v2 : Int) (kr : Bool → Option ρ) : Option ρ :=
 cond (lk N (decide (v1 ≤ v0)))
 (
  kr (lk N (decide (v0 ≤ v2))))
 (
  kr false)
def Spec : Prop := ∀  (v0 v1 v2 : Int), ∃ N0, ∀ N, N0 ≤ N → Z0 N v0 v1 v2 (fun v6 => some ((), (v6, ()))) = some ((), ((g v0 v1 v2), ()))
theorem ok : Spec := fun n low high => ⟨0, fun N hN => by
  simp only [Z0, lk_eq, g, inK]
  cases decide (low ≤ n) <;> rfl⟩
end impl_within
end
end Go.Fw
namespace Go.Fw
noncomputable section
variable {ρ : Type}
namespace strconv_Itoa
noncomputable def g (n : Int) : ByteArray := itoaB n
def P (n : Int) : Bool := i64P n
end strconv_Itoa
namespace strconv_Itoa
theorem ok : True := trivial
end strconv_Itoa
end
end Go.Fw
namespace Go.Fw
noncomputable section
variable {ρ : Type}
namespace impl_FormatInt
noncomputable def g (n : Int) : ByteArray := itoaB n
def P (n : Int) : Bool := i64P n
end impl_FormatInt
namespace impl_FormatInt
def Z0 {ρ : Type} (N : Nat) (v0 : Int) (kr : ByteArray → Option ρ) : Option ρ :=
 cond (lk N (strconv_Itoa.P v0)) (
  kr (strconv_Itoa.g v0)) none
def Spec : Prop := ∀  (v0 : Int), P v0 = true → ∃ N0, ∀ N, N0 ≤ N → Z0 N v0 (fun v2 => some ((), (v2, ()))) = some ((), ((g v0), ()))
theorem ok : Spec := fun n hp => ⟨0, fun N hN => by
  simp only [Z0]
  rw [ct (show strconv_Itoa.P n = true from hp)]
  rfl⟩
end impl_FormatInt
end
end Go.Fw
namespace Go.Fw
noncomputable section
variable {ρ : Type}
namespace strings_Join
noncomputable def g (xs : List ByteArray) (sep : ByteArray) : ByteArray := ⟨(Lib.join (xs.map (·.data.toList)) sep.data.toList).toArray⟩
noncomputable def P (xs : List ByteArray) (sep : ByteArray) : Bool := Nat.ble xs.length 140737488355328 && Nat.ble (Lib.join (xs.map (·.data.toList)) sep.data.toList).length 140737488355328
end strings_Join
namespace strings_Join
theorem ok : True := trivial
end strings_Join
end
end Go.Fw
namespace Go.Fw
noncomputable section
variable {ρ : Type}
namespace impl_FormatInts
noncomputable def g (l : List Int) : ByteArray := itoasB l
def P (l : List Int) : Bool := rowP l
end impl_FormatInts
namespace impl_FormatInts
def Z1 {ρ : Type} (N : Nat) (v0 : LI) (kn : LI → Option ρ) : Option ρ :=
 kn v0
def Z3 {ρ : Type} (N : Nat) (v0 : LI) (kn : LI → Option ρ) : Option ρ :=
 kn v0
def Z6 {ρ : Type} (N : Nat) (v0 : LI) (kn : LI → I2 (Option ρ)) : Option ρ :=
 kn v0 (v0.length : Int) 0
def Z9 {ρ : Type} (N : Nat) (v3 : List ByteArray) (v6 : LI) (v7 v8 : Int) (kn : List ByteArray → LI → I2 (Option ρ)) (k0 : List ByteArray → Option ρ) : Option ρ :=
 cond (lk N (decide (v8 < v7)))
 (
  cond (lk N (inB v8 v6.length)) (
   cond (lk N (impl_FormatInt.P (v6.getD v8.toNat 0))) (
    cond (lk N (Nat.blt (v3.length + ([(impl_FormatInt.g (v6.getD v8.toNat 0))] : List ByteArray).length) 1099511627776)) (
     kn (v3 ++ ([(impl_FormatInt.g (v6.getD v8.toNat 0))] : List ByteArray)) v6 v7 (w64 (v8 + 1))) none) none) none)
 (
  k0 v3)
def Z8L {ρ : Type} (N : Nat) (k0 : List ByteArray → Option ρ) : Nat → List ByteArray → LI → Int → Int → Option ρ
  | 0, _, _, _, _ => none
  | M + 1, v3, v6, v7, v8 => Z9 N v3 v6 v7 v8 (fun v3 v6 v7 v8 => Z8L N k0 M v3 v6 v7 v8) k0
def Z8 N v6 v7 v8 k0 := (Z8L N k0 N ([] : List ByteArray) v6 v7 v8 : Option ρ)
def Z7 N v6 v7 v8 kn := (Z8 N v6 v7 v8 kn : Option ρ)
def Z5 N v0 kn := (Z6 N v0 (fun v6 v7 v8 => Z7 N v6 v7 v8 kn) : Option ρ)
def Z10 {ρ : Type} (N : Nat) (v3 : List ByteArray) (kr : ByteArray → Option ρ) : Option ρ :=
 cond (lk N (strings_Join.P v3 (⟨#[32]⟩ : ByteArray))) (
  kr (strings_Join.g v3 (⟨#[32]⟩ : ByteArray))) none
def Z4 N v0 kr := (Z5 N v0 (fun v3 => Z10 N v3 kr) : Option ρ)
def Z2 N v0 kr := (Z3 N v0 (fun v0 => Z4 N v0 kr) : Option ρ)
def Z0 N v0 kr := (Z1 N v0 (fun v0 => Z2 N v0 kr) : Option ρ)
def Spec : Prop := ∀  (v0 : LI), Ty.bd (.sl 0 (.int .i64)) v0 → P v0 = true → ∃ N0, ∀ N, N0 ≤ N → Z0 N v0 (fun v2 => some ((), (v2, ()))) = some ((), ((g v0), ()))
theorem loop {ρ : Type} {N : Nat} (k0 : List ByteArray → Option ρ) {l : List Int} (hp : rowP l = true) : ∀ (M j : Nat), j ≤ l.length → l.length - j < M → Z8L N k0 M ((l.take j).map itoaB) l (l.length : Int) (j : Int) = k0 (l.map itoaB) := by
  simp only [rowP, Bool.and_eq_true, decide_eq_true_eq] at hp
  intro M
  induction M with
  | zero => intro j _ h; omega
  | succ M ih =>
    intro j hj hM
    simp only [Z8L, Z9]
    by_cases h : j < l.length
    · have h1 : impl_FormatInt.P (l.getD j 0) = true := List.all_eq_true.1 hp.2 _ (getD_mem 0 h)
      have h2 : impl_FormatInt.g (l.getD j 0) = itoaB (l.getD j 0) := rfl
      have h3 : ∀ x : ByteArray, Nat.blt (((l.take j).map itoaB).length + ([x] : List ByteArray).length) 1099511627776 = true := fun x => Nat.ble_eq_true_of_le (by simp; omega)
      rw [ct (dt (by omega)), ct (inB_nat h), Int.toNat_natCast, ct h1, h2, ct (h3 _), w64_succ (by rw [maxLen_val]; omega)]
      have e : (l.take j).map itoaB ++ [itoaB (l.getD j 0)] = (l.take (j + 1)).map itoaB := by rw [← take_getD 0 h, List.map_append]; rfl
      rw [e]
      exact ih (j + 1) h (by omega)
    · rw [cf (df (by omega)), List.take_of_length_le (by omega)]
theorem ok : Spec := fun l hb hp => ⟨l.length + 1, fun N hN => by
  have hp' := hp
  simp only [P, rowP, Bool.and_eq_true, decide_eq_true_eq] at hp'
  simp only [Z1, Z3, Z6, Z9, Z8, Z7, Z5, Z10, Z4, Z2, Z0]
  refine (loop _ hp N 0 (Nat.zero_le _) (by omega)).trans ?_
  have e : ((l.map itoaB).map (·.data.toList)) = l.map Lib.itoa := by
    rw [List.map_map]
    exact List.map_congr_left fun n _ => itoaB_data n
  have hlen := itoas_len hp'.2
  have e2 : (⟨#[32]⟩ : ByteArray).data.toList = [32] := rfl
  have hP : strings_Join.P (l.map itoaB) ⟨#[32]⟩ = true := by
    simp only [strings_Join.P, e, e2, Bool.and_eq_true, List.length_map]
    exact ⟨Nat.ble_eq_true_of_le (by omega), Nat.ble_eq_true_of_le (show (itoasL l).length ≤ _ by omega)⟩
  have hg : strings_Join.g (l.map itoaB) ⟨#[32]⟩ = itoasB l := by
    simp only [strings_Join.g, e, e2]
    rfl
  rw [ct hP, hg]
  rfl⟩
end impl_FormatInts
end
end Go.Fw
namespace Go.Fw
noncomputable section
variable {ρ : Type}
namespace impl_ParseInts
def P (s : ByteArray) : Bool := decide (s.size ≤ 1048576)
noncomputable def g (s : ByteArray) : List Int × Bool := parseI s
end impl_ParseInts
namespace impl_ParseInts
def Z1 {ρ : Type} (N : Nat) (v0 : ByteArray) (kn : ByteArray → Option ρ) : Option ρ :=
 kn v0
def Z3 {ρ : Type} (N : Nat) (v0 : ByteArray) (kn : ByteArray → Option ρ) (kr : LI → Bool → Option ρ) : Option ρ :=
 cond (lk N (strEq v0 ByteArray.empty))
 (
  kr ([] : List Int) true)
 (
  kn v0)
def Z5 {ρ : Type} (N : Nat) (v0 : ByteArray) (kn : ByteArray → Option ρ) : Option ρ :=
 kn v0
def Z8 {ρ : Type} (N : Nat) (v0 : ByteArray) (kn : List ByteArray → ByteArray → I2 (Option ρ)) : Option ρ :=
 cond (lk N (strings_Split.P v0 (⟨#[32]⟩ : ByteArray))) (
  kn (strings_Split.g v0 (⟨#[32]⟩ : ByteArray)) v0 ((strings_Split.g v0 (⟨#[32]⟩ : ByteArray)).length : Int) 0) none
def Z11 {ρ : Type} (N : Nat) (v4 : LI) (v12 : List ByteArray) (v0 : ByteArray) (v13 v14 : Int) (kn : LI → List ByteArray → ByteArray → I2 (Option ρ)) (k0 : LI → ByteArray → Option ρ) (kr : LI → Bool → Option ρ) : Option ρ :=
 cond (lk N (decide (v14 < v13)))
 (
  cond (lk N (inB v14 v12.length)) (
   cond (lk N (strconv_Atoi.P (v12.getD v14.toNat ByteArray.empty))) (
    cond (lk N ((strconv_Atoi.g (v12.getD v14.toNat ByteArray.empty)).2))
    (
     kr ([] : List Int) false)
    (
     cond (lk N (decide (10 < ((v12.getD v14.toNat ByteArray.empty).size : Int))))
     (
      kr ([] : List Int) false)
     (
      cond (!(lk N ((impl_within.g (strconv_Atoi.g (v12.getD v14.toNat ByteArray.empty)).1 (-999999999) 999999999))))
      (
       kr ([] : List Int) false)
      (
       cond (lk N (Nat.blt (v4.length + ([(strconv_Atoi.g (v12.getD v14.toNat ByteArray.empty)).1] : List Int).length) 1099511627776)) (
        kn (v4 ++ ([(strconv_Atoi.g (v12.getD v14.toNat ByteArray.empty)).1] : List Int)) v12 v0 v13 (w64 (v14 + 1))) none)))) none) none)
 (
  k0 v4 v0)
def Z10L {ρ : Type} (N : Nat) (k0 : LI → ByteArray → Option ρ) (kr : LI → Bool → Option ρ) : Nat → LI → List ByteArray → ByteArray → Int → Int → Option ρ
  | 0, _, _, _, _, _ => none
  | M + 1, v4, v12, v0, v13, v14 => Z11 N v4 v12 v0 v13 v14 (fun v4 v12 v0 v13 v14 => Z10L N k0 kr M v4 v12 v0 v13 v14) k0 kr
def Z10 N v12 v0 v13 v14 k0 kr := (Z10L N k0 kr N ([] : List Int) v12 v0 v13 v14 : Option ρ)
def Z9 N v12 v0 v13 v14 kn kr := (Z10 N v12 v0 v13 v14 kn kr : Option ρ)
def Z7 N v0 kn kr := (Z8 N v0 (fun v12 v0 v13 v14 => Z9 N v12 v0 v13 v14 kn kr) : Option ρ)
def Z12 {ρ : Type} (N : Nat) (v4 : LI) (v0 : ByteArray) (kr : LI → Bool → Option ρ) : Option ρ :=
 cond (lk N (impl_FormatInts.P v4)) (
  cond (lk N (!(strEq (impl_FormatInts.g v4) v0)))
  (
   kr ([] : List Int) false)
  (
   kr v4 true)) none
def Z6 N v0 kr := (Z7 N v0 (fun v4 v0 => Z12 N v4 v0 kr) kr : Option ρ)
def Z4 N v0 kr := (Z5 N v0 (fun v0 => Z6 N v0 kr) : Option ρ)
def Z2 N v0 kr := (Z3 N v0 (fun v0 => Z4 N v0 kr) kr : Option ρ)
def Z0 N v0 kr := (Z1 N v0 (fun v0 => Z2 N v0 kr) : Option ρ)
def Spec : Prop := ∀  (v0 : ByteArray), P v0 = true → ∃ N0, ∀ N, N0 ≤ N → Z0 N v0 (fun v2 v3 => some ((), (v2, (v3, ())))) = some ((), ((g v0).1, ((g v0).2, ())))
theorem loop {ρ : Type} {N : Nat} (k0 : List Int → ByteArray → Option ρ) (kr : List Int → Bool → Option ρ) (s : ByteArray) {ps : List ByteArray} (hps : ps.length ≤ 2000000) (hsz : ∀ w ∈ ps, w.size ≤ 1048576) : ∀ (M i : Nat) (out : List Int), i ≤ ps.length → out.length + (ps.length - i) ≤ 2000000 → ps.length - i < M →
    Z10L N k0 kr M out ps s (ps.length : Int) (i : Int) = match allP partI (ps.drop i) with | some l => k0 (out ++ l) s | none => kr [] false := by
  intro M
  induction M with
  | zero => intro i out _ _ h; omega
  | succ M ih =>
    intro i out hi ho hM
    simp only [Z10L, Z11]
    by_cases h : i < ps.length
    · have hb : ∀ x : Int, Nat.blt (out.length + ([x] : List Int).length) 1099511627776 = true := fun x => Nat.ble_eq_true_of_le (by simp; omega)
      have hP : strconv_Atoi.P (ps.getD i ByteArray.empty) = true := dt (hsz _ (getD_mem (l := ps) _ h))
      have hg : strconv_Atoi.g (ps.getD i ByteArray.empty) = atoiW (ps.getD i ByteArray.empty) := rfl
      have hw : ∀ n : Int, impl_within.g n (-999999999) 999999999 = inK n (-999999999) 999999999 := fun n => rfl
      rw [ct (dt (by omega)), ct (inB_nat h), Int.toNat_natCast, ct hP, drop_getD (l := ps) ByteArray.empty h, allP, hg, lk_eq]
      rw [show partI (ps.getD i ByteArray.empty) = (if (atoiW (ps.getD i ByteArray.empty)).2 = true then none else if 10 < (ps.getD i ByteArray.empty).size then none else if inK (atoiW (ps.getD i ByteArray.empty)).1 (-999999999) 999999999 = true then some (atoiW (ps.getD i ByteArray.empty)).1 else none) from rfl]
      cases herr : (atoiW (ps.getD i ByteArray.empty)).2
      · rw [cond_false, if_neg (by simp)]
        by_cases h10 : 10 < (ps.getD i ByteArray.empty).size
        · rw [ct (dt (by omega)), if_pos h10]
        · rw [cf (df (by omega)), if_neg h10, hw, lk_eq]
          cases hin : inK (atoiW (ps.getD i ByteArray.empty)).1 (-999999999) 999999999
          · rw [if_neg (by simp)]
            rfl
          · rw [if_pos rfl, cf' (show (!true) = false from rfl), ct (hb _), w64_succ (by rw [maxLen_val]; omega), ih (i + 1) _ h (by simp; omega) (by omega)]
            cases allP partI (ps.drop (i + 1)) with
            | none => rfl
            | some l => simp
      · rw [cond_true, if_pos rfl]
    · rw [cf (df (by omega)), List.drop_of_length_le (by omega)]
      simp [allP]
theorem allP_len {f : ByteArray → Option Int} : ∀ {ws : List ByteArray} {l : List Int}, allP f ws = some l → l.length = ws.length ∧ ∀ n ∈ l, ∃ w ∈ ws, f w = some n
  | [], l, h => by
    injection h with h
    subst h
    exact ⟨rfl, fun n hn => by cases hn⟩
  | w :: ws, l, h => by
    rw [allP] at h
    cases hw : f w with
    | none => rw [hw] at h; cases h
    | some n =>
      rw [hw] at h
      cases hr : allP f ws with
      | none => rw [hr] at h; cases h
      | some m =>
        rw [hr] at h
        injection h with h
        subst h
        obtain ⟨a, b⟩ := allP_len hr
        refine ⟨by simp [a], fun x hx => ?_⟩
        rcases List.mem_cons.1 hx with rfl | hx
        · exact ⟨w, List.mem_cons_self .., hw⟩
        · obtain ⟨v, hv, e⟩ := b x hx
          exact ⟨v, List.mem_cons_of_mem _ hv, e⟩
theorem ok : Spec := fun s hp => ⟨s.size + 100, fun N hN => by
  have hs : s.size ≤ 1048576 := of_decide_eq_true hp
  have h1 : strings_Split.P s ⟨#[32]⟩ = true := by
    simp only [strings_Split.P, Bool.and_eq_true]
    exact ⟨Nat.ble_eq_true_of_le (by omega), rfl⟩
  have h2 : strings_Split.g s ⟨#[32]⟩ = prtB s := split_one s 32
  have hl := prt_len s
  simp only [Z0, Z1, Z2, Z3, lk_eq, g, parseI]
  cases he : strEq s ByteArray.empty
  · rw [cond_false, if_neg (by simp)]
    simp only [Z4, Z5, Z6, Z7, Z8]
    rw [ct h1, h2]
    simp only [Z9, Z10]
    refine (loop _ _ s (ps := prtB s) (by omega) (fun w hw => Nat.le_trans (prt_size s w hw) hs) N 0 [] (Nat.zero_le _) (by simp; omega) (by omega)).trans ?_
    rw [List.drop_zero]
    cases hq : allP partI (prtB s) with
    | none => rfl
    | some l =>
      obtain ⟨ha, hb⟩ := allP_len hq
      have hR : impl_FormatInts.P l = true := by
        show rowP l = true
        simp only [rowP, Bool.and_eq_true, decide_eq_true_eq, List.all_eq_true]
        refine ⟨by omega, fun n hn => ?_⟩
        obtain ⟨w, _, e⟩ := hb n hn
        exact partI_range e
      simp only [Z12, List.nil_append]
      rw [ct hR]
      have hgf : impl_FormatInts.g l = itoasB l := rfl
      rw [hgf, lk_eq]
      cases strEq (itoasB l) s <;> rfl
  · rfl⟩
end impl_ParseInts
end
end Go.Fw
namespace Go.Fw
noncomputable section
variable {ρ : Type}
namespace impl_expOk_1
def g (e : Int) : Bool := !(inK e (-20) 20)
end impl_expOk_1
namespace impl_expOk_1
def Z0 {ρ : Type} (N : Nat) (v0 : Int) (kr : Bool → Option ρ) : Option ρ :=
 kr (!(lk N ((impl_within.g v0 (-20) 20))))
def Spec : Prop := ∀  (v0 : Int), ∃ N0, ∀ N, N0 ≤ N → Z0 N v0 (fun v2 => some ((), (v2, ()))) = some ((), ((g v0), ()))
theorem ok : Spec := fun e => ⟨0, fun N hN => by simp only [Z0, lk_eq, g, impl_within.g]⟩
end impl_expOk_1
end
end Go.Fw
namespace Go.Fw
noncomputable section
variable {ρ : Type}
namespace slices_IndexFunc_int_int_expOk
def go (p : Int → Bool) : List Int → Nat → Int
  | [], _ => -1
  | x :: xs, j => if p x = true then (j : Int) else go p xs (j + 1)
def g (s : List Int) (_ : Unit) : Int := go impl_expOk_1.g s 0
end slices_IndexFunc_int_int_expOk
namespace slices_IndexFunc_int_int_expOk
def Z1 {ρ : Type} (N : Nat) (v0 : LI) (v1 : Unit) (kn : LI → Option ρ) : Option ρ :=
 kn v0
def Z4 {ρ : Type} (N : Nat) (v0 : LI) (kn : LI → I2 (Option ρ)) : Option ρ :=
 kn v0 (v0.length : Int) 0
def Z7 {ρ : Type} (N : Nat) (v0 : LI) (v7 v8 : Int) (kn : LI → I2 (Option ρ)) (k0 : Option ρ) (kr : Int → Option ρ) : Option ρ :=
 cond (lk N (decide (v8 < v7)))
 (
  cond (lk N (inB v8 v0.length)) (
   cond (lk N ((impl_expOk_1.g (v0.getD v8.toNat 0))))
   (
    kr v8)
   (
    kn v0 v7 (w64 (v8 + 1)))) none)
 (
  k0)
def Z6L {ρ : Type} (N : Nat) (k0 : Option ρ) (kr : Int → Option ρ) : Nat → LI → Int → Int → Option ρ
  | 0, _, _, _ => none
  | M + 1, v0, v7, v8 => Z7 N v0 v7 v8 (fun v0 v7 v8 => Z6L N k0 kr M v0 v7 v8) k0 kr
def Z6 N v0 v7 v8 k0 kr := (Z6L N k0 kr N v0 v7 v8 : Option ρ)
def Z5 N v0 v7 v8 kn kr := (Z6 N v0 v7 v8 kn kr : Option ρ)
def Z3 N v0 kn kr := (Z4 N v0 (fun v0 v7 v8 => Z5 N v0 v7 v8 kn kr) : Option ρ)
def Z8 {ρ : Type} (N : Nat)  (kr : Int → Option ρ) : Option ρ :=
 kr (-1)
def Z2 N v0 kr := (Z3 N v0 (Z8 N kr) kr : Option ρ)
def Z0 N v0 v1 kr := (Z1 N v0 v1 (fun v0 => Z2 N v0 kr) : Option ρ)
def Spec : Prop := ∀  (v0 : LI) (v1 : Unit), Ty.bd (.sl 0 (.int .i64)) v0 → ∃ N0, ∀ N, N0 ≤ N → Z0 N v0 v1 (fun v4 => some ((), (v4, ()))) = some ((), ((g v0 v1), ()))
theorem loop {ρ : Type} (N : Nat) (kr : Int → Option ρ) (a : List Int) (ha : a.length ≤ maxLen) : ∀ (M j : Nat), j ≤ a.length → a.length - j < M →
    Z6L N (kr (-1)) kr M a (a.length : Int) (j : Int) = kr (go impl_expOk_1.g (a.drop j) j) := by
  intro M
  induction M with
  | zero => intro j _ h; omega
  | succ M ih =>
    intro j hj hM
    simp only [Z6L, Z7]
    by_cases h : j < a.length
    · rw [ct (dt (by omega)), ct (inB_nat h), Int.toNat_natCast, w64_succ (by omega), ih (j + 1) h (by omega), drop_getD 0 h, go]
      cases e : impl_expOk_1.g (a.getD j 0)
      · rw [cf rfl, if_neg (by simp)]
      · rw [ct rfl, if_pos rfl]
    · rw [cf (df (by omega)), List.drop_of_length_le (by omega), go]
theorem ok : Spec := fun a _ ha => ⟨a.length + 1, fun N hN => by
  simp only [Z1, Z4, Z7, Z6, Z5, Z3, Z8, Z2, Z0]
  exact (loop N (fun t => some ((), (t, ()))) a ha.1 N 0 (by omega) (by omega)).trans rfl⟩
theorem go_pos (p : Int → Bool) : ∀ (l : List Int) (j : Nat), 0 ≤ go p l j ↔ ∃ x ∈ l, p x = true
  | [], j => by simp [go]
  | x :: xs, j => by
    rw [go]
    by_cases h : p x = true
    · rw [if_pos h]; simp [h]
    · rw [if_neg h, go_pos p xs]; simp [h]
end slices_IndexFunc_int_int_expOk
end
end Go.Fw
namespace Go.Fw
noncomputable section
variable {ρ : Type}
namespace slices_ContainsFunc_int_int_expOk
def g (s : List Int) (_ : Unit) : Bool := s.any impl_expOk_1.g
end slices_ContainsFunc_int_int_expOk
namespace slices_ContainsFunc_int_int_expOk
def Z0 {ρ : Type} (N : Nat) (v0 : LI) (v1 : Unit) (kr : Bool → Option ρ) : Option ρ :=
 kr (lk N (decide (0 ≤ (slices_IndexFunc_int_int_expOk.g v0 ()))))
def Spec : Prop := ∀  (v0 : LI) (v1 : Unit), Ty.bd (.sl 0 (.int .i64)) v0 → ∃ N0, ∀ N, N0 ≤ N → Z0 N v0 v1 (fun v4 => some ((), (v4, ()))) = some ((), ((g v0 v1), ()))
theorem ok : Spec := fun a _ ha => ⟨0, fun N hN => by
  simp only [Z0, lk_eq, g]
  have := (show 0 ≤ slices_IndexFunc_int_int_expOk.g a () ↔ ∃ x ∈ a, impl_expOk_1.g x = true from slices_IndexFunc_int_int_expOk.go_pos impl_expOk_1.g a 0)
  cases e : a.any impl_expOk_1.g
  · rw [df (fun h => by have := this.1 h; rw [← List.any_eq_true, e] at this; cases this)]
  · rw [dt (this.2 (List.any_eq_true.1 e))]⟩
end slices_ContainsFunc_int_int_expOk
end
end Go.Fw
namespace Go.Fw
noncomputable section
variable {ρ : Type}
namespace impl_expOk
def g (exp : List Int) (vars : Int) : Bool := expK vars exp
end impl_expOk
namespace impl_expOk
def Z0 {ρ : Type} (N : Nat) (v0 : LI) (v1 : Int) (kr : Bool → Option ρ) : Option ρ :=
 cond (lk N (decide ((v0.length : Int) = v1)))
 (
  kr (!(lk N ((slices_ContainsFunc_int_int_expOk.g v0 ())))))
 (
  kr false)
def Spec : Prop := ∀  (v0 : LI) (v1 : Int), Ty.bd (.sl 0 (.int .i64)) v0 → ∃ N0, ∀ N, N0 ≤ N → Z0 N v0 v1 (fun v4 => some ((), (v4, ()))) = some ((), ((g v0 v1), ()))
theorem ok : Spec := fun exp vars hb => ⟨0, fun N hN => by
  simp only [Z0, lk_eq, g, slices_ContainsFunc_int_int_expOk.g, expK]
  by_cases h : (exp.length : Int) = vars
  · simp only [dt h, cond_true, Bool.true_and, List.not_any_eq_all_not]
    simp [impl_expOk_1.g]
  · simp only [df h, cond_false, Bool.false_and]⟩
end impl_expOk
end
end Go.Fw
namespace Go.Fw
noncomputable section
variable {ρ : Type}
namespace impl_coefOk
def g (c : Int) : Bool := coefK c
end impl_coefOk
namespace impl_coefOk
def Z0 {ρ : Type} (N : Nat) (v0 : Int) (kr : Bool → Option ρ) : Option ρ :=
 cond (lk N (!(decide (v0 = 0))))
 (
  kr (lk N ((impl_within.g v0 (-1000000) 1000000))))
 (
  kr false)
def Spec : Prop := ∀  (v0 : Int), ∃ N0, ∀ N, N0 ≤ N → Z0 N v0 (fun v2 => some ((), (v2, ()))) = some ((), ((g v0), ()))
theorem ok : Spec := fun c => ⟨0, fun N hN => by
  simp only [Z0, lk_eq, g, impl_within.g, coefK]
  cases decide (c = 0) <;> rfl⟩
end impl_coefOk
end
end Go.Fw
namespace Go.Fw
noncomputable section
variable {ρ : Type}
namespace cmp_isNaN_int
def g (_ : Int) : Bool := false
end cmp_isNaN_int
namespace cmp_isNaN_int
def Z0 {ρ : Type} (N : Nat) (v0 : Int) (kr : Bool → Option ρ) : Option ρ :=
 kr (lk N (!(decide (v0 = v0))))
def Spec : Prop := ∀  (v0 : Int), ∃ N0, ∀ N, N0 ≤ N → Z0 N v0 (fun v2 => some ((), (v2, ()))) = some ((), ((g v0), ()))
theorem ok : Spec := fun x => ⟨0, fun N hN => by simp [Z0, lk_eq, g]⟩
end cmp_isNaN_int
end
end Go.Fw
namespace Go.Fw
noncomputable section
variable {ρ : Type}
namespace cmp_Compare_int
def g (x y : Int) : Int := if x = y then 0 else if x < y then -1 else 1
end cmp_Compare_int
namespace cmp_Compare_int
def Z0 {ρ : Type} (N : Nat) (v0 v1 : Int) (kr : Int → Option ρ) : Option ρ :=
 cond (lk N ((cmp_isNaN_int.g v0)))
 (
  cond (lk N ((cmp_isNaN_int.g v1)))
  (
   kr 0)
  (
   kr (-1)))
 (
  cond (lk N ((cmp_isNaN_int.g v1)))
  (
   kr 1)
  (
   cond (lk N (decide (v0 < v1)))
   (
    kr (-1))
   (
    cond (lk N (decide (v1 < v0)))
    (
     kr 1)
    (
     kr 0))))
def Spec : Prop := ∀  (v0 v1 : Int), ∃ N0, ∀ N, N0 ≤ N → Z0 N v0 v1 (fun v4 => some ((), (v4, ()))) = some ((), ((g v0 v1), ()))
theorem ok : Spec := fun x y => ⟨0, fun N hN => by
  simp only [Z0, lk_eq, g, cmp_isNaN_int.g, cond_false]
  by_cases h : x < y
  · rw [dt h, if_neg (by omega), if_pos h]; rfl
  · rw [df h]
    by_cases h2 : y < x
    · rw [dt h2, if_neg (by omega), if_neg h]; rfl
    · rw [df h2, if_pos (by omega)]; rfl⟩
end cmp_Compare_int
end
end Go.Fw
namespace Go.Fw
noncomputable section
variable {ρ : Type}
namespace slices_Compare_int_int
abbrev g (a b : List Int) : Int := lexCmp a b
end slices_Compare_int_int
namespace slices_Compare_int_int
def Z1 {ρ : Type} (N : Nat) (v0 v1 : LI) (kn : LI → LI → Option ρ) : Option ρ :=
 kn v0 v1
def Z4 {ρ : Type} (N : Nat) (v0 v1 : LI) (kn : LI → LI → LI → I2 (Option ρ)) : Option ρ :=
 kn v0 v1 v0 (v0.length : Int) 0
def Z7 {ρ : Type} (N : Nat) (v0 v1 v9 : LI) (v10 v11 : Int) (kn : LI → LI → LI → I2 (Option ρ)) (k0 : LI → LI → Option ρ) (kr : Int → Option ρ) : Option ρ :=
 cond (lk N (decide (v11 < v10)))
 (
  cond (lk N (inB v11 v9.length)) (
   cond (lk N (decide ((v1.length : Int) ≤ v11)))
   (
    kr 1)
   (
    cond (lk N (inB v11 v1.length)) (
     cond (lk N (!(decide ((cmp_Compare_int.g (v9.getD v11.toNat 0) (v1.getD v11.toNat 0)) = 0))))
     (
      kr (cmp_Compare_int.g (v9.getD v11.toNat 0) (v1.getD v11.toNat 0)))
     (
      kn v0 v1 v9 v10 (w64 (v11 + 1)))) none)) none)
 (
  k0 v0 v1)
def Z6L {ρ : Type} (N : Nat) (k0 : LI → LI → Option ρ) (kr : Int → Option ρ) : Nat → LI → LI → LI → Int → Int → Option ρ
  | 0, _, _, _, _, _ => none
  | M + 1, v0, v1, v9, v10, v11 => Z7 N v0 v1 v9 v10 v11 (fun v0 v1 v9 v10 v11 => Z6L N k0 kr M v0 v1 v9 v10 v11) k0 kr
def Z6 N v0 v1 v9 v10 v11 k0 kr := (Z6L N k0 kr N v0 v1 v9 v10 v11 : Option ρ)
def Z5 N v0 v1 v9 v10 v11 kn kr := (Z6 N v0 v1 v9 v10 v11 kn kr : Option ρ)
def Z3 N v0 v1 kn kr := (Z4 N v0 v1 (fun v0 v1 v9 v10 v11 => Z5 N v0 v1 v9 v10 v11 kn kr) : Option ρ)
def Z8 {ρ : Type} (N : Nat) (v0 v1 : LI) (kr : Int → Option ρ) : Option ρ :=
 cond (lk N (decide ((v0.length : Int) < (v1.length : Int))))
 (
  kr (-1))
 (
  kr 0)
def Z2 N v0 v1 kr := (Z3 N v0 v1 (fun v0 v1 => Z8 N v0 v1 kr) kr : Option ρ)
def Z0 N v0 v1 kr := (Z1 N v0 v1 (fun v0 v1 => Z2 N v0 v1 kr) : Option ρ)
def Spec : Prop := ∀  (v0 v1 : LI), Ty.bd (.sl 0 (.int .i64)) v0 → Ty.bd (.sl 0 (.int .i64)) v1 → ∃ N0, ∀ N, N0 ≤ N → Z0 N v0 v1 (fun v4 => some ((), (v4, ()))) = some ((), ((g v0 v1), ()))
theorem loop {ρ : Type} (N : Nat) (k0 : List Int → List Int → Option ρ) (kr : Int → Option ρ) (a b : List Int) (ha : a.length ≤ maxLen) (h0 : k0 a b = if a.length < b.length then kr (-1) else kr 0) : ∀ (M j : Nat), j ≤ a.length → j ≤ b.length → a.length - j < M →
    Z6L N k0 kr M a b a (a.length : Int) (j : Int) = kr (lexCmp (a.drop j) (b.drop j)) := by
  intro M
  induction M with
  | zero => intro j _ _ h; omega
  | succ M ih =>
    intro j hj hb hM
    simp only [Z6L, Z7]
    by_cases h : j < a.length
    · rw [ct (dt (by omega)), ct (inB_nat h), drop_getD 0 h]
      by_cases h2 : j < b.length
      · rw [cf (df (by omega)), ct (inB_nat h2), Int.toNat_natCast, w64_succ (by omega), drop_getD (l := b) 0 h2, lexCmp, ih (j + 1) h h2 (by omega)]
        by_cases e : a.getD j 0 = b.getD j 0
        · rw [cf (nf (by rw [cmp_Compare_int.g, if_pos e])), if_pos e]
        · rw [ct (nt (by simp only [cmp_Compare_int.g, if_neg e]; split <;> omega)), if_neg e]
          simp only [cmp_Compare_int.g, if_neg e]
      · rw [ct (dt (by omega)), List.drop_of_length_le (l := b) (by omega)]
        rfl
    · rw [cf (df (by omega)), List.drop_of_length_le (by omega), h0]
      by_cases h2 : j < b.length
      · rw [if_pos (by omega), drop_getD (l := b) 0 h2]; rfl
      · rw [if_neg (by omega), List.drop_of_length_le (l := b) (by omega)]; rfl
theorem ok : Spec := fun a b ha hb => ⟨a.length + 1, fun N hN => by
  simp only [Z1, Z4, Z7, Z6, Z5, Z3, Z8, Z2, Z0]
  refine (loop N _ (fun t => some ((), (t, ()))) a b ha.1 ?_ N 0 (by omega) (by omega) (by omega)).trans rfl
  by_cases h : a.length < b.length
  · rw [ct (dt (by omega)), if_pos h]
  · rw [cf (df (by omega)), if_neg h]⟩
end slices_Compare_int_int
end
end Go.Fw
namespace Go.Fw
noncomputable section
variable {ρ : Type}
namespace impl_LaurentOk
def g (f : Int × List (List Int × Int)) : Bool := lokK f
end impl_LaurentOk
namespace impl_LaurentOk
def Z1 {ρ : Type} (N : Nat) (v0 : Int × List (LI × Int)) (kn : Int → (List (LI × Int)) → Option ρ) : Option ρ :=
 kn v0.1 v0.2
def Z3 {ρ : Type} (N : Nat) (v1_0 : Int) (v1_1 : List (LI × Int)) (kn : Int → (List (LI × Int)) → Option ρ) (kr : Bool → Option ρ) : Option ρ :=
 cond (!(lk N ((impl_within.g v1_0 1 8))))
 (
  kr false)
 (
  cond (lk N (decide (600 < (v1_1.length : Int))))
  (
   kr false)
  (
   kn v1_0 v1_1))
def Z6 {ρ : Type} (N : Nat) (v1_0 : Int) (v1_1 : List (LI × Int)) (kn : (List (LI × Int)) → I3 ((List (LI × Int)) → Option ρ)) : Option ρ :=
 kn v1_1 (v1_1.length : Int) 0 v1_0 v1_1
def Z9 {ρ : Type} (N : Nat) (v16 : List (LI × Int)) (v17 v18 v1_0 : Int) (v1_1 : List (LI × Int)) (kn : (List (LI × Int)) → I3 ((List (LI × Int)) → Option ρ)) (k0 : Option ρ) (kr : Bool → Option ρ) : Option ρ :=
 cond (lk N (decide (v18 < v17)))
 (
  cond (lk N (inB v18 v16.length)) (
   cond (!(lk N ((impl_expOk.g (v16.getD v18.toNat ([], 0)).1 v1_0))))
   (
    kr false)
   (
    cond (!(lk N ((impl_coefOk.g (v16.getD v18.toNat ([], 0)).2))))
    (
     kr false)
    (
     cond (lk N (decide (0 < v18)))
     (
      cond (lk N (inB (w64 (v18 - 1)) v1_1.length)) (
       cond (lk N (decide ((slices_Compare_int_int.g (v1_1.getD (w64 (v18 - 1)).toNat ([], 0)).1 (v16.getD v18.toNat ([], 0)).1) ≤ 0)))
       (
        kr false)
       (
        kn v16 v17 (w64 (v18 + 1)) v1_0 v1_1)) none)
     (
      kn v16 v17 (w64 (v18 + 1)) v1_0 v1_1)))) none)
 (
  k0)
def Z8L {ρ : Type} (N : Nat) (k0 : Option ρ) (kr : Bool → Option ρ) : Nat → (List (LI × Int)) → Int → Int → Int → (List (LI × Int)) → Option ρ
  | 0, _, _, _, _, _ => none
  | M + 1, v16, v17, v18, v1_0, v1_1 => Z9 N v16 v17 v18 v1_0 v1_1 (fun v16 v17 v18 v1_0 v1_1 => Z8L N k0 kr M v16 v17 v18 v1_0 v1_1) k0 kr
def Z8 N v16 v17 v18 v1_0 v1_1 k0 kr := (Z8L N k0 kr N v16 v17 v18 v1_0 v1_1 : Option ρ)
def Z7 N v16 v17 v18 v1_0 v1_1 kn kr := (Z8 N v16 v17 v18 v1_0 v1_1 kn kr : Option ρ)
def Z5 N v1_0 v1_1 kn kr := (Z6 N v1_0 v1_1 (fun v16 v17 v18 v1_0 v1_1 => Z7 N v16 v17 v18 v1_0 v1_1 kn kr) : Option ρ)
def Z10 {ρ : Type} (N : Nat)  (kr : Bool → Option ρ) : Option ρ :=
 kr true
def Z4 N v1_0 v1_1 kr := (Z5 N v1_0 v1_1 (Z10 N kr) kr : Option ρ)
def Z2 N v1_0 v1_1 kr := (Z3 N v1_0 v1_1 (fun v1_0 v1_1 => Z4 N v1_0 v1_1 kr) kr : Option ρ)
def Z0 N v0 kr := (Z1 N v0 (fun v1_0 v1_1 => Z2 N v1_0 v1_1 kr) : Option ρ)
def Spec : Prop := ∀  (v0 : Int × List (LI × Int)), Ty.bd (.pair (.int .i64) (.sl 0 (.pair (.sl 0 (.int .i64)) (.int .i64)))) v0 → ∃ N0, ∀ N, N0 ≤ N → Z0 N v0 (fun v2 => some ((), (v2, ()))) = some ((), ((g v0), ()))
theorem loop {ρ : Type} (N : Nat) (kr : Bool → Option ρ) (v : Int) (l : List (List Int × Int)) (hl : l.length ≤ maxLen) : ∀ (M j : Nat), j ≤ l.length → l.length - j < M →
    Z8L N (kr true) kr M l (l.length : Int) (j : Int) v l = kr (termsK v (l.drop j) (prevE l j)) := by
  intro M
  induction M with
  | zero => intro j _ h; omega
  | succ M ih =>
    intro j hj hM
    simp only [Z8L, Z9]
    by_cases h : j < l.length
    · rw [ct (dt (by omega)), ct (inB_nat h), Int.toNat_natCast, w64_succ (by omega), drop_getD ([], 0) h, termsK, ih (j + 1) h (by omega)]
      simp only [lk_eq, impl_expOk.g, impl_coefOk.g]
      cases expK v (l.getD j ([], 0)).1
      · rfl
      cases coefK (l.getD j ([], 0)).2
      · rfl
      simp only [Bool.not_true, cond_false, Bool.true_and]
      cases j with
      | zero => rfl
      | succ j =>
        rw [dt (show (0 : Int) < ((j + 1 : Nat) : Int) by omega), show w64 (((j + 1 : Nat) : Int) - 1) = (j : Int) by rw [w64_id (by omega) (by rw [maxLen_val] at hl; omega)]; omega, inB_nat (by omega)]
        simp only [cond_true, Int.toNat_natCast, slices_Compare_int_int.g, lexCmp_le, prevE, belowK]
        cases lexLt (l.getD (j + 1) ([], 0)).1 (l.getD j ([], 0)).1 <;> rfl
    · rw [cf (df (by omega)), List.drop_of_length_le (by omega), termsK]
theorem ok : Spec := fun f hb => ⟨f.2.length + 1, fun N hN => by
  simp only [Z1, Z3, Z6, Z9, Z8, Z7, Z5, Z10, Z4, Z2, Z0, g, lokK, impl_within.g]
  cases h1 : inK f.1 1 8
  · simp [lk_eq]
  by_cases h2 : (600 : Int) < f.2.length
  · rw [cf' (by simp [lk_eq]), ct (dt h2), df (by omega)]
    simp
  · rw [cf' (by simp [lk_eq]), cf (df h2), dt (show f.2.length ≤ 600 by omega)]
    exact (loop N (fun t => some ((), (t, ()))) _ f.2 hb.2.1 N 0 (by omega) (by omega)).trans rfl⟩
end impl_LaurentOk
end
end Go.Fw
