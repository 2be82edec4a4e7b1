/- The plain part: what the functions compute, in lists and numbers. Nothing is assumed. -/
import Derived.Test.YtojjkghallginaaDoorFwc
import Derived.Lib.ItoaLen
set_option linter.unusedVariables false
namespace Go.Fw
def lexLt : List Int → List Int → Bool
  | [], [] => false
  | [], _ :: _ => true
  | _ :: _, [] => false
  | x :: xs, y :: ys => if x = y then lexLt xs ys else decide (x < y)
def lexCmp : List Int → List Int → Int
  | [], [] => 0
  | [], _ :: _ => -1
  | _ :: _, [] => 1
  | x :: xs, y :: ys => if x = y then lexCmp xs ys else if x < y then -1 else 1
theorem lexCmp_le : ∀ a b : List Int, decide (lexCmp a b ≤ 0) = !(lexLt b a)
  | [], [] => rfl
  | [], _ :: _ => rfl
  | _ :: _, [] => rfl
  | x :: xs, y :: ys => by
    rw [lexCmp, lexLt]
    by_cases h : x = y
    · rw [if_pos h, if_pos h.symm, lexCmp_le xs ys]
    · rw [if_neg h, if_neg (show ¬ y = x from fun e => h e.symm)]
      by_cases h2 : x < y
      · rw [if_pos h2, df (show ¬ y < x by omega)]; rfl
      · rw [if_neg h2, dt (show y < x by omega)]; rfl
theorem lexCmp_lt : ∀ a b : List Int, decide (lexCmp a b < 0) = lexLt a b
  | [], [] => rfl
  | [], _ :: _ => rfl
  | _ :: _, [] => rfl
  | x :: xs, y :: ys => by
    rw [lexCmp, lexLt]
    by_cases h : x = y
    · rw [if_pos h, if_pos h, lexCmp_lt xs ys]
    · rw [if_neg h, if_neg h]
      by_cases h2 : x < y
      · rw [if_pos h2, dt h2]; rfl
      · rw [if_neg h2, df h2]; rfl
def inK (n lo hi : Int) : Bool := decide (lo ≤ n) && decide (n ≤ hi)
def expK (vars : Int) (e : List Int) : Bool := decide ((e.length : Int) = vars) && e.all fun x => inK x (-20) 20
def coefK (c : Int) : Bool := !(decide (c = 0)) && inK c (-1000000) 1000000
def prevE (l : List (List Int × Int)) : Nat → Option (List Int)
  | 0 => none
  | j + 1 => some (l.getD j ([], 0)).1
def belowK : Option (List Int) → List Int → Bool
  | none, _ => true
  | some p, e => lexLt e p
def termsK (vars : Int) : List (List Int × Int) → Option (List Int) → Bool
  | [], _ => true
  | t :: ts, p => expK vars t.1 && (coefK t.2 && (belowK p t.1 && termsK vars ts (some t.1)))
def lokK (f : Int × List (List Int × Int)) : Bool := inK f.1 1 8 && (decide (f.2.length ≤ 600) && termsK f.1 f.2 none)
end Go.Fw
namespace Go.Fw
def upto {α : Type} (n j : Nat) (F G : Nat → α) : List α := (List.range n).map fun i => if i < j then F i else G i
section
variable {α : Type} {n j : Nat} {F G : Nat → α}
theorem upto_len : (upto n j F G).length = n := by simp [upto]
theorem map_getD {i : Nat} (h : i < n) (d : α) : ((List.range n).map F).getD i d = F i := by
  rw [List.getD_eq_getElem?_getD, List.getElem?_map, List.getElem?_range h]
  rfl
theorem upto_get {i : Nat} (h : i < n) (d : α) : (upto n j F G).getD i d = if i < j then F i else G i := map_getD h d
theorem upto_set (h : j < n) : (upto n j F G).set j (F j) = upto n (j + 1) F G := by
  apply List.ext_getElem?
  intro i
  by_cases hi : i < n
  · by_cases e : j = i
    · subst e
      rw [List.getElem?_set_self (by rw [upto_len]; exact h)]
      simp [upto, List.getElem?_map, List.getElem?_range h]
    · rw [List.getElem?_set_ne e]
      simp only [upto, List.getElem?_map, List.getElem?_range hi, Option.map_some]
      by_cases h1 : i < j
      · rw [if_pos h1, if_pos (by omega)]
      · rw [if_neg h1, if_neg (by omega)]
  · rw [List.getElem?_eq_none (by rw [List.length_set, upto_len]; omega), List.getElem?_eq_none (by rw [upto_len]; omega)]
theorem upto_zero : upto n 0 F G = (List.range n).map G := by simp [upto]
theorem upto_full : upto n n F G = (List.range n).map F := by
  unfold upto
  apply List.map_congr_left
  intro i hi
  rw [if_pos (List.mem_range.1 hi)]
theorem list_map {l : List α} (d : α) (h : l.length = n) : (List.range n).map (fun i => l.getD i d) = l := by
  apply List.ext_getElem?
  intro i
  by_cases hi : i < n
  · rw [List.getElem?_map, List.getElem?_range hi, Option.map_some, List.getD_eq_getElem?_getD, List.getElem?_eq_getElem (by omega), Option.getD_some]
  · rw [List.getElem?_eq_none (by simp; omega), List.getElem?_eq_none (by omega)]
end
end Go.Fw
namespace Go.Fw
noncomputable def itoaB (n : Int) : ByteArray := ⟨(Lib.itoa n).toArray⟩
noncomputable def lsd (u : Nat) : List Int := (Lib.decDigits u).reverse.map fun b => (b.toNat : Int)
theorem u8_dig {t : Nat} (h : t < 10) : ((UInt8.ofNat (48 + t)).toNat : Int) = 48 + (t : Int) := by
  rw [UInt8.toNat_ofNat']
  omega
theorem lsd_small {u : Nat} (h : u < 10) : lsd u = [48 + (u : Int)] := by
  rw [lsd, Lib.decDigits, dif_pos h]
  simp only [List.reverse_cons, List.reverse_nil, List.nil_append, List.map_cons, List.map_nil]
  rw [u8_dig h]
theorem lsd_big {u : Nat} (h : ¬ u < 10) : lsd u = (48 + ((u % 10 : Nat) : Int)) :: lsd (u / 10) := by
  rw [lsd, Lib.decDigits, dif_neg h, List.reverse_append]
  simp only [List.reverse_cons, List.reverse_nil, List.nil_append, List.singleton_append, List.map_cons]
  rw [u8_dig (Nat.mod_lt _ (by omega))]
  rfl
theorem nums_of_bytes (l : List UInt8) : strOfNums (l.map fun b => (b.toNat : Int)) = ⟨l.toArray⟩ := by
  unfold strOfNums
  rw [List.map_map]
  congr 2
  conv => rhs; rw [← List.map_id l]
  apply List.map_congr_left
  intro b _
  simp
theorem nums_lsd (u : Nat) : strOfNums (lsd u).reverse = ⟨(Lib.decDigits u).toArray⟩ := by
  rw [lsd, ← List.map_reverse, List.reverse_reverse, nums_of_bytes]
theorem nums_neg (u : Nat) : strOfNums (45 :: (lsd u).reverse) = ⟨(45 :: Lib.decDigits u).toArray⟩ := by
  rw [lsd, ← List.map_reverse, List.reverse_reverse]
  exact nums_of_bytes (45 :: Lib.decDigits u)
theorem tmod_nat (k : Int) : Int.tmod k 10 = if k < 0 then -((k.natAbs % 10 : Nat) : Int) else ((k.natAbs % 10 : Nat) : Int) := by
  split
  · rename_i h
    obtain ⟨u, rfl⟩ : ∃ u : Nat, k = -(u : Int) := ⟨k.natAbs, by omega⟩
    rw [Int.neg_tmod, Int.natAbs_neg, Int.natAbs_natCast]
    rfl
  · rename_i h
    obtain ⟨u, rfl⟩ : ∃ u : Nat, k = (u : Int) := ⟨k.toNat, by omega⟩
    rw [Int.natAbs_natCast]
    rfl
theorem tdiv_nat (k : Int) : Int.tdiv k 10 = if k < 0 then -((k.natAbs / 10 : Nat) : Int) else ((k.natAbs / 10 : Nat) : Int) := by
  split
  · rename_i h
    obtain ⟨u, rfl⟩ : ∃ u : Nat, k = -(u : Int) := ⟨k.natAbs, by omega⟩
    rw [Int.neg_tdiv, Int.natAbs_neg, Int.natAbs_natCast]
    rfl
  · rename_i h
    obtain ⟨u, rfl⟩ : ∃ u : Nat, k = (u : Int) := ⟨k.toNat, by omega⟩
    rw [Int.natAbs_natCast]
    rfl
theorem w8_id {n : Int} (h0 : 0 ≤ n) (h1 : n < 256) : w8 n = n := by
  unfold w8
  rw [IntKind.wrap_u8]
  omega
theorem dig_pos {k : Int} (h : ¬ Int.tmod k 10 < 0) : w8 (w64 (48 + Int.tmod k 10)) = 48 + ((k.natAbs % 10 : Nat) : Int) := by
  have hm : k.natAbs % 10 < 10 := Nat.mod_lt _ (by omega)
  have e : Int.tmod k 10 = ((k.natAbs % 10 : Nat) : Int) := by
    rw [tmod_nat] at h ⊢
    split
    · rename_i hk
      rw [if_pos hk] at h
      omega
    · rfl
  rw [e, w64_id (by omega) (by omega), w8_id (by omega) (by omega)]
theorem dig_neg {k : Int} (h : Int.tmod k 10 < 0) : w8 (w64 (48 + w64 (0 - Int.tmod k 10))) = 48 + ((k.natAbs % 10 : Nat) : Int) := by
  have hm : k.natAbs % 10 < 10 := Nat.mod_lt _ (by omega)
  have e : Int.tmod k 10 = -((k.natAbs % 10 : Nat) : Int) := by
    rw [tmod_nat] at h ⊢
    split
    · rfl
    · rename_i hk
      rw [if_neg hk] at h
      omega
  have e1 : w64 (0 - -((k.natAbs % 10 : Nat) : Int)) = ((k.natAbs % 10 : Nat) : Int) := by rw [w64_id (by omega) (by omega)]; omega
  rw [e, e1, w64_id (by omega) (by omega), w8_id (by omega) (by omega)]
theorem natAbs_tdiv (k : Int) : (Int.tdiv k 10).natAbs = k.natAbs / 10 := by
  rw [tdiv_nat]
  split <;> omega
end Go.Fw
set_option linter.unusedSimpArgs false
set_option maxRecDepth 100000
namespace Go.Fw
noncomputable section
variable {ρ : Type}
namespace spec_FormatInt
noncomputable def g (n : Int) : ByteArray := itoaB n
def P (n : Int) : Bool := i64P n
end spec_FormatInt
namespace spec_FormatInt
def Z1 {ρ : Type} (N : Nat) (v0 : Int) (kn : Int → Option ρ) : Option ρ :=
 kn v0
def Z3 {ρ : Type} (N : Nat) (v0 : Int) (kn : List Int → Int → Option ρ) : Option ρ :=
 kn ([] : List Int) v0
def Z5 {ρ : Type} (N : Nat) (v3 : List Int) (v0 : Int) (kn : List Int → I2 (Option ρ)) : Option ρ :=
 kn v3 v0 v0
def Z9 {ρ : Type} (N : Nat) (v3 : List Int) (v0 v4 : Int) (kn : List Int → I2 (Option ρ)) (k0 : List Int → Int → Option ρ) : Option ρ :=
 cond (lk N (!(decide (v4 = 0))))
 (
  cond (lk N (true)) (
   cond (lk N (decide ((Int.tmod v4 10) < 0)))
   (
    cond (lk N (Nat.blt (v3.length + ([(w8 ((w64 (48 + (w64 (0 - (Int.tmod v4 10)))))))] : List Int).length) 1099511627776)) (
     cond (lk N (true)) (
      kn (v3 ++ ([(w8 ((w64 (48 + (w64 (0 - (Int.tmod v4 10)))))))] : List Int)) v0 (w64 (Int.tdiv v4 10))) none) none)
   (
    cond (lk N (Nat.blt (v3.length + ([(w8 ((w64 (48 + (Int.tmod v4 10)))))] : List Int).length) 1099511627776)) (
     cond (lk N (true)) (
      kn (v3 ++ ([(w8 ((w64 (48 + (Int.tmod v4 10)))))] : List Int)) v0 (w64 (Int.tdiv v4 10))) none) none)) none)
 (
  cond (lk N (decide ((v3.length : Int) = 0)))
  (
   cond (lk N (true)) (
    cond (lk N (decide ((Int.tmod v4 10) < 0)))
    (
     cond (lk N (Nat.blt (v3.length + ([(w8 ((w64 (48 + (w64 (0 - (Int.tmod v4 10)))))))] : List Int).length) 1099511627776)) (
      cond (lk N (true)) (
       kn (v3 ++ ([(w8 ((w64 (48 + (w64 (0 - (Int.tmod v4 10)))))))] : List Int)) v0 (w64 (Int.tdiv v4 10))) none) none)
    (
     cond (lk N (Nat.blt (v3.length + ([(w8 ((w64 (48 + (Int.tmod v4 10)))))] : List Int).length) 1099511627776)) (
      cond (lk N (true)) (
       kn (v3 ++ ([(w8 ((w64 (48 + (Int.tmod v4 10)))))] : List Int)) v0 (w64 (Int.tdiv v4 10))) none) none)) none)
  (
   k0 v3 v0))
def Z8L {ρ : Type} (N : Nat) (k0 : List Int → Int → Option ρ) : Nat → List Int → Int → Int → Option ρ
  | 0, _, _, _ => none
  | M + 1, v3, v0, v4 => Z9 N v3 v0 v4 (fun v3 v0 v4 => Z8L N k0 M v3 v0 v4) k0
def Z8 N v3 v0 v4 k0 := (Z8L N k0 N v3 v0 v4 : Option ρ)
def Z7 N v3 v0 v4 kn := (Z8 N v3 v0 v4 kn : Option ρ)
def Z11 {ρ : Type} (N : Nat) (v3 : List Int) (v0 : Int) (kn : List Int → List Int → Int → Option ρ) : Option ρ :=
 kn v3 ([] : List Int) v0
def Z13 {ρ : Type} (N : Nat) (v3 v6 : List Int) (v0 : Int) (kn : List Int → List Int → Option ρ) : Option ρ :=
 cond (lk N (decide (v0 < 0)))
 (
  cond (lk N (Nat.blt (v6.length + ([45] : List Int).length) 1099511627776)) (
   kn v3 (v6 ++ ([45] : List Int))) none)
 (
  kn v3 v6)
def Z16 {ρ : Type} (N : Nat) (v3 v6 : List Int) (kn : List Int → List Int → Int → Option ρ) : Option ρ :=
 kn v3 v6 (w64 ((v3.length : Int) - 1))
def Z19 {ρ : Type} (N : Nat) (v3 v6 : List Int) (v7 : Int) (kn : List Int → List Int → Int → Option ρ) (k2 : List Int → Option ρ) : Option ρ :=
 cond (lk N (decide (0 ≤ v7)))
 (
  cond (lk N (inB v7 v3.length)) (
   cond (lk N (Nat.blt (v6.length + ([(v3.getD v7.toNat 0)] : List Int).length) 1099511627776)) (
    kn v3 (v6 ++ ([(v3.getD v7.toNat 0)] : List Int)) (w64 (v7 - 1))) none) none)
 (
  k2 v6)
def Z18L {ρ : Type} (N : Nat) (k2 : List Int → Option ρ) : Nat → List Int → List Int → Int → Option ρ
  | 0, _, _, _ => none
  | M + 1, v3, v6, v7 => Z19 N v3 v6 v7 (fun v3 v6 v7 => Z18L N k2 M v3 v6 v7) k2
def Z18 N v3 v6 v7 k2 := (Z18L N k2 N v3 v6 v7 : Option ρ)
def Z17 N v3 v6 v7 kn := (Z18 N v3 v6 v7 kn : Option ρ)
def Z15 N v3 v6 kn := (Z16 N v3 v6 (fun v3 v6 v7 => Z17 N v3 v6 v7 kn) : Option ρ)
def Z20 {ρ : Type} (N : Nat) (v6 : List Int) (kr : ByteArray → Option ρ) : Option ρ :=
 kr (strOfNums v6)
def Z14 N v3 v6 kr := (Z15 N v3 v6 (fun v6 => Z20 N v6 kr) : Option ρ)
def Z12 N v3 v6 v0 kr := (Z13 N v3 v6 v0 (fun v3 v6 => Z14 N v3 v6 kr) : Option ρ)
def Z10 N v3 v0 kr := (Z11 N v3 v0 (fun v3 v6 v0 => Z12 N v3 v6 v0 kr) : Option ρ)
def Z6 N v3 v0 v4 kr := (Z7 N v3 v0 v4 (fun v3 v0 => Z10 N v3 v0 kr) : Option ρ)
def Z4 N v3 v0 kr := (Z5 N v3 v0 (fun v3 v0 v4 => Z6 N v3 v0 v4 kr) : Option ρ)
def Z2 N v0 kr := (Z3 N v0 (fun v3 v0 => Z4 N v3 v0 kr) : Option ρ)
def Z0 N v0 kr := (Z1 N v0 (fun v0 => Z2 N v0 kr) : Option ρ)
def Spec : Prop := ∀  (v0 : Int), P v0 = true → ∃ N0, ∀ N, N0 ≤ N → Z0 N v0 (fun v2 => some ((), (v2, ()))) = some ((), ((g v0), ()))
theorem done {ρ : Type} {N M : Nat} (k0 : List Int → Int → Option ρ) {ds : List Int} (hd : ds ≠ []) (n : Int) : Z8L N k0 (M + 1) ds n 0 = k0 ds n := by
  have hl : ds.length ≠ 0 := fun h => hd (List.length_eq_zero_iff.1 h)
  simp only [Z8L, Z9]
  rw [cf (show (!decide True) = false from rfl), cf (df (by omega))]
theorem loop {ρ : Type} {N : Nat} (k0 : List Int → Int → Option ρ) (n : Int) : ∀ (c M : Nat) (ds : List Int) (k : Int), k.natAbs < 10 ^ c → k.natAbs < 9223372036854775809 → 1 ≤ c → c < M → ds.length + c ≤ 100 → (k ≠ 0 ∨ ds = []) →
    Z8L N k0 M ds n k = k0 (ds ++ lsd k.natAbs) n := by
  intro c
  induction c with
  | zero => intro M ds k _ _ h; omega
  | succ c ih =>
    intro M ds k hk hk2 _ hM hd hor
    obtain ⟨M, rfl⟩ : ∃ m, M = m + 1 := ⟨M - 1, by omega⟩
    have hq : w64 (Int.tdiv k 10) = Int.tdiv k 10 := by
      have := natAbs_tdiv k
      exact w64_id (by omega) (by omega)
    have hstep : Z8L N k0 (M + 1) ds n k = Z8L N k0 M (ds ++ [48 + ((k.natAbs % 10 : Nat) : Int)]) n (Int.tdiv k 10) := by
      have hb : ∀ x : Int, Nat.blt (ds.length + ([x] : List Int).length) 1099511627776 = true := fun x => Nat.ble_eq_true_of_le (by simp; omega)
      simp only [Z8L, Z9, hq, hb, lk_eq, cond_true]
      by_cases hk0 : k = 0
      · subst hk0
        have hds : ds = [] := hor.resolve_left (by simp)
        subst hds
        rfl
      · rw [nt hk0, cond_true]
        by_cases hneg : Int.tmod k 10 < 0
        · rw [dt hneg, cond_true, dig_neg hneg]
        · rw [df hneg, cond_false, dig_pos hneg]
    rw [hstep]
    by_cases hsm : k.natAbs < 10
    · have e0 : Int.tdiv k 10 = 0 := by
        have := natAbs_tdiv k
        omega
      obtain ⟨M, rfl⟩ : ∃ m, M = m + 1 := ⟨M - 1, by omega⟩
      rw [e0, done k0 (by simp) n, lsd_small hsm, Nat.mod_eq_of_lt hsm]
    · have hc : 1 ≤ c := by
        rcases Nat.eq_zero_or_pos c with h | h
        · subst h
          omega
        · exact h
      have hd2 := natAbs_tdiv k
      rw [ih M _ (Int.tdiv k 10) (by rw [hd2, Nat.div_lt_iff_lt_mul (by omega), ← Nat.pow_succ]; exact hk) (by omega) hc (by omega) (by simp; omega) (.inl (by omega)), hd2, lsd_big hsm, List.append_assoc]
      rfl
theorem back {ρ : Type} {N : Nat} (k2 : List Int → Option ρ) {ds : List Int} (hd : ds.length ≤ 100) : ∀ (j M : Nat) (out : List Int), j ≤ ds.length → j < M → out.length + j ≤ 1000 → Z18L N k2 M ds out ((j : Int) - 1) = k2 (out ++ (ds.take j).reverse) := by
  intro j
  induction j with
  | zero =>
    intro M out _ hM _
    obtain ⟨M, rfl⟩ : ∃ m, M = m + 1 := ⟨M - 1, by omega⟩
    simp only [Z18L, Z19]
    rw [cf (df (by omega)), List.take_zero, List.reverse_nil, List.append_nil]
  | succ j ih =>
    intro M out hj hM ho
    obtain ⟨M, rfl⟩ : ∃ m, M = m + 1 := ⟨M - 1, by omega⟩
    have e : ((j + 1 : Nat) : Int) - 1 = (j : Int) := by omega
    have hb : ∀ x : Int, Nat.blt (out.length + ([x] : List Int).length) 1099511627776 = true := fun x => Nat.ble_eq_true_of_le (by simp; omega)
    simp only [Z18L, Z19, e]
    rw [ct (dt (by omega)), ct (inB_nat hj), ct (hb _), Int.toNat_natCast, w64_id (by omega) (by omega), ih M _ (by omega) (by omega) (by simp; omega), ← take_getD 0 hj, List.reverse_append, List.append_assoc]
    rfl
theorem lsd_len {u : Nat} : ∀ (c : Nat), u < 10 ^ c → 1 ≤ c → (lsd u).length ≤ c := by
  intro c
  induction c generalizing u with
  | zero => intro _ h; omega
  | succ c ih =>
    intro h _
    by_cases hs : u < 10
    · rw [lsd_small hs]
      simp
    · rw [lsd_big hs, List.length_cons]
      have hc : 1 ≤ c := by
        rcases Nat.eq_zero_or_pos c with h' | h'
        · subst h'
          omega
        · exact h'
      have := ih (u := u / 10) (by rw [Nat.div_lt_iff_lt_mul (by omega), ← Nat.pow_succ]; exact h) hc
      omega
theorem ok : Spec := fun n hp => ⟨200, fun N hN => by
  simp only [P, i64P, Bool.and_eq_true, decide_eq_true_eq] at hp
  have h19 : n.natAbs < 10 ^ 19 := by
    have : (10 : Nat) ^ 19 = 10000000000000000000 := by decide
    omega
  have hlen := lsd_len 19 h19 (by omega)
  simp only [Z0, Z1, Z2, Z3, Z4, Z5, Z6, Z7, Z8]
  refine (loop _ n 19 N [] n h19 (by omega) (by omega) (by omega) (by simp) (.inr rfl)).trans ?_
  rw [List.nil_append]
  have hl0 : lsd n.natAbs = (lsd n.natAbs).take (lsd n.natAbs).length := by rw [List.take_length]
  have fin : ∀ out : List Int, out.length ≤ 10 → Z18L N (fun out6 => some ((), (strOfNums out6, ()))) N (lsd n.natAbs) out (((lsd n.natAbs).length : Int) - 1) = some ((), (strOfNums (out ++ (lsd n.natAbs).reverse), ())) := fun out ho => by
    rw [back _ (by omega) _ N out (Nat.le_refl _) (by omega) (by omega), List.take_length]
  simp only [Z10, Z11, Z12, Z13]
  by_cases hneg : n < 0
  · rw [ct (dt hneg), ct (show Nat.blt (([] : List Int).length + ([45] : List Int).length) 1099511627776 = true from rfl)]
    simp only [Z14, Z15, Z16, Z17, Z18, Z20]
    rw [w64_id (by omega) (by omega), fin _ (by simp), g, itoaB, Lib.itoa, if_pos hneg]
    have := nums_neg n.natAbs
    simp only [List.nil_append, List.singleton_append]
    rw [this]
  · rw [cf (df hneg)]
    simp only [Z14, Z15, Z16, Z17, Z18, Z20]
    rw [w64_id (by omega) (by omega), fin _ (by simp), g, itoaB, Lib.itoa, if_neg hneg, List.nil_append, nums_lsd, show n.natAbs = n.toNat by omega]⟩
end spec_FormatInt
end
end Go.Fw
namespace Go.Fw
noncomputable section
variable {ρ : Type}
namespace strconv_Itoa
noncomputable def g (n : Int) : ByteArray := itoaB n
def P (n : Int) : Bool := i64P n
end strconv_Itoa
namespace strconv_Itoa
theorem ok : True := trivial
end strconv_Itoa
end
end Go.Fw
namespace Go.Fw
noncomputable section
variable {ρ : Type}
namespace impl_FormatInt
noncomputable def g (n : Int) : ByteArray := itoaB n
def P (n : Int) : Bool := i64P n
end impl_FormatInt
namespace impl_FormatInt
def Z0 {ρ : Type} (N : Nat) (v0 : Int) (kr : ByteArray → Option ρ) : Option ρ :=
 cond (lk N (strconv_Itoa.P v0)) (
  kr (strconv_Itoa.g v0)) none
def Spec : Prop := ∀  (v0 : Int), P v0 = true → ∃ N0, ∀ N, N0 ≤ N → Z0 N v0 (fun v2 => some ((), (v2, ()))) = some ((), ((g v0), ()))
theorem ok : Spec := fun n hp => ⟨0, fun N hN => by
  simp only [Z0]
  rw [ct (show strconv_Itoa.P n = true from hp)]
  rfl⟩
end impl_FormatInt
end
end Go.Fw
namespace Go.Fw
noncomputable section
variable {ρ : Type}
namespace laws_FnExactFormatInt
def g (_ : Int) : Bool := true
def P (n : Int) : Bool := i64P n
end laws_FnExactFormatInt
namespace laws_FnExactFormatInt
def Z0 {ρ : Type} (N : Nat) (v0 : Int) (kr : Bool → Option ρ) : Option ρ :=
 cond (lk N (spec_FormatInt.P v0)) (
  cond (lk N (impl_FormatInt.P v0)) (
   cond (lk N (!(strEq (impl_FormatInt.g v0) (spec_FormatInt.g v0))))
   (
    kr false)
   (
    kr true)) none) none
def Spec : Prop := ∀  (v0 : Int), P v0 = true → ∃ N0, ∀ N, N0 ≤ N → Z0 N v0 (fun v2 => some ((), (v2, ()))) = some ((), ((g v0), ()))
theorem ok : Spec := fun n hp => ⟨0, fun N hN => by
  have h1 : spec_FormatInt.P n = true := hp
  have h2 : impl_FormatInt.P n = true := hp
  have h3 : strEq (impl_FormatInt.g n) (spec_FormatInt.g n) = true := by
    show strEq (itoaB n) (itoaB n) = true
    simp [strEq]
  simp only [Z0, lk_eq, h1, h2, h3, g]
  rfl⟩
theorem preok (n : Int) (h : (Lit.int .i64 n).wf = true) : P n = true := by
  have : -9223372036854775808 ≤ n ∧ n ≤ 9223372036854775807 := by simpa [Lit.wf, IntKind.min, IntKind.max, IntKind.signed, IntKind.bits] using h
  simp only [P, i64P, Bool.and_eq_true, decide_eq_true_eq]
  exact this
end laws_FnExactFormatInt
end
end Go.Fw
