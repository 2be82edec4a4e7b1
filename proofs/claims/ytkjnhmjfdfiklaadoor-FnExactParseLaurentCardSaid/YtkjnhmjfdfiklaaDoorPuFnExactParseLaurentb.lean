/- The plain part: what the functions compute, in lists and numbers. Nothing is assumed. -/
import Derived.Test.YtkjnhmjfdfiklaaDoorFwc
import Derived.Test.YtkjnhmjfdfiklaaDoorPuFnExactParseLaurenta
set_option linter.unusedVariables false
set_option linter.unusedSimpArgs false
set_option maxRecDepth 100000
namespace Go.Fw
noncomputable section
variable {ρ : Type}
namespace impl_FormatLaurent
noncomputable def g (f : Int × List (List Int × Int)) : ByteArray := if lokK f = true then fmtL f else ByteArray.empty
end impl_FormatLaurent
namespace impl_FormatLaurent
def Z1 {ρ : Type} (N : Nat) (v0 : Int × List (LI × Int)) (kn : Int → (List (LI × Int)) → Option ρ) : Option ρ :=
 kn v0.1 v0.2
def Z3 {ρ : Type} (N : Nat) (v1_0 : Int) (v1_1 : List (LI × Int)) (kn : Int → (List (LI × Int)) → Option ρ) (kr : ByteArray → Option ρ) : Option ρ :=
 cond (!(lk N ((impl_LaurentOk.g (v1_0, v1_1)))))
 (
  kr ByteArray.empty)
 (
  kn v1_0 v1_1)
def Z5 {ρ : Type} (N : Nat) (v1_0 : Int) (v1_1 : List (LI × Int)) (kn : Int → (List (LI × Int)) → Option ρ) : Option ρ :=
 kn v1_0 v1_1
def Z8 {ρ : Type} (N : Nat) (v1_0 : Int) (v1_1 : List (LI × Int)) (kn : (List (LI × Int)) → I3 ((List (LI × Int)) → Option ρ)) : Option ρ :=
 kn v1_1 (v1_1.length : Int) 0 v1_0 v1_1
def Z11 {ρ : Type} (N : Nat) (v3 : List ByteArray) (v10 : List (LI × Int)) (v11 v12 v1_0 : Int) (v1_1 : List (LI × Int)) (kn : List ByteArray → (List (LI × Int)) → I3 ((List (LI × Int)) → Option ρ)) (k0 : List ByteArray → Int → (List (LI × Int)) → Option ρ) : Option ρ :=
 cond (lk N (decide (v12 < v11)))
 (
  cond (lk N (inB v12 v10.length)) (
   cond (lk N (impl_FormatInt.P (v10.getD v12.toNat ([], 0)).2)) (
    cond (Nat.blt ((impl_FormatInt.g (v10.getD v12.toNat ([], 0)).2).size + (⟨#[58]⟩ : ByteArray).size) 4611686018427387904) (
     cond (lk N (impl_FormatInts.P (v10.getD v12.toNat ([], 0)).1)) (
      cond (Nat.blt (((impl_FormatInt.g (v10.getD v12.toNat ([], 0)).2) ++ (⟨#[58]⟩ : ByteArray)).size + (impl_FormatInts.g (v10.getD v12.toNat ([], 0)).1).size) 4611686018427387904) (
       cond (lk N (Nat.blt (v3.length + ([(((impl_FormatInt.g (v10.getD v12.toNat ([], 0)).2) ++ (⟨#[58]⟩ : ByteArray)) ++ (impl_FormatInts.g (v10.getD v12.toNat ([], 0)).1))] : List ByteArray).length) 1099511627776)) (
        kn (v3 ++ ([(((impl_FormatInt.g (v10.getD v12.toNat ([], 0)).2) ++ (⟨#[58]⟩ : ByteArray)) ++ (impl_FormatInts.g (v10.getD v12.toNat ([], 0)).1))] : List ByteArray)) v10 v11 (w64 (v12 + 1)) v1_0 v1_1) none) none) none) none) none) none)
 (
  k0 v3 v1_0 v1_1)
def Z10L {ρ : Type} (N : Nat) (k0 : List ByteArray → Int → (List (LI × Int)) → Option ρ) : Nat → List ByteArray → (List (LI × Int)) → Int → Int → Int → (List (LI × Int)) → Option ρ
  | 0, _, _, _, _, _, _ => none
  | M + 1, v3, v10, v11, v12, v1_0, v1_1 => Z11 N v3 v10 v11 v12 v1_0 v1_1 (fun v3 v10 v11 v12 v1_0 v1_1 => Z10L N k0 M v3 v10 v11 v12 v1_0 v1_1) k0
def Z10 N v10 v11 v12 v1_0 v1_1 k0 := (Z10L N k0 N ([] : List ByteArray) v10 v11 v12 v1_0 v1_1 : Option ρ)
def Z9 N v10 v11 v12 v1_0 v1_1 kn := (Z10 N v10 v11 v12 v1_0 v1_1 kn : Option ρ)
def Z7 N v1_0 v1_1 kn := (Z8 N v1_0 v1_1 (fun v10 v11 v12 v1_0 v1_1 => Z9 N v10 v11 v12 v1_0 v1_1 kn) : Option ρ)
def Z12 {ρ : Type} (N : Nat) (v3 : List ByteArray) (v1_0 : Int) (v1_1 : List (LI × Int)) (kr : ByteArray → Option ρ) : Option ρ :=
 cond (lk N (decide ((v3.length : Int) = 0)))
 (
  cond (lk N (impl_FormatInt.P v1_0)) (
   cond (Nat.blt ((impl_FormatInt.g v1_0).size + (⟨#[124]⟩ : ByteArray).size) 4611686018427387904) (
    cond (lk N (strings_Join.P ([(⟨#[48]⟩ : ByteArray)] : List ByteArray) (⟨#[44, 32]⟩ : ByteArray))) (
     cond (Nat.blt (((impl_FormatInt.g v1_0) ++ (⟨#[124]⟩ : ByteArray)).size + (strings_Join.g ([(⟨#[48]⟩ : ByteArray)] : List ByteArray) (⟨#[44, 32]⟩ : ByteArray)).size) 4611686018427387904) (
      kr (((impl_FormatInt.g v1_0) ++ (⟨#[124]⟩ : ByteArray)) ++ (strings_Join.g ([(⟨#[48]⟩ : ByteArray)] : List ByteArray) (⟨#[44, 32]⟩ : ByteArray)))) none) none) none) none)
 (
  cond (lk N (impl_FormatInt.P v1_0)) (
   cond (Nat.blt ((impl_FormatInt.g v1_0).size + (⟨#[124]⟩ : ByteArray).size) 4611686018427387904) (
    cond (lk N (strings_Join.P v3 (⟨#[44, 32]⟩ : ByteArray))) (
     cond (Nat.blt (((impl_FormatInt.g v1_0) ++ (⟨#[124]⟩ : ByteArray)).size + (strings_Join.g v3 (⟨#[44, 32]⟩ : ByteArray)).size) 4611686018427387904) (
      kr (((impl_FormatInt.g v1_0) ++ (⟨#[124]⟩ : ByteArray)) ++ (strings_Join.g v3 (⟨#[44, 32]⟩ : ByteArray)))) none) none) none) none)
def Z6 N v1_0 v1_1 kr := (Z7 N v1_0 v1_1 (fun v3 v1_0 v1_1 => Z12 N v3 v1_0 v1_1 kr) : Option ρ)
def Z4 N v1_0 v1_1 kr := (Z5 N v1_0 v1_1 (fun v1_0 v1_1 => Z6 N v1_0 v1_1 kr) : Option ρ)
def Z2 N v1_0 v1_1 kr := (Z3 N v1_0 v1_1 (fun v1_0 v1_1 => Z4 N v1_0 v1_1 kr) kr : Option ρ)
def Z0 N v0 kr := (Z1 N v0 (fun v1_0 v1_1 => Z2 N v1_0 v1_1 kr) : Option ρ)
def Spec : Prop := ∀  (v0 : Int × List (LI × Int)), Ty.bd (.pair (.int .i64) (.sl 0 (.pair (.sl 0 (.int .i64)) (.int .i64)))) v0 → ∃ N0, ∀ N, N0 ≤ N → Z0 N v0 (fun v2 => some ((), (v2, ()))) = some ((), ((g v0), ()))
theorem blt_txt {a b : ByteArray} (h : a.size + b.size < 4611686018427387904) : Nat.blt (a.size + b.size) 4611686018427387904 = true := Nat.ble_eq_true_of_le h
theorem loop {ρ : Type} {N : Nat} {f : Int × List (List Int × Int)} (hf : LFacts f) (k0 : List ByteArray → Int → List (List Int × Int) → Option ρ) : ∀ (M j : Nat), j ≤ f.2.length → f.2.length - j < M →
    Z10L N k0 M ((f.2.take j).map fun t => txt (termT t)) f.2 (f.2.length : Int) (j : Int) f.1 f.2 = k0 (f.2.map fun t => txt (termT t)) f.1 f.2 := by
  have hn := hf.n
  intro M
  induction M with
  | zero => intro j _ h; omega
  | succ M ih =>
    intro j hj hM
    simp only [Z10L, Z11]
    by_cases h : j < f.2.length
    · have hm := getD_mem (l := f.2) (j := j) ([], 0) h
      have h1 : impl_FormatInt.P (f.2.getD j ([], 0)).2 = true := hf.c _ hm
      have h1g : impl_FormatInt.g (f.2.getD j ([], 0)).2 = txt (Lib.itoa (f.2.getD j ([], 0)).2) := rfl
      have h2 : impl_FormatInts.P (f.2.getD j ([], 0)).1 = true := hf.e _ hm
      have h2g : impl_FormatInts.g (f.2.getD j ([], 0)).1 = txt (itoasL (f.2.getD j ([], 0)).1) := rfl
      have hl := hf.l _ hm
      have ht : termT (f.2.getD j ([], 0)) = Lib.itoa (f.2.getD j ([], 0)).2 ++ [58] ++ itoasL (f.2.getD j ([], 0)).1 := rfl
      have hl' := hl
      rw [ht] at hl'
      simp only [List.length_append, List.length_cons, List.length_nil] at hl'
      have e2 : (⟨#[58]⟩ : ByteArray) = txt [58] := rfl
      have hb : ∀ x : ByteArray, Nat.blt (((f.2.take j).map fun t => txt (termT t)).length + ([x] : List ByteArray).length) 1099511627776 = true := fun x => Nat.ble_eq_true_of_le (by simp; omega)
      rw [ct (dt (by omega)), Int.toNat_natCast, h1g, h2g, e2]
      simp only [txt_app]
      rw [ct (inB_nat h), ct h1, ct' (blt_txt (by rw [txt_size, txt_size]; simp only [List.length_append, List.length_cons, List.length_nil]; omega)), ct h2,
        ct' (blt_txt (by rw [txt_size, txt_size]; simp only [List.length_append, List.length_cons, List.length_nil]; omega)), ct (hb _), w64_succ (by rw [maxLen_val]; omega), ← ht]
      have e4 : ((f.2.take j).map fun t => txt (termT t)) ++ [txt (termT (f.2.getD j ([], 0)))] = (f.2.take (j + 1)).map fun t => txt (termT t) := by
        rw [← take_getD ([], 0) h, List.map_append]
        rfl
      rw [e4]
      exact ih (j + 1) h (by omega)
    · rw [cf (df (by omega)), List.take_of_length_le (by omega)]
theorem ok : Spec := fun f hb => ⟨f.2.length + 100, fun N hN => by
  have e0 : impl_LaurentOk.g (f.1, f.2) = lokK f := rfl
  simp only [Z0, Z1, Z2, Z3, e0, lk_eq, g]
  cases h1 : lokK f
  · rfl
  have hf := lfacts h1
  have hh := headT_len hf
  have hP : impl_FormatInt.P f.1 = true := i64_of (by have := hf.v; omega) (by have := hf.v; omega)
  have hg : impl_FormatInt.g f.1 = txt (Lib.itoa f.1) := rfl
  have e1 : (⟨#[124]⟩ : ByteArray) = txt [124] := rfl
  have hh' := hh
  unfold headT at hh'
  simp only [List.length_append, List.length_cons, List.length_nil] at hh'
  simp only [Bool.not_true, cond_false, Z4, Z5, Z6, Z7, Z8, Z9, Z10]
  have hlp := loop (ρ := Unit × ByteArray × Unit) (N := N) hf (fun out3 f1_0 f1_1 => Z12 N out3 f1_0 f1_1 (fun t2 => some ((), (t2, ())))) N 0 (Nat.zero_le _) (by omega)
  rw [List.take_zero, List.map_nil] at hlp
  refine hlp.trans ?_
  simp only [Z12, List.length_map]
  have hmap : ((f.2.map fun t => txt (termT t)).map (·.data.toList)) = termsT f := by
    have h := map_txt (termsT f)
    have h2 : (termsT f).map txt = f.2.map fun t => txt (termT t) := by
      unfold termsT
      rw [List.map_map]
      rfl
    rw [h2] at h
    exact h
  have e2 : (⟨#[44, 32]⟩ : ByteArray).data.toList = [44, 32] := rfl
  have hbl : Nat.blt ((impl_FormatInt.g f.1).size + (⟨#[124]⟩ : ByteArray).size) 4611686018427387904 = true := blt_txt (by rw [hg, e1, txt_size, txt_size]; simp only [List.length_cons, List.length_nil]; omega)
  by_cases h0 : f.2.length = 0
  · have hJ : strings_Join.g [(⟨#[48]⟩ : ByteArray)] ⟨#[44, 32]⟩ = txt [48] := by
      simp only [strings_Join.g, List.map_cons, List.map_nil, Lib.join_one]
      rfl
    have hJP : strings_Join.P [(⟨#[48]⟩ : ByteArray)] ⟨#[44, 32]⟩ = true := by
      simp only [strings_Join.P, List.map_cons, List.map_nil, Lib.join_one]
      rfl
    rw [ct (dt (by omega)), ct hP, ct' hbl, ct hJP, hJ, hg, e1]
    simp only [txt_app]
    rw [ct' (blt_txt (by rw [txt_size, txt_size]; simp only [List.length_append, List.length_cons, List.length_nil]; omega)), if_pos trivial, fmtL, if_pos h0]
    rfl
  · have hp := partL_len hf f.2.length
    rw [List.take_of_length_le (by rw [termsT_len]; omega)] at hp
    have hJ : strings_Join.g (f.2.map fun t => txt (termT t)) ⟨#[44, 32]⟩ = txt (Lib.join (termsT f) [44, 32]) := by
      simp only [strings_Join.g, hmap, e2]
      rfl
    have hJP : strings_Join.P (f.2.map fun t => txt (termT t)) ⟨#[44, 32]⟩ = true := by
      simp only [strings_Join.P, hmap, e2, List.length_map, Bool.and_eq_true]
      have := hf.n
      exact ⟨Nat.ble_eq_true_of_le (by omega), Nat.ble_eq_true_of_le (by omega)⟩
    rw [cf (df (by omega)), ct hP, ct' hbl, ct hJP, hJ, hg, e1]
    simp only [txt_app]
    rw [ct' (blt_txt (by rw [txt_size, txt_size]; simp only [List.length_append, List.length_cons, List.length_nil]; omega)), if_pos trivial, fmtL, if_neg h0]
    rfl⟩
end impl_FormatLaurent
end
end Go.Fw
namespace Go.Fw
noncomputable section
variable {ρ : Type}
namespace impl_ParseLaurent
def P (s : ByteArray) : Bool := decide (s.size ≤ 1048576)
noncomputable def g (s : ByteArray) : (Int × List (List Int × Int)) × Bool := readLI s
end impl_ParseLaurent
namespace impl_ParseLaurent
def Z1 {ρ : Type} (N : Nat) (v0 : ByteArray) (kn : ByteArray → Int → Option ρ) : Option ρ :=
 kn v0 0
def Z3 {ρ : Type} (N : Nat) (v0 : ByteArray) (v2_0 : Int) (kn : ByteArray → ByteArray → ByteArray → Bool → Int → Option ρ) : Option ρ :=
 cond (lk N (strings_Cut.P v0 (⟨#[124]⟩ : ByteArray))) (
  kn v0 (strings_Cut.g v0 (⟨#[124]⟩ : ByteArray)).1 (strings_Cut.g v0 (⟨#[124]⟩ : ByteArray)).2.1 (lk N ((strings_Cut.g v0 (⟨#[124]⟩ : ByteArray)).2.2)) v2_0) none
def Z5 {ρ : Type} (N : Nat) (v0 v4 v5 : ByteArray) (v6 : Bool) (v2_0 : Int) (kn : LI → ByteArray → ByteArray → Bool → Bool → Int → Option ρ) : Option ρ :=
 cond (lk N (impl_ParseInts.P v4)) (
  kn (impl_ParseInts.g v4).1 v0 v5 v6 (lk N ((impl_ParseInts.g v4).2)) v2_0) none
def Z7 {ρ : Type} (N : Nat) (v7 : LI) (v0 v5 : ByteArray) (v6 v8 : Bool) (v2_0 : Int) (kn : LI → ByteArray → ByteArray → Int → Option ρ) (kr : (List (LI × Int)) → Bool → Int → Option ρ) : Option ρ :=
 cond (!(v6))
 (
  kr ([] : List (LI × Int)) false 0)
 (
  cond (!(v8))
  (
   kr ([] : List (LI × Int)) false 0)
  (
   cond (lk N (!(decide ((v7.length : Int) = 1))))
   (
    kr ([] : List (LI × Int)) false 0)
   (
    kn v7 v0 v5 v2_0)))
def Z9 {ρ : Type} (N : Nat) (v7 : LI) (v0 v5 : ByteArray) (v2_0 : Int) (kn : ByteArray → ByteArray → I2 (Option ρ)) : Option ρ :=
 cond (lk N (inB 0 v7.length)) (
  kn v0 v5 v2_0 (v7.getD 0 0)) none
def Z12 {ρ : Type} (N : Nat) (v0 v5 : ByteArray) (v2_0 v9_0 : Int) (kn : ByteArray → ByteArray → Bool → I2 (Option ρ)) : Option ρ :=
 kn v0 v5 (lk N (!(strEq v5 (⟨#[48]⟩ : ByteArray)))) v2_0 v9_0
def Z15 {ρ : Type} (N : Nat) (v0 v5 : ByteArray) (v47 : Bool) (v2_0 v9_0 : Int) (kn : List ByteArray → ByteArray → I4 (Option ρ)) : Option ρ :=
 cond (lk N (strings_Split.P v5 (⟨#[44, 32]⟩ : ByteArray))) (
  kn (strings_Split.g v5 (⟨#[44, 32]⟩ : ByteArray)) v0 ((strings_Split.g v5 (⟨#[44, 32]⟩ : ByteArray)).length : Int) 0 v2_0 v9_0) none
def Z18 {ρ : Type} (N : Nat) (v49 : List ByteArray) (v9_1 : List (LI × Int)) (v0 : ByteArray) (v50 v51 v2_0 v9_0 : Int) (kn : List ByteArray → (List (LI × Int)) → ByteArray → I4 (Option ρ)) (k0 : (List (LI × Int)) → ByteArray → I2 (Option ρ)) (kr : (List (LI × Int)) → Bool → Int → Option ρ) : Option ρ :=
 cond (lk N (decide (v51 < v50)))
 (
  cond (lk N (inB v51 v49.length)) (
   cond (lk N (strings_Cut.P (v49.getD v51.toNat ByteArray.empty) (⟨#[58]⟩ : ByteArray))) (
    cond (lk N (impl_ParseInts.P (strings_Cut.g (v49.getD v51.toNat ByteArray.empty) (⟨#[58]⟩ : ByteArray)).1)) (
     cond (lk N (impl_ParseInts.P (strings_Cut.g (v49.getD v51.toNat ByteArray.empty) (⟨#[58]⟩ : ByteArray)).2.1)) (
      cond (!(lk N ((strings_Cut.g (v49.getD v51.toNat ByteArray.empty) (⟨#[58]⟩ : ByteArray)).2.2)))
      (
       kr ([] : List (LI × Int)) false 0)
      (
       cond (!(lk N ((impl_ParseInts.g (strings_Cut.g (v49.getD v51.toNat ByteArray.empty) (⟨#[58]⟩ : ByteArray)).1).2)))
       (
        kr ([] : List (LI × Int)) false 0)
       (
        cond (!(lk N ((impl_ParseInts.g (strings_Cut.g (v49.getD v51.toNat ByteArray.empty) (⟨#[58]⟩ : ByteArray)).2.1).2)))
        (
         kr ([] : List (LI × Int)) false 0)
        (
         cond (lk N (!(decide (((impl_ParseInts.g (strings_Cut.g (v49.getD v51.toNat ByteArray.empty) (⟨#[58]⟩ : ByteArray)).1).1.length : Int) = 1))))
         (
          kr ([] : List (LI × Int)) false 0)
         (
          cond (lk N (inB 0 (impl_ParseInts.g (strings_Cut.g (v49.getD v51.toNat ByteArray.empty) (⟨#[58]⟩ : ByteArray)).1).1.length)) (
           cond (lk N (Nat.blt (v9_1.length + ([((impl_ParseInts.g (strings_Cut.g (v49.getD v51.toNat ByteArray.empty) (⟨#[58]⟩ : ByteArray)).2.1).1, ((impl_ParseInts.g (strings_Cut.g (v49.getD v51.toNat ByteArray.empty) (⟨#[58]⟩ : ByteArray)).1).1.getD 0 0))] : List (LI × Int)).length) 1099511627776)) (
            kn v49 (v9_1 ++ ([((impl_ParseInts.g (strings_Cut.g (v49.getD v51.toNat ByteArray.empty) (⟨#[58]⟩ : ByteArray)).2.1).1, ((impl_ParseInts.g (strings_Cut.g (v49.getD v51.toNat ByteArray.empty) (⟨#[58]⟩ : ByteArray)).1).1.getD 0 0))] : List (LI × Int))) v0 v50 (w64 (v51 + 1)) v2_0 v9_0) none) none))))) none) none) none) none)
 (
  k0 v9_1 v0 v2_0 v9_0)
def Z17L {ρ : Type} (N : Nat) (k0 : (List (LI × Int)) → ByteArray → I2 (Option ρ)) (kr : (List (LI × Int)) → Bool → Int → Option ρ) : Nat → List ByteArray → (List (LI × Int)) → ByteArray → Int → Int → Int → Int → Option ρ
  | 0, _, _, _, _, _, _, _ => none
  | M + 1, v49, v9_1, v0, v50, v51, v2_0, v9_0 => Z18 N v49 v9_1 v0 v50 v51 v2_0 v9_0 (fun v49 v9_1 v0 v50 v51 v2_0 v9_0 => Z17L N k0 kr M v49 v9_1 v0 v50 v51 v2_0 v9_0) k0 kr
def Z17 N v49 v0 v50 v51 v2_0 v9_0 k0 kr := (Z17L N k0 kr N v49 ([] : List (LI × Int)) v0 v50 v51 v2_0 v9_0 : Option ρ)
def Z16 N v49 v0 v50 v51 v2_0 v9_0 kn kr := (Z17 N v49 v0 v50 v51 v2_0 v9_0 kn kr : Option ρ)
def Z14 N v0 v5 v47 v2_0 v9_0 kn kr := (Z15 N v0 v5 v47 v2_0 v9_0 (fun v49 v0 v50 v51 v2_0 v9_0 => Z16 N v49 v0 v50 v51 v2_0 v9_0 kn kr) : Option ρ)
def Z19 {ρ : Type} (N : Nat) (v0 v5 : ByteArray) (v47 : Bool) (v2_0 v9_0 : Int) (kn : (List (LI × Int)) → ByteArray → I2 (Option ρ)) : Option ρ :=
 kn ([] : List (LI × Int)) v0 v2_0 v9_0
def Z13 N v0 v5 v47 v2_0 v9_0 kn kr := (cond (v47) (Z14 N v0 v5 v47 v2_0 v9_0 kn kr) (Z19 N v0 v5 v47 v2_0 v9_0 kn) : Option ρ)
def Z11 N v0 v5 v2_0 v9_0 kn kr := (Z12 N v0 v5 v2_0 v9_0 (fun v0 v5 v47 v2_0 v9_0 => Z13 N v0 v5 v47 v2_0 v9_0 kn kr) : Option ρ)
def Z20 {ρ : Type} (N : Nat) (v9_1 : List (LI × Int)) (v0 : ByteArray) (v2_0 v9_0 : Int) (kr : (List (LI × Int)) → Bool → Int → Option ρ) : Option ρ :=
 cond (!(lk N ((impl_LaurentOk.g (v9_0, v9_1)))))
 (
  kr ([] : List (LI × Int)) false 0)
 (
  cond (lk N (!(strEq (impl_FormatLaurent.g (v9_0, v9_1)) v0)))
  (
   kr ([] : List (LI × Int)) false 0)
  (
   kr v9_1 true v9_0))
def Z10 N v0 v5 v2_0 v9_0 kr := (Z11 N v0 v5 v2_0 v9_0 (fun v9_1 v0 v2_0 v9_0 => Z20 N v9_1 v0 v2_0 v9_0 kr) kr : Option ρ)
def Z8 N v7 v0 v5 v2_0 kr := (Z9 N v7 v0 v5 v2_0 (fun v0 v5 v2_0 v9_0 => Z10 N v0 v5 v2_0 v9_0 kr) : Option ρ)
def Z6 N v7 v0 v5 v6 v8 v2_0 kr := (Z7 N v7 v0 v5 v6 v8 v2_0 (fun v7 v0 v5 v2_0 => Z8 N v7 v0 v5 v2_0 kr) kr : Option ρ)
def Z4 N v0 v4 v5 v6 v2_0 kr := (Z5 N v0 v4 v5 v6 v2_0 (fun v7 v0 v5 v6 v8 v2_0 => Z6 N v7 v0 v5 v6 v8 v2_0 kr) : Option ρ)
def Z2 N v0 v2_0 kr := (Z3 N v0 v2_0 (fun v0 v4 v5 v6 v2_0 => Z4 N v0 v4 v5 v6 v2_0 kr) : Option ρ)
def Z0 N v0 kr := (Z1 N v0 (fun v0 v2_0 => Z2 N v0 v2_0 kr) : Option ρ)
def Spec : Prop := ∀  (v0 : ByteArray), P v0 = true → ∃ N0, ∀ N, N0 ≤ N → Z0 N v0 (fun v2_1 v3 v2_0 => some ((), ((v2_0, v2_1), (v3, ())))) = some ((), ((g v0).1, ((g v0).2, ())))
theorem loop {ρ : Type} {N : Nat} (k0 : List (List Int × Int) → ByteArray → Int → Int → Option ρ) (kr : List (List Int × Int) → Bool → Int → Option ρ) (s : ByteArray) (t0 v : Int) {ps : List ByteArray} (hps : ps.length ≤ 2000000) (hsz : ∀ w ∈ ps, w.size ≤ 1048576) : ∀ (M i : Nat) (out : List (List Int × Int)), i ≤ ps.length → out.length ≤ i → ps.length - i < M →
    Z17L N k0 kr M ps out s (ps.length : Int) (i : Int) t0 v = match goIL (ps.drop i) out with | some q => k0 q s t0 v | none => kr [] false 0 := by
  intro M
  induction M with
  | zero => intro i out _ _ h; omega
  | succ M ih =>
    intro i out hi ho hM
    simp only [Z17L, Z18]
    by_cases h : i < ps.length
    · have hmem := hsz _ (getD_mem (l := ps) ByteArray.empty h)
      rw [ct (dt (by omega)), ct (inB_nat h), Int.toNat_natCast, drop_getD (l := ps) ByteArray.empty h]
      generalize ps.getD i ByteArray.empty = p at hmem
      obtain ⟨s1, s2⟩ := cutV_sizes p ⟨#[58]⟩
      have hc : strings_Cut.g p ⟨#[58]⟩ = cutV p ⟨#[58]⟩ := rfl
      have hcP : strings_Cut.P p ⟨#[58]⟩ = true := Nat.ble_eq_true_of_le (by omega)
      rw [ct hcP, hc, goIL]
      generalize cutV p ⟨#[58]⟩ = x at s1 s2
      have h1 : impl_ParseInts.P x.1 = true := dt (by omega)
      have h2 : impl_ParseInts.P x.2.1 = true := dt (by omega)
      have g1 : impl_ParseInts.g x.1 = parseI x.1 := rfl
      have g2 : impl_ParseInts.g x.2.1 = parseI x.2.1 := rfl
      rw [ct h1, ct h2, g1, g2, lk_eq]
      cases hx : x.2.2
      · rfl
      · rw [if_pos rfl, cf' (show (!true) = false from rfl), lk_eq]
        cases hy : (parseI x.1).2
        · rfl
        · rw [if_pos rfl, cf' (show (!true) = false from rfl), lk_eq]
          cases hw : (parseI x.2.1).2
          · rfl
          · rw [if_pos rfl, cf' (show (!true) = false from rfl)]
            by_cases hl : (parseI x.1).1.length = 1
            · have hl' : (!(decide (((parseI x.1).1.length : Int) = 1))) = false := by rw [dt (by omega)]; rfl
              rw [cf hl', if_pos hl, ct (inB_0 (by omega)), ct (blt1 _ _ (by omega)), w64_succ (by rw [maxLen_val]; omega)]
              exact ih (i + 1) _ h (by simp; omega) (by omega)
            · have hl' : (!(decide (((parseI x.1).1.length : Int) = 1))) = true := by rw [df (by omega)]; rfl
              rw [ct hl', if_neg hl]
    · rw [List.drop_of_length_le (by omega), goIL, cf (df (by omega))]
theorem ok : Spec := fun s hp => ⟨s.size + 1000, fun N hN => by
  have hs : s.size ≤ 1048576 := of_decide_eq_true hp
  obtain ⟨s1, s2⟩ := cutV_sizes s ⟨#[124]⟩
  have hc : strings_Cut.g s ⟨#[124]⟩ = cutV s ⟨#[124]⟩ := rfl
  have hcP : strings_Cut.P s ⟨#[124]⟩ = true := Nat.ble_eq_true_of_le (by omega)
  simp only [Z0, Z1, Z2, Z3, g, readLI]
  rw [ct hcP, hc]
  generalize cutV s ⟨#[124]⟩ = x at s1 s2
  have h1 : impl_ParseInts.P x.1 = true := dt (by omega)
  have g1 : impl_ParseInts.g x.1 = parseI x.1 := rfl
  simp only [Z4, Z5]
  rw [ct h1, g1]
  simp only [Z6, Z7, lk_eq]
  cases hx : x.2.2
  · rfl
  rw [if_pos rfl, cf' (show (!true) = false from rfl)]
  cases hy : (parseI x.1).2
  · rfl
  rw [if_pos rfl, cf' (show (!true) = false from rfl)]
  by_cases hl : (parseI x.1).1.length = 1
  · have hl' : (!(decide (((parseI x.1).1.length : Int) = 1))) = false := by rw [dt (by omega)]; rfl
    rw [cf' hl', if_pos hl]
    have key : ∀ f : Int × List (List Int × Int), Z20 (ρ := _) N f.2 s 0 f.1 (fun t2_1 t3 t2_0 => some ((), ((t2_0, t2_1), (t3, ())))) = some ((), ((endLI s f).1, ((endLI s f).2, ()))) := fun f => by
      have e : impl_FormatLaurent.g (f.1, f.2) = if lokK f = true then fmtL f else ByteArray.empty := rfl
      have e2 : impl_LaurentOk.g (f.1, f.2) = lokK f := rfl
      simp only [Z20, lk_eq, endLI, e, e2]
      cases lokK f
      · rfl
      · rw [if_pos rfl, if_pos rfl]
        cases strEq (fmtL f) s <;> rfl
    simp only [Z8, Z9]
    rw [ct (inB_0 (by omega))]
    simp only [Z10, Z11, Z12, Z13, lk_eq, tailI]
    cases hz : strEq x.2.1 zeroT
    · have hz' : strEq x.2.1 ⟨#[48]⟩ = false := hz
      rw [hz', ct' (show (!false) = true from rfl), if_neg (by simp)]
      have hP : strings_Split.P x.2.1 ⟨#[44, 32]⟩ = true := by
        simp only [strings_Split.P, Bool.and_eq_true]
        exact ⟨Nat.ble_eq_true_of_le (by omega), rfl⟩
      have hg2 : strings_Split.g x.2.1 ⟨#[44, 32]⟩ = Lib.splitB ⟨#[44, 32]⟩ 0 (Lib.countB x.2.1 ⟨#[44, 32]⟩) x.2.1 := rfl
      obtain ⟨l1, l2⟩ := splitc_sizes 44 x.2.1
      simp only [Z14, Z15]
      rw [ct hP, hg2]
      simp only [Z16, Z17]
      refine (loop _ _ s 0 _ (by omega) (fun w hw => Nat.le_trans (l2 w hw) (by omega)) N 0 [] (Nat.zero_le _) (by simp) (by omega)).trans ?_
      rw [List.drop_zero]
      cases hq : goIL (Lib.splitB ⟨#[44, 32]⟩ 0 (Lib.countB x.2.1 ⟨#[44, 32]⟩) x.2.1) [] with
      | none => rfl
      | some q => exact key (_, q)
    · have hz' : strEq x.2.1 ⟨#[48]⟩ = true := hz
      rw [hz', cf' (show (!true) = false from rfl), if_pos rfl]
      simp only [Z19]
      exact key (_, [])
  · have hl' : (!(decide (((parseI x.1).1.length : Int) = 1))) = true := by rw [df (by omega)]; rfl
    rw [ct' hl', if_neg hl]
    rfl⟩
end impl_ParseLaurent
end
end Go.Fw
namespace Go.Fw
noncomputable section
variable {ρ : Type}
namespace laws_eqIntS
def g (a b : List Int) : Bool := decide (a = b)
end laws_eqIntS
namespace laws_eqIntS
def Z1 {ρ : Type} (N : Nat) (v0 v1 : LI) (kn : LI → LI → Option ρ) : Option ρ :=
 kn v0 v1
def Z3 {ρ : Type} (N : Nat) (v0 v1 : LI) (kn : LI → LI → Option ρ) (kr : Bool → Option ρ) : Option ρ :=
 cond (lk N (!(decide ((v0.length : Int) = (v1.length : Int)))))
 (
  kr false)
 (
  kn v0 v1)
def Z6 {ρ : Type} (N : Nat) (v0 v1 : LI) (kn : LI → LI → Int → Option ρ) : Option ρ :=
 kn v0 v1 0
def Z9 {ρ : Type} (N : Nat) (v0 v1 : LI) (v5 : Int) (kn : LI → LI → Int → Option ρ) (k0 : Option ρ) (kr : Bool → Option ρ) : Option ρ :=
 cond (lk N (decide (v5 < (v0.length : Int))))
 (
  cond (lk N (inB v5 v0.length)) (
   cond (lk N (inB v5 v1.length)) (
    cond (lk N (!(decide ((v0.getD v5.toNat 0) = (v1.getD v5.toNat 0)))))
    (
     kr false)
    (
     kn v0 v1 (w64 (v5 + 1)))) none) none)
 (
  k0)
def Z8L {ρ : Type} (N : Nat) (k0 : Option ρ) (kr : Bool → Option ρ) : Nat → LI → LI → Int → Option ρ
  | 0, _, _, _ => none
  | M + 1, v0, v1, v5 => Z9 N v0 v1 v5 (fun v0 v1 v5 => Z8L N k0 kr M v0 v1 v5) k0 kr
def Z8 N v0 v1 v5 k0 kr := (Z8L N k0 kr N v0 v1 v5 : Option ρ)
def Z7 N v0 v1 v5 kn kr := (Z8 N v0 v1 v5 kn kr : Option ρ)
def Z5 N v0 v1 kn kr := (Z6 N v0 v1 (fun v0 v1 v5 => Z7 N v0 v1 v5 kn kr) : Option ρ)
def Z10 {ρ : Type} (N : Nat)  (kr : Bool → Option ρ) : Option ρ :=
 kr true
def Z4 N v0 v1 kr := (Z5 N v0 v1 (Z10 N kr) kr : Option ρ)
def Z2 N v0 v1 kr := (Z3 N v0 v1 (fun v0 v1 => Z4 N v0 v1 kr) kr : Option ρ)
def Z0 N v0 v1 kr := (Z1 N v0 v1 (fun v0 v1 => Z2 N v0 v1 kr) : Option ρ)
def Spec : Prop := ∀  (v0 v1 : LI), Ty.bd (.sl 0 (.int .i64)) v0 → Ty.bd (.sl 0 (.int .i64)) v1 → ∃ N0, ∀ N, N0 ≤ N → Z0 N v0 v1 (fun v4 => some ((), (v4, ()))) = some ((), ((g v0 v1), ()))
theorem loop {ρ : Type} (N : Nat) (k0 : Option ρ) (kr : Bool → Option ρ) (a b : List Int) (hl : a.length = b.length) (ha : a.length ≤ maxLen) : ∀ (M j : Nat), j ≤ a.length → a.length - j < M →
    Z8L N k0 kr M a b (j : Int) = if a.drop j = b.drop j then k0 else kr false := by
  intro M
  induction M with
  | zero => intro j _ h; omega
  | succ M ih =>
    intro j hj hM
    simp only [Z8L, Z9]
    by_cases h : j < a.length
    · rw [ct (dt (by omega)), ct (inB_nat h), ct (inB_nat (by omega)), Int.toNat_natCast, w64_succ (by omega), ih (j + 1) h (by omega), drop_getD 0 h, drop_getD (l := b) (j := j) 0 (by omega)]
      by_cases e : a.getD j 0 = b.getD j 0
      · rw [cf (nf e), e]
        simp only [List.cons.injEq, true_and]
      · rw [ct (nt e), if_neg (by simp only [List.cons.injEq]; exact fun h => e h.1)]
    · rw [cf (df (by omega)), if_pos (by rw [List.drop_of_length_le (by omega), List.drop_of_length_le (by omega)])]
theorem ok : Spec := fun a b ha hb => ⟨a.length + 1, fun N hN => by
  simp only [Z1, Z3, Z6, Z9, Z8, Z7, Z5, Z10, Z4, Z2, Z0]
  by_cases hl : a.length = b.length
  · rw [cf (nf (by omega))]
    rw [show (0 : Int) = ((0 : Nat) : Int) from rfl, loop _ _ _ a b hl ha.1 N 0 (by omega) (by omega)]
    by_cases e : a = b <;> simp [e, g]
  · rw [ct (nt (by omega))]
    have : a ≠ b := fun e => hl (by rw [e])
    simp [g, this]⟩
end laws_eqIntS
end
end Go.Fw
namespace Go.Fw
noncomputable section
variable {ρ : Type}
namespace laws_eqTerm
def g (a b : List Int × Int) : Bool := decide (a = b)
end laws_eqTerm
namespace laws_eqTerm
def Z0 {ρ : Type} (N : Nat) (v0 v1 : LI × Int) (kr : Bool → Option ρ) : Option ρ :=
 cond (!(lk N ((laws_eqIntS.g v0.1 v1.1))))
 (
  kr false)
 (
  cond (lk N (!(decide (v0.2 = v1.2))))
  (
   kr false)
  (
   kr true))
def Spec : Prop := ∀  (v0 v1 : LI × Int), Ty.bd (.pair (.sl 0 (.int .i64)) (.int .i64)) v0 → Ty.bd (.pair (.sl 0 (.int .i64)) (.int .i64)) v1 → ∃ N0, ∀ N, N0 ≤ N → Z0 N v0 v1 (fun v4 => some ((), (v4, ()))) = some ((), ((g v0 v1), ()))
theorem ok : Spec := fun a b ha hb => ⟨0, fun N hN => by
  obtain ⟨a1, a2⟩ := a
  obtain ⟨b1, b2⟩ := b
  simp only [Z0, lk_eq, g, laws_eqIntS.g, Prod.mk.injEq]
  by_cases h1 : a1 = b1 <;> by_cases h2 : a2 = b2 <;> simp [h1, h2]⟩
end laws_eqTerm
end
end Go.Fw
namespace Go.Fw
noncomputable section
variable {ρ : Type}
namespace laws_eqTermS
def g (a b : List (List Int × Int)) : Bool := decide (a = b)
end laws_eqTermS
namespace laws_eqTermS
def Z1 {ρ : Type} (N : Nat) (v0 v1 : List (LI × Int)) (kn : (List (LI × Int)) → (List (LI × Int)) → Option ρ) : Option ρ :=
 kn v0 v1
def Z3 {ρ : Type} (N : Nat) (v0 v1 : List (LI × Int)) (kn : (List (LI × Int)) → (List (LI × Int)) → Option ρ) (kr : Bool → Option ρ) : Option ρ :=
 cond (lk N (!(decide ((v0.length : Int) = (v1.length : Int)))))
 (
  kr false)
 (
  kn v0 v1)
def Z6 {ρ : Type} (N : Nat) (v0 v1 : List (LI × Int)) (kn : (List (LI × Int)) → (List (LI × Int)) → Int → Option ρ) : Option ρ :=
 kn v0 v1 0
def Z9 {ρ : Type} (N : Nat) (v0 v1 : List (LI × Int)) (v5 : Int) (kn : (List (LI × Int)) → (List (LI × Int)) → Int → Option ρ) (k0 : Option ρ) (kr : Bool → Option ρ) : Option ρ :=
 cond (lk N (decide (v5 < (v0.length : Int))))
 (
  cond (lk N (inB v5 v0.length)) (
   cond (lk N (inB v5 v1.length)) (
    cond (!(lk N ((laws_eqTerm.g (v0.getD v5.toNat ([], 0)) (v1.getD v5.toNat ([], 0))))))
    (
     kr false)
    (
     kn v0 v1 (w64 (v5 + 1)))) none) none)
 (
  k0)
def Z8L {ρ : Type} (N : Nat) (k0 : Option ρ) (kr : Bool → Option ρ) : Nat → (List (LI × Int)) → (List (LI × Int)) → Int → Option ρ
  | 0, _, _, _ => none
  | M + 1, v0, v1, v5 => Z9 N v0 v1 v5 (fun v0 v1 v5 => Z8L N k0 kr M v0 v1 v5) k0 kr
def Z8 N v0 v1 v5 k0 kr := (Z8L N k0 kr N v0 v1 v5 : Option ρ)
def Z7 N v0 v1 v5 kn kr := (Z8 N v0 v1 v5 kn kr : Option ρ)
def Z5 N v0 v1 kn kr := (Z6 N v0 v1 (fun v0 v1 v5 => Z7 N v0 v1 v5 kn kr) : Option ρ)
def Z10 {ρ : Type} (N : Nat)  (kr : Bool → Option ρ) : Option ρ :=
 kr true
def Z4 N v0 v1 kr := (Z5 N v0 v1 (Z10 N kr) kr : Option ρ)
def Z2 N v0 v1 kr := (Z3 N v0 v1 (fun v0 v1 => Z4 N v0 v1 kr) kr : Option ρ)
def Z0 N v0 v1 kr := (Z1 N v0 v1 (fun v0 v1 => Z2 N v0 v1 kr) : Option ρ)
def Spec : Prop := ∀  (v0 v1 : List (LI × Int)), Ty.bd (.sl 0 (.pair (.sl 0 (.int .i64)) (.int .i64))) v0 → Ty.bd (.sl 0 (.pair (.sl 0 (.int .i64)) (.int .i64))) v1 → ∃ N0, ∀ N, N0 ≤ N → Z0 N v0 v1 (fun v4 => some ((), (v4, ()))) = some ((), ((g v0 v1), ()))
theorem loop {ρ : Type} (N : Nat) (k0 : Option ρ) (kr : Bool → Option ρ) (a b : List (List Int × Int)) (hl : a.length = b.length) (ha : a.length ≤ maxLen) : ∀ (M j : Nat), j ≤ a.length → a.length - j < M →
    Z8L N k0 kr M a b (j : Int) = if a.drop j = b.drop j then k0 else kr false := by
  intro M
  induction M with
  | zero => intro j _ h; omega
  | succ M ih =>
    intro j hj hM
    simp only [Z8L, Z9]
    by_cases h : j < a.length
    · rw [ct (dt (by omega)), ct (inB_nat h), ct (inB_nat (by omega)), Int.toNat_natCast, w64_succ (by omega), ih (j + 1) h (by omega), drop_getD ([], 0) h, drop_getD (l := b) (j := j) ([], 0) (by omega)]
      by_cases e : a.getD j ([], 0) = b.getD j ([], 0)
      · rw [cf' (by rw [lk_eq, laws_eqTerm.g, dt e]; rfl), e]
        simp only [List.cons.injEq, true_and]
      · rw [ct' (by rw [lk_eq, laws_eqTerm.g, df e]; rfl), if_neg (by simp only [List.cons.injEq]; exact fun h => e h.1)]
    · rw [cf (df (by omega)), if_pos (by rw [List.drop_of_length_le (by omega), List.drop_of_length_le (by omega)])]
theorem ok : Spec := fun a b ha hb => ⟨a.length + 1, fun N hN => by
  simp only [Z1, Z3, Z6, Z9, Z8, Z7, Z5, Z10, Z4, Z2, Z0]
  by_cases hl : a.length = b.length
  · rw [cf (nf (by omega))]
    rw [show (0 : Int) = ((0 : Nat) : Int) from rfl, loop _ _ _ a b hl ha.1 N 0 (by omega) (by omega)]
    by_cases e : a = b <;> simp [e, g]
  · rw [ct (nt (by omega))]
    have : a ≠ b := fun e => hl (by rw [e])
    simp [g, this]⟩
end laws_eqTermS
end
end Go.Fw
namespace Go.Fw
noncomputable section
variable {ρ : Type}
namespace laws_eqLaurent
def g (a b : Int × List (List Int × Int)) : Bool := decide (a = b)
end laws_eqLaurent
namespace laws_eqLaurent
def Z0 {ρ : Type} (N : Nat) (v0 v1 : Int × List (LI × Int)) (kr : Bool → Option ρ) : Option ρ :=
 cond (lk N (!(decide (v0.1 = v1.1))))
 (
  kr false)
 (
  cond (!(lk N ((laws_eqTermS.g v0.2 v1.2))))
  (
   kr false)
  (
   kr true))
def Spec : Prop := ∀  (v0 v1 : Int × List (LI × Int)), Ty.bd (.pair (.int .i64) (.sl 0 (.pair (.sl 0 (.int .i64)) (.int .i64)))) v0 → Ty.bd (.pair (.int .i64) (.sl 0 (.pair (.sl 0 (.int .i64)) (.int .i64)))) v1 → ∃ N0, ∀ N, N0 ≤ N → Z0 N v0 v1 (fun v4 => some ((), (v4, ()))) = some ((), ((g v0 v1), ()))
theorem ok : Spec := fun a b ha hb => ⟨0, fun N hN => by
  obtain ⟨a1, a2⟩ := a
  obtain ⟨b1, b2⟩ := b
  simp only [Z0, lk_eq, g, laws_eqTermS.g, Prod.mk.injEq]
  by_cases h1 : a1 = b1 <;> by_cases h2 : a2 = b2 <;> simp [h1, h2]⟩
end laws_eqLaurent
end
end Go.Fw
namespace Go.Fw
noncomputable section
variable {ρ : Type}
namespace laws_FnExactParseLaurent
def g (_ : ByteArray) : Bool := true
end laws_FnExactParseLaurent
namespace laws_FnExactParseLaurent
def Z1 {ρ : Type} (N : Nat) (v0 : ByteArray) (kn : ByteArray → Option ρ) : Option ρ :=
 kn v0
def Z3 {ρ : Type} (N : Nat) (v0 : ByteArray) (kn : ByteArray → Option ρ) (kr : Bool → Option ρ) : Option ρ :=
 cond (lk N (decide (1048576 < (v0.size : Int))))
 (
  kr true)
 (
  kn v0)
def Z5 {ρ : Type} (N : Nat) (v0 : ByteArray) (kn : (List (LI × Int)) → ByteArray → Bool → Int → Option ρ) : Option ρ :=
 cond (lk N (spec_ParseLaurent.P v0)) (
  kn (spec_ParseLaurent.g v0).1.2 v0 (lk N ((spec_ParseLaurent.g v0).2)) (spec_ParseLaurent.g v0).1.1) none
def Z7 {ρ : Type} (N : Nat) (v3_1 : List (LI × Int)) (v0 : ByteArray) (v4 : Bool) (v3_0 : Int) (kn : (List (LI × Int)) → (List (LI × Int)) → ByteArray → Bool → Bool → I2 (Option ρ)) : Option ρ :=
 cond (lk N (impl_ParseLaurent.P v0)) (
  kn v3_1 (impl_ParseLaurent.g v0).1.2 v0 v4 (lk N ((impl_ParseLaurent.g v0).2)) v3_0 (impl_ParseLaurent.g v0).1.1) none
def Z9 {ρ : Type} (N : Nat) (v3_1 v5_1 : List (LI × Int)) (v0 : ByteArray) (v4 v6 : Bool) (v3_0 v5_0 : Int) (kn : (List (LI × Int)) → (List (LI × Int)) → ByteArray → Bool → I2 (Option ρ)) (kr : Bool → Option ρ) : Option ρ :=
 cond (!(lk N ((laws_eqLaurent.g (v5_0, v5_1) (v3_0, v3_1)))))
 (
  kr false)
 (
  cond (lk N (!((v6 == v4))))
  (
   kr false)
  (
   kn v3_1 v5_1 v0 v4 v3_0 v5_0))
def Z10 {ρ : Type} (N : Nat) (v3_1 v5_1 : List (LI × Int)) (v0 : ByteArray) (v4 : Bool) (v3_0 v5_0 : Int) (kr : Bool → Option ρ) : Option ρ :=
 cond (lk N (decide ((laws_heldLaurent.g (v5_0, (laws_markLaurent.g (v5_0, v5_1) 1).1.2) 1) < 0)))
 (
  kr false)
 (
  cond (lk N (!(decide ((laws_heldLaurent.g (v5_0, (laws_markLaurent.g (v5_0, v5_1) 1).1.2) 1) = (laws_markLaurent.g (v5_0, v5_1) 1).2))))
  (
   kr false)
  (
   cond (lk N (impl_ParseLaurent.P v0)) (
    cond (!(lk N ((laws_eqLaurent.g (impl_ParseLaurent.g v0).1 (v3_0, v3_1)))))
    (
     kr false)
    (
     cond (lk N (!(((lk N ((impl_ParseLaurent.g v0).2)) == v4))))
     (
      kr false)
     (
      cond (lk N (decide ((laws_heldLaurent.g (v5_0, (laws_markLaurent.g (v5_0, v5_1) 1).1.2) 1) < 0)))
      (
       kr false)
      (
       cond (lk N (!(decide ((laws_heldLaurent.g (v5_0, (laws_markLaurent.g (v5_0, v5_1) 1).1.2) 1) = (laws_markLaurent.g (v5_0, v5_1) 1).2))))
       (
        kr false)
       (
        kr true))))) none))
def Z8 N v3_1 v5_1 v0 v4 v6 v3_0 v5_0 kr := (Z9 N v3_1 v5_1 v0 v4 v6 v3_0 v5_0 (fun v3_1 v5_1 v0 v4 v3_0 v5_0 => Z10 N v3_1 v5_1 v0 v4 v3_0 v5_0 kr) kr : Option ρ)
def Z6 N v3_1 v0 v4 v3_0 kr := (Z7 N v3_1 v0 v4 v3_0 (fun v3_1 v5_1 v0 v4 v6 v3_0 v5_0 => Z8 N v3_1 v5_1 v0 v4 v6 v3_0 v5_0 kr) : Option ρ)
def Z4 N v0 kr := (Z5 N v0 (fun v3_1 v0 v4 v3_0 => Z6 N v3_1 v0 v4 v3_0 kr) : Option ρ)
def Z2 N v0 kr := (Z3 N v0 (fun v0 => Z4 N v0 kr) kr : Option ρ)
def Z0 N v0 kr := (Z1 N v0 (fun v0 => Z2 N v0 kr) : Option ρ)
def Spec : Prop := ∀  (v0 : ByteArray), ∃ N0, ∀ N, N0 ≤ N → Z0 N v0 (fun v2 => some ((), (v2, ()))) = some ((), ((g v0), ()))
theorem szT_le (v : Int) : ∀ (l : List (List Int × Int)), (∀ t ∈ l, t.1.length ≤ 8) → szT l ≤ 9 * l.length
  | [], _ => by simp [szT]
  | t :: ts, h => by
    have := szT_le v ts fun x hx => h x (List.mem_cons_of_mem _ hx)
    have h1 := h t (List.mem_cons_self ..)
    simp only [szT, List.length_cons]
    omega
theorem ok : Spec := fun s => ⟨0, fun N hN => by
  by_cases h0 : (1048576 : Int) < s.size
  · simp only [Z1, Z3, Z5, Z7, Z9, Z10, Z8, Z6, Z4, Z2, Z0]
    rw [ct (dt h0)]
    rfl
  have hP : spec_ParseLaurent.P s = true := dt (show s.size ≤ 1048576 by omega)
  have hQ : impl_ParseLaurent.P s = true := dt (show s.size ≤ 1048576 by omega)
  have he : impl_ParseLaurent.g s = spec_ParseLaurent.g s := readL_same s
  have hs : szT (spec_ParseLaurent.g s).1.2 < 4611686018427387904 := by
    show szT (readLS s).1.2 < _
    rcases readLS_cases s with h | ⟨f, h, h1, _⟩
    · rw [h]
      decide
    · rw [h]
      simp only [lokK, Bool.and_eq_true, decide_eq_true_eq, inK_iff'] at h1
      have ht := terms_all _ _ _ h1.2.2
      have := szT_le 0 f.2 fun t m => by
        have := (ht t m).1
        simp only [expK, Bool.and_eq_true, decide_eq_true_eq] at this
        omega
      show szT f.2 < _
      omega
  obtain ⟨h1, h2⟩ := lau_mark _ hs
  have h2 : ¬ (laws_markLaurent.g (spec_ParseLaurent.g s).1 1).2 < 0 := by omega
  simp only [Z1, Z3, Z5, Z7, Z9, Z10, Z8, Z6, Z4, Z2, Z0, lk_eq, hP, hQ, he, laws_eqLaurent.g, h1, df h0, df h2, dt (rfl : (spec_ParseLaurent.g s).1 = _), dt (rfl : (laws_markLaurent.g (spec_ParseLaurent.g s).1 1).2 = _), g, decide_true, Bool.not_true, cond_true, cond_false, beq_self_eq_true]⟩
end laws_FnExactParseLaurent
end
end Go.Fw
