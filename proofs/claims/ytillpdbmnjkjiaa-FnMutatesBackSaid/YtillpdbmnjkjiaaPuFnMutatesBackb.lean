/- The plain part: what the functions compute, in lists and numbers. Nothing is assumed. -/
import Derived.Test.YtillpdbmnjkjiaaFwc
import Derived.Test.YtillpdbmnjkjiaaPuFnMutatesBacka
noncomputable section
set_option linter.unusedVariables false
set_option linter.unusedSimpArgs false
set_option maxRecDepth 100000
namespace Go.Fw
section
variable {ρ : Type}
namespace spec_dNames
def P (b : List Int) (r : Int × Int) (n : Int) : Bool := curOk b r && inK n 0 5
def stepN (b : List Int) (s : (Int × Int) × List Int) (k : Nat) : (Int × Int) × List Int :=
 ((spec_l1Below.g b s.1 ((s.2.length : Int) + 1)).1, s.2.take (spec_l1Below.g b s.1 ((s.2.length : Int) + 1)).2.toNat ++ [(k : Int)] ++ s.2.drop (spec_l1Below.g b s.1 ((s.2.length : Int) + 1)).2.toNat)
def g (b : List Int) (r : Int × Int) (n : Int) : (Int × Int) × List Int := (List.range n.toNat).foldl (stepN b) (r, [])
end spec_dNames
namespace spec_dNames
def Z1 {ρ : Type} (N : Nat) (b0 : List Int) (r0 : Int × Int) (a : Int) (kn : Int → List Int → I2 (Option ρ)) : Option ρ :=
 kn a b0 r0.1 r0.2
def Z3 {ρ : Type} (N : Nat) (a : Int) (b : List Int) (c d : Int) (kn : LI → Int → List Int → I2 (Option ρ)) : Option ρ :=
 kn ([] : List Int) a b c d
def Z6 {ρ : Type} (N : Nat) (a : LI) (b : Int) (c : List Int) (d e : Int) (kn : LI → I2 (List Int → I2 (Option ρ))) : Option ρ :=
 kn a b 0 c d e
def Z9 {ρ : Type} (N : Nat) (a : LI) (f b : Int) (c : List Int) (d e : Int) (kn : LI → I2 (List Int → I2 (Option ρ))) (k0 : LI → List Int → I2 (Option ρ)) : Option ρ :=
 let x1_ := (spec_l1Below.g c (d, e) (w64 ((a.length : Int) + 1)))
 let x4_ := (lk N (leB 0 x1_.2 && leB x1_.2 a.length))
 let x7_ := (lk N (Nat.blt (([] : List Int).length + ((a.drop 0).take x1_.2.toNat).length) 1099511627776))
 let x8_ := (([] : List Int) ++ ((a.drop 0).take x1_.2.toNat))
 let x0_ := (
   cond (lk N (Nat.blt ((x8_ ++ ([b] : List Int)).length + ((a.drop x1_.2.toNat).take (a.length - x1_.2).toNat).length) 1099511627776)) (
   kn ((x8_ ++ ([b] : List Int)) ++ ((a.drop x1_.2.toNat).take (a.length - x1_.2).toNat)) f (w64 (b + 1)) c x1_.1.1 x1_.1.2) none)
 let x5_ := (lk N (Nat.blt (x8_.length + ([b] : List Int).length) 1099511627776))
 let x9_ := (
   both (
   cond x5_ (
   cond x4_ x0_ none) none)
   (
   cond x4_ (
   cond x5_ x0_ none) none))
 let x2_ := (
   cond x7_ (
   cond x5_ x0_ none) none)
 let x3_ := (
   both (
   cond x7_ x9_ none)
   (
   cond x4_ x2_ none))
 let x6_ := (
   both (
   cond x7_ (
   both x9_
   (
   cond x4_ (
   cond x5_ x0_ none) none)) none)
   (
   both x3_
   (
   cond x4_ (
   bo x2_) none)))
 let x10_ := (
   both (
   cond x4_ x3_ none)
   (
   cond x4_ (
   cond x4_ x2_ none) none))
 let x11_ := (
   both (
   cond x4_ (
   bo x2_) none)
   (
   cond x4_ x2_ none))
 cond (lk N (decide (b < f)))
 (
 cond (lk N (spec_l1Below.P c (d, e) (w64 ((a.length : Int) + 1)))) (
 both (
 both (
 cond x4_ x6_ none)
 (
 both x10_
 (
 cond x4_ x11_ none)))
 (
 both (
 cond x4_ (
 both x6_
 (
 both (
 both x3_
 (
 cond x4_ x2_ none))
 (
 cond x4_ (
 both (
 bo x2_)
 x2_) none))) none)
 (
 both (
 both x10_
 (
 both (
 cond x4_ (
 both x3_
 (
 cond x4_ x2_ none)) none)
 (
 cond x4_ (
 bo (
 cond x4_ x2_ none)) none)))
 (
 cond x4_ (
 both x11_
 (
 both (
 cond x4_ (
 both (
 bo x2_)
 x2_) none)
 (
 bo (
 cond x4_ x2_ none)))) none)))) none)
 (
 k0 a c d e)
def Z8L {ρ : Type} (N : Nat) (k0 : LI → List Int → I2 (Option ρ)) : Nat → LI → Int → Int → List Int → Int → Int → Option ρ
 | 0, _, _, _, _, _, _ => none
 | M + 1, a, b, c, d, e, f => Z9 N a b c d e f (fun a b c d e f => Z8L N k0 M a b c d e f) k0
def Z8 N a b c d e f k0 := (Z8L N k0 N a b c d e f : Option ρ)
def Z7 N a b c d e f kn := (Z8 N a b c d e f kn : Option ρ)
def Z5 N a b c d e kn := (Z6 N a b c d e (fun a b f c d e => Z7 N a b f c d e kn) : Option ρ)
def Z10 {ρ : Type} (N : Nat) (a : LI) (b : List Int) (c d : Int) (kr : LI → List Int → I2 (Option ρ)) : Option ρ :=
 kr a b c d
def Z4 N a e b c d kr := (Z5 N a e b c d (fun a b c d => Z10 N a b c d kr) : Option ρ)
def Z2 N a b c d kr := (Z3 N a b c d (fun e a b c d => Z4 N e a b c d kr) : Option ρ)
def Z0 N b0 r0 a kr := (Z1 N b0 r0 a (fun a b c d => Z2 N a b c d kr) : Option ρ)
def Spec : Prop := ∀ {U : Type} (u : U) (b0 : List Int) (r0 : Int × Int) (v1 : Int), Ty.bd (.sl 0 (.int .u8)) b0 → P b0 r0 v1 = true → ∃ N0, ∀ N, N0 ≤ N → Z0 N b0 r0 v1 (fun v4 w0_0 w0_1 w0_2 => some (u, ((w0_1, w0_2), ((), (v4, ()))))) = some (u, ((g b0 r0 v1).1, ((), ((g b0 r0 v1).2, ()))))
theorem step_perm (b : List Int) (s : (Int × Int) × List Int) (k : Nat) : (stepN b s k).2.Perm ((k : Int) :: s.2) := by
 unfold stepN
 generalize (spec_l1Below.g b s.1 ((s.2.length : Int) + 1)).2.toNat = q
 simp only
 have h : (s.2.take q ++ [(k : Int)] ++ s.2.drop q).Perm ([(k : Int)] ++ s.2.take q ++ s.2.drop q) := List.Perm.append_right _ List.perm_append_comm
 rw [List.append_assoc [(k : Int)], List.take_append_drop] at h
 exact h
theorem steps_perm (b : List Int) : ∀ (l : List Nat) (s : (Int × Int) × List Int), (l.foldl (stepN b) s).2.Perm (ints l ++ s.2)
 | [], s => List.Perm.refl _
 | k :: l, s => by
  rw [List.foldl_cons]
  refine (steps_perm b l (stepN b s k)).trans ?_
  show (ints l ++ (stepN b s k).2).Perm ((k : Int) :: (ints l ++ s.2))
  refine (List.Perm.append_left _ (step_perm b s k)).trans ?_
  exact List.perm_middle
theorem keeps (b : List Int) : ∀ (l : List Nat) (s : (Int × Int) × List Int), curOk b s.1 = true → curOk b (l.foldl (stepN b) s).1 = true
 | [], _, h => h
 | k :: l, s, h => keeps b l (stepN b s k) (spec_l1Below.keep h)
theorem keep {b : List Int} {r : Int × Int} {n : Int} (h : curOk b r = true) : curOk b (g b r n).1 = true := keeps b _ _ h
theorem names_of {l : List Int} {n : Nat} (h : l.Perm (ints (List.range n))) : namesK l (n : Int) = true := by
 have hl : l.length = n := by rw [h.length_eq, ints_len, List.length_range]
 have hnd : l.Nodup := by
  refine h.nodup_iff.2 ?_
  unfold ints
  refine List.Pairwise.map _ (fun a b hab => ?_) (List.nodup_range (n := n))
  show ((a : Nat) : Int) ≠ ((b : Nat) : Int)
  omega
 simp only [namesK, Bool.and_eq_true, decide_eq_true_eq]
 refine ⟨by omega, List.all_eq_true.2 fun i hi => ?_⟩
 have hi := List.mem_range.1 hi
 have hm := getD_mem (l := l) (j := i) 0 hi
 have hm2 := h.mem_iff.1 hm
 unfold ints at hm2
 obtain ⟨x, hx, hxe⟩ := List.mem_map.1 hm2
 have hx := List.mem_range.1 hx
 simp only [orderAt, Bool.and_eq_true, inK_iff, Bool.not_eq_true', List.any_eq_false, decide_eq_true_eq]
 refine ⟨by omega, fun y hy e => ?_⟩
 obtain ⟨j, hj, hje⟩ := List.getElem_of_mem hy
 rw [List.length_take] at hj
 rw [List.getElem_take] at hje
 have : l[j]'(by omega) = l[i] := by
  rw [hje, e, List.getD_eq_getElem?_getD, List.getElem?_eq_getElem hi]
  rfl
 exact (List.pairwise_iff_getElem.1 hnd) j i (by omega) hi (by omega) this
theorem names {b : List Int} {r : Int × Int} (n : Nat) : namesK (g b r (n : Int)).2 (n : Int) = true := by
 have := steps_perm b (List.range n) (r, [])
 rw [List.append_nil] at this
 refine names_of ?_
 unfold g
 rw [Int.toNat_natCast]
 exact this
theorem loop {ρ : Type} {N : Nat} {b : List Int} (kk : List Int → List Int → Int → Int → Option ρ) {n : Nat} (hn : n ≤ 5) : ∀ (M k : Nat) (s : (Int × Int) × List Int), k ≤ n → curOk b s.1 = true → s.2.length = k → n - k < M →
  Z8L N kk M s.2 (n : Int) (k : Int) b s.1.1 s.1.2 = kk (((List.range n).drop k).foldl (stepN b) s).2 b (((List.range n).drop k).foldl (stepN b) s).1.1 (((List.range n).drop k).foldl (stepN b) s).1.2 := by
 intro M
 induction M with
 | zero => intro k s _ _ _ h; omega
 | succ M ih =>
  intro k s hk hs hl hM
  simp only [Z8L, Z9]
  by_cases h : k < n
  ·have es : ((s.1.1, s.1.2) : Int × Int) = s.1 := rfl
   have w0 : w64 ((s.2.length : Int) + 1) = (s.2.length : Int) + 1 := w64_id (by omega) (by omega)
   have hr := spec_l1Below.range (b := b) (r := s.1) (n := (s.2.length : Int) + 1) (by omega) (by omega)
   have hP : spec_l1Below.P b s.1 ((s.2.length : Int) + 1) = true := hs
   have hst : stepN b s k = ((spec_l1Below.g b s.1 ((s.2.length : Int) + 1)).1, s.2.take (spec_l1Below.g b s.1 ((s.2.length : Int) + 1)).2.toNat ++ [(k : Int)] ++ s.2.drop (spec_l1Below.g b s.1 ((s.2.length : Int) + 1)).2.toNat) := rfl
   have hstl : (stepN b s k).2.length = k + 1 := by
    have := (step_perm b s k).length_eq
    rw [List.length_cons] at this
    omega
   have hkeep : curOk b (stepN b s k).1 = true := spec_l1Below.keep hs
   rw [ct (dt (by omega)), range_drop h, List.foldl_cons]
   have nxt := ih (k + 1) (stepN b s k) h hkeep hstl (by omega)
   rw [hst] at nxt ⊢
   rw [← nxt]
   simp only [es, w0]
   generalize hx : spec_l1Below.g b s.1 ((s.2.length : Int) + 1) = x at hr
   obtain ⟨q, hq⟩ := Int.eq_ofNat_of_zero_le hr.1
   have hq1 : q ≤ s.2.length := by omega
   have c1 : (leB 0 x.2 && leB x.2 s.2.length) = true := by rw [hq, leB_t (by omega), leB_t (by omega)]; rfl
   have c2 : ∀ l : List Int, l.length ≤ 20 → ∀ m : List Int, m.length ≤ 20 → Nat.blt (l.length + m.length) 1099511627776 = true := fun l h1 m h2 => Nat.ble_eq_true_of_le (by omega)
   have l1 : ((s.2.drop 0).take x.2.toNat).length ≤ 6 := by rw [List.length_take, List.length_drop]; omega
   have l2 : ((s.2.drop x.2.toNat).take ((s.2.length : Int) - x.2).toNat).length ≤ 6 := by rw [List.length_take, List.length_drop]; omega
   have e2 : (s.2.drop x.2.toNat).take ((s.2.length : Int) - x.2).toNat = s.2.drop x.2.toNat := List.take_of_length_le (by rw [List.length_drop]; omega)
   have w1 : w64 ((k : Int) + 1) = ((k + 1 : Nat) : Int) := w64_succ (by rw [maxLen_val]; omega)
   have l3 : (s.2.take x.2.toNat).length ≤ 6 := by rw [List.length_take]; omega
   have l4 : (s.2.drop x.2.toNat).length ≤ 6 := by rw [List.length_drop]; omega
   have d1 := c2 [] (by simp) (s.2.take x.2.toNat) (by omega)
   have d2 := c2 (s.2.take x.2.toNat) (by omega) [(k : Int)] (by simp)
   have d3 := c2 (s.2.take x.2.toNat ++ [(k : Int)]) (by rw [List.length_append, List.length_singleton]; omega) (s.2.drop x.2.toNat) (by omega)
   simp only [lk_eq, hP, c1, d1, d2, d3, cond_true, both_self, w1, e2, List.nil_append, List.drop_zero, hx]
  ·rw [cf (df (by omega)), List.drop_of_length_le (by rw [List.length_range]; omega)]
   rfl
theorem ok : Spec := fun u b r n hb hp => ⟨10, fun N hN => by
 simp only [P, Bool.and_eq_true, inK_iff] at hp
 obtain ⟨h, h0, h5⟩ := hp
 obtain ⟨k, rfl⟩ := Int.eq_ofNat_of_zero_le h0
 simp only [Z0, Z1, Z2, Z3, Z4, Z5, Z6, Z7, Z8]
 refine (loop _ (by omega) N 0 (r, []) (Nat.zero_le _) h rfl (by omega)).trans ?_
 rw [List.drop_zero]
 rfl⟩
end spec_dNames
end
end Go.Fw
namespace Go.Fw
section
variable {ρ : Type}
namespace spec_l1Rename
def P (m : Int × Int × List Int) (names : List Int) : Bool := dimK m && namesK names m.1
def g (m : Int × Int × List Int) (names : List Int) : Int × Int × List Int := renK m names
end spec_l1Rename
namespace spec_l1Rename
def Z1 {ρ : Type} (N : Nat) (a : MT) (b : LI) (kn : LI → I2 (LI → I2 (Option ρ))) : Option ρ :=
 kn b a.1 a.2.1 a.2.2 0 0
def Z3 {ρ : Type} (N : Nat) (d : LI) (a b : Int) (c : LI) (e f : Int) (kn : LI → LI → I2 (LI → I4 (Option ρ))) : Option ρ :=
 cond (lk N (spec_l1CopyMatrix.P (a, (b, c)))) (
  kn (spec_l1CopyMatrix.g (a, (b, c))).2.2 d a b c e f (spec_l1CopyMatrix.g (a, (b, c))).1 (spec_l1CopyMatrix.g (a, (b, c))).2.1) none
def Z6 {ρ : Type} (N : Nat) (a b : LI) (c d : Int) (e : LI) (f g h i : Int) (kn : LI → LI → I3 (LI → I4 (Option ρ))) : Option ρ :=
 kn a b 0 c d e f g h i
def Z10 {ρ : Type} (N : Nat) (a h : LI) (b i c : Int) (j : LI) (d e f g : Int) (kn : LI → LI → I3 (LI → I4 (Option ρ))) (k0 : LI → I4 (Option ρ)) : Option ρ :=
 cond (lk N (decide (b < c)))
 (
  kn a h b i c j d e f g)
 (
  k0 a d e f g)
def Z14 {ρ : Type} (N : Nat) (b c : LI) (a d e : Int) (f : LI) (g h i j : Int) (kn : LI → LI → I4 (LI → I4 (Option ρ))) : Option ρ :=
 kn b c a a d e f g h i j
def Z16 {ρ : Type} (N : Nat) (d b : LI) (a l c e : Int) (f : LI) (g h i j : Int) (kn : LI → LI → I4 (LI → I4 (Option ρ))) : Option ρ :=
 cond (lk N (decide (a < c)))
 (
  cond (lk N (inB a b.length)) (
   kn d b a (b.getD a.toNat 0) c e f g h i j) none)
 (
  kn d b a l c e f g h i j)
def Z18 {ρ : Type} (N : Nat) (a b : LI) (c d e f : Int) (g : LI) (h i j l : Int) (kn : LI → LI → I5 (LI → I4 (Option ρ))) : Option ρ :=
 kn a b c d 0 e f g h i j l
def Z21 {ρ : Type} (N : Nat) (h c : LI) (d i a b e : Int) (f : LI) (j l m o : Int) (kn : LI → LI → I5 (LI → I4 (Option ρ))) (k2 : LI → LI → I3 (LI → I4 (Option ρ))) : Option ρ :=
 cond (lk N (decide (a < b)))
 (
  cond (lk N (inB a c.length)) (
   cond (lk N (spec_l1At.P (b, (e, f)) d a)) (
    cond (lk N (inB (w64 ((w64 (i * b)) + (c.getD a.toNat 0))) h.length)) (
     kn (h.set (w64 ((w64 (i * b)) + (c.getD a.toNat 0))).toNat (spec_l1At.g (b, (e, f)) d a)) c d i (w64 (a + 1)) b e f j l m o) none) none) none)
 (
  k2 h c d b e f j l m o)
def Z20L {ρ : Type} (N : Nat) (k2 : LI → LI → I3 (LI → I4 (Option ρ))) : Nat → LI → LI → Int → Int → Int → Int → Int → LI → Int → Int → Int → Int → Option ρ
 | 0, _, _, _, _, _, _, _, _, _, _, _, _ => none
 | M + 1, a, b, c, d, e, f, g, h, i, j, l, m => Z21 N a b c d e f g h i j l m (fun a b c d e f g h i j l m => Z20L N k2 M a b c d e f g h i j l m) k2
def Z20 N a b c d e f g h i j l m k2 := (Z20L N k2 N a b c d e f g h i j l m : Option ρ)
def Z19 N a b c d e f g h i j l m kn := (Z20 N a b c d e f g h i j l m kn : Option ρ)
def Z17 N a b c d e f g h i j l kn := (Z18 N a b c d e f g h i j l (fun a b c d m e f g h i j l => Z19 N a b c d m e f g h i j l kn) : Option ρ)
def Z15 N a b c d e f g h i j l kn := (Z16 N a b c d e f g h i j l (fun a b c d e f g h i j l => Z17 N a b c d e f g h i j l kn) : Option ρ)
def Z13 N a b c d e f g h i j kn := (Z14 N a b c d e f g h i j (fun a b c l d e f g h i j => Z15 N a b c l d e f g h i j kn) : Option ρ)
def Z12 N a b c d e f g h i j kn := (Z13 N a b c d e f g h i j kn : Option ρ)
def Z22 {ρ : Type} (N : Nat) (a b : LI) (c d e : Int) (f : LI) (g h i j : Int) (kn : LI → LI → I3 (LI → I4 (Option ρ))) : Option ρ :=
 kn a b (w64 (c + 1)) d e f g h i j
def Z11 N a b c d e f g h i j kn := (Z12 N a b c d e f g h i j (fun a b c d e f g h i j => Z22 N a b c d e f g h i j kn) : Option ρ)
def Z9 N a b c d e f g h i j kn k0 := (Z10 N a b c d e f g h i j (fun a b c d e f g h i j => Z11 N a b c d e f g h i j kn) k0 : Option ρ)
def Z8L {ρ : Type} (N : Nat) (k0 : LI → I4 (Option ρ)) : Nat → LI → LI → Int → Int → Int → LI → Int → Int → Int → Int → Option ρ
 | 0, _, _, _, _, _, _, _, _, _, _ => none
 | M + 1, a, b, c, d, e, f, g, h, i, j => Z9 N a b c d e f g h i j (fun a b c d e f g h i j => Z8L N k0 M a b c d e f g h i j) k0
def Z8 N a b c d e f g h i j k0 := (Z8L N k0 N a b c d e f g h i j : Option ρ)
def Z7 N a b c d e f g h i j kn := (Z8 N a b c d e f g h i j kn : Option ρ)
def Z5 N a b c d e f g h i kn := (Z6 N a b c d e f g h i (fun a b j c d e f g h i => Z7 N a b j c d e f g h i kn) : Option ρ)
def Z23 {ρ : Type} (N : Nat) (a : LI) (d e b c : Int) (kr : LI → I2 (Option ρ)) : Option ρ :=
 kr a b c
def Z4 N a f g h i b c d e kr := (Z5 N a f g h i b c d e (fun a b c d e => Z23 N a b c d e kr) : Option ρ)
def Z2 N a b c d e f kr := (Z3 N a b c d e f (fun g a b c d e f h i => Z4 N g a b c d e f h i kr) : Option ρ)
def Z0 N b a kr := (Z1 N b a (fun a c d e f g => Z2 N a c d e f g kr) : Option ρ)
def Spec : Prop := ∀  (v0 : MT) (v1 : LI), Ty.bd (.pair (.int .i64) (.pair (.int .i64) (.sl 0 (.int .i64)))) v0 → Ty.bd (.sl 0 (.int .i64)) v1 → P v0 v1 = true → ∃ N0, ∀ N, N0 ≤ N → Z0 N v0 v1 (fun v4_2 v4_0 v4_1 => some ((), ((v4_0, (v4_1, v4_2)), ()))) = some ((), ((g v0 v1), ()))
section
variable {ρ : Type} {N : Nat} {m : Int × Int × List Int} {L : List Nat}
theorem at_g (hd : 0 ≤ m.1) (a b : Nat) : spec_l1At.g (m.1, (m.2.1, m.2.2)) (a : Int) (b : Int) = ent m a b := atK_nat hd a b
theorem at_p (hd : dimK m = true) {a b : Nat} (ha : a < m.2.1.toNat) (hb : b < m.1.toNat) : spec_l1At.P (m.1, (m.2.1, m.2.2)) (a : Int) (b : Int) = true := at_ok hd ha hb
def cur (m : Int × Int × List Int) (L : List Nat) (st : List Int) (t : Nat) : List Int := scat m.2.2.length t (backN m.1.toNat L) (fun p => m.2.2.getD (backN m.1.toNat L p) 0) (fun p => st.getD p 0)
theorem inner (hd : dimK m = true) (h1 : L.Nodup) (h2 : ∀ x ∈ L, x < m.1.toNat) (h3 : L.length = m.1.toNat) (st : List Int) (k2 : List Int → List Int → Int → Int → Int → List Int → Int → Int → Int → Int → Option ρ) (t0 t1 o0 o1 : Int) {i : Nat} (hi : i < m.2.1.toNat) : ∀ (M j : Nat), j ≤ m.1.toNat → m.1.toNat - j < M →
  Z20L N k2 M (cur m L st (i * m.1.toNat + j)) (ints L) (i : Int) ((rowN m.1.toNat L i : Nat) : Int) (j : Int) m.1 m.2.1 m.2.2 t0 t1 o0 o1 = k2 (cur m L st (i * m.1.toNat + m.1.toNat)) (ints L) (i : Int) m.1 m.2.1 m.2.2 t0 t1 o0 o1 := by
 obtain ⟨n, r, hn, hr, hn1, hn5, hnr, hr8, hl⟩ := dim_nat hd
 have hnr' : m.1.toNat ≤ m.2.1.toNat := by omega
 intro M
 induction M with
 | zero => intro j _ h; omega
 | succ M ih =>
  intro j hj hM
  simp only [Z20L, Z21]
  by_cases h : j < m.1.toNat
  ·have hx := h2 _ (getD_mem (l := L) (j := j) 0 (by omega))
   have hrow := rowN_lt h1 h2 h3 hnr' hi
   have hlt : rowN m.1.toNat L i * m.1.toNat + L.getD j 0 < m.2.2.length := by
    have := ent_lt (n := m.1.toNat) (r := m.2.1.toNat) hrow hx
    rw [hl]
    have e : m.2.1.toNat * m.1.toNat = r * n := by rw [hn, hr]; rfl
    omega
   have hidx : w64 (w64 (((rowN m.1.toNat L i : Nat) : Int) * m.1) + ((L.getD j 0 : Nat) : Int)) = ((rowN m.1.toNat L i * m.1.toNat + L.getD j 0 : Nat) : Int) := by
    have e : ((rowN m.1.toNat L i : Nat) : Int) * m.1 = ((rowN m.1.toNat L i * m.1.toNat : Nat) : Int) := by rw [hn, Int.natCast_mul]; simp
    have hb : rowN m.1.toNat L i * m.1.toNat ≤ 8 * 5 := Nat.mul_le_mul (by omega) (by omega)
    have e2 : w64 (((rowN m.1.toNat L i * m.1.toNat : Nat) : Int)) = ((rowN m.1.toNat L i * m.1.toNat : Nat) : Int) := w64_id (by omega) (by omega)
    rw [e, e2, w64_id (by omega) (by omega)]
    omega
   have hset : (cur m L st (i * m.1.toNat + j)).set (rowN m.1.toNat L i * m.1.toNat + L.getD j 0) (ent m i j) = cur m L st (i * m.1.toNat + (j + 1)) := by
    have e := scat_set (total := m.2.2.length) (t := i * m.1.toNat + j) (p := rowN m.1.toNat L i * m.1.toNat + L.getD j 0) (back := backN m.1.toNat L) (F := fun p => m.2.2.getD (backN m.1.toNat L p) 0) (G := fun p => st.getD p 0) hlt (back_fwd h1 h2 h3 hnr' h) (fun q _ hq => back_inj h1 h2 h3 hnr' h hq)
    simp only [back_fwd h1 h2 h3 hnr' h] at e
    exact e
   rw [ct (dt (by omega)), ct (inB_nat (by rw [ints_len]; omega)), ct (at_p hd hi h)]
   simp only [Int.toNat_natCast, ints_getD, hidx]
   rw [ct (inB_nat (by rw [cur, scat_len]; exact hlt)), at_g (by omega), hset, w64_succ (by rw [maxLen_val]; omega)]
   exact ih (j + 1) h (by omega)
  ·rw [cf (df (by omega)), show j = m.1.toNat by omega]
theorem outer (hN : 10 ≤ N) (hd : dimK m = true) (h1 : L.Nodup) (h2 : ∀ x ∈ L, x < m.1.toNat) (h3 : L.length = m.1.toNat) (st : List Int) (k0 : List Int → Int → Int → Int → Int → Option ρ) (t0 t1 o0 o1 : Int) : ∀ (M i : Nat), i ≤ m.2.1.toNat → m.2.1.toNat - i < M →
  Z8L N k0 M (cur m L st (i * m.1.toNat)) (ints L) (i : Int) m.1 m.2.1 m.2.2 t0 t1 o0 o1 = k0 (cur m L st (m.2.1.toNat * m.1.toNat)) t0 t1 o0 o1 := by
 obtain ⟨n, r, hn, hr, hn1, hn5, hnr, hr8, hl⟩ := dim_nat hd
 intro M
 induction M with
 | zero => intro i _ h; omega
 | succ M ih =>
  intro i hi hM
  simp only [Z8L, Z9, Z10]
  by_cases h : i < m.2.1.toNat
  ·have hin := inner (ρ := ρ) (N := N) hd h1 h2 h3 st (fun out5_2 names1 i6 m2_0 m2_1 m2_2 t4_0 t4_1 out5_0 out5_1 => Z22 N out5_2 names1 i6 m2_0 m2_1 m2_2 t4_0 t4_1 out5_0 out5_1 (fun out5_2 names1 i6 m2_0 m2_1 m2_2 t4_0 t4_1 out5_0 out5_1 => Z8L N k0 M out5_2 names1 i6 m2_0 m2_1 m2_2 t4_0 t4_1 out5_0 out5_1)) t0 t1 o0 o1 h N 0 (by omega) (by omega)
   rw [show ((0 : Nat) : Int) = 0 from rfl, Nat.add_zero] at hin
   have hnext := ih (i + 1) h (by omega)
   rw [Nat.add_mul, Nat.one_mul] at hnext
   rw [ct (dt (by omega))]
   simp only [Z11, Z12, Z13, Z14, Z15, Z16]
   by_cases hin' : i < m.1.toNat
   ·rw [ct (dt (by omega)), ct (inB_nat (by rw [ints_len]; omega)), Int.toNat_natCast, ints_getD]
    rw [rowN, if_pos hin'] at hin
    simp only [Z17, Z18, Z19, Z20]
    rw [hin]
    simp only [Z22]
    rw [w64_succ (by rw [maxLen_val]; omega)]
    exact hnext
   ·rw [cf (df (by omega))]
    rw [rowN, if_neg hin'] at hin
    simp only [Z17, Z18, Z19, Z20]
    rw [hin]
    simp only [Z22]
    rw [w64_succ (by rw [maxLen_val]; omega)]
    exact hnext
  ·rw [cf (df (by omega)), show i = m.2.1.toNat by omega]
theorem cur_start (L : List Nat) : cur m L m.2.2 0 = m.2.2 := by
 unfold cur
 rw [scat_zero]
 exact list_map 0 rfl
theorem cur_end (hd : dimK m = true) (h1 : L.Nodup) (h2 : ∀ x ∈ L, x < m.1.toNat) (h3 : L.length = m.1.toNat) (st : List Int) : cur m L st (m.2.1.toNat * m.1.toNat) = (renK m (ints L)).2.2 := by
 obtain ⟨n, r, hn, hr, hn1, hn5, hnr, hr8, hl⟩ := dim_nat hd
 have e : m.2.1.toNat * m.1.toNat = m.2.2.length := by rw [hl, hn, hr]; simp
 rw [e]
 unfold cur renK
 rw [toNat_ints]
 exact scat_full (fun p hp => by
  have := back_lt h1 h2 h3 (r := m.2.1.toNat) (by omega) (by omega) (q := p) (by omega)
  omega)
end
theorem ok : Spec := fun m names hb hv hp => ⟨10, fun N hN => by
 simp only [P, Bool.and_eq_true] at hp
 obtain ⟨hd, hnm⟩ := hp
 obtain ⟨L, rfl, h1, h2, h3⟩ := names_nat hnm
 obtain ⟨n, r, hn, hr, hn1, hn5, hnr, hr8, hl⟩ := dim_nat hd
 have hlen : m.2.2.length ≤ 8 * 5 := by rw [hl]; exact Nat.mul_le_mul hr8 hn5
 simp only [Z0, Z1, Z2, Z3]
 rw [ct (show spec_l1CopyMatrix.P (m.1, (m.2.1, m.2.2)) = true from dt (show m.2.2.length < 1099511627776 by omega))]
 simp only [Z4, Z5, Z6, Z7, Z8]
 have := outer (ρ := Unit × (Int × Int × List Int) × Unit) hN hd h1 h2 h3 m.2.2 (fun out5_2 t4_0 t4_1 out5_0 out5_1 => Z23 N out5_2 t4_0 t4_1 out5_0 out5_1 (fun t4_2 t4_0 t4_1 => some ((), ((t4_0, (t4_1, t4_2)), ())))) 0 0 m.1 m.2.1 N 0 (by omega) (by omega)
 rw [Nat.zero_mul, cur_start, cur_end hd h1 h2 h3] at this
 exact this⟩
end spec_l1Rename
end
end Go.Fw
namespace Go.Fw
section
variable {ρ : Type}
namespace spec_dMoved
def P (b : List Int) (r : Int × Int) (m : Int × Int × List Int) : Bool := curOk b r && dimK m
abbrev S := (Int × Int) × (Int × Int × List Int)
def moveS (b : List Int) (s : S) : S :=
 ((spec_l1Below.g b s.1 s.2.1).1, if (spec_MutateMatrix.g s.2 (spec_l1Below.g b s.1 s.2.1).2).2 = true then (spec_MutateMatrix.g s.2 (spec_l1Below.g b s.1 s.2.1).2).1 else s.2)
def walkS (b : List Int) : Nat → S → S
 | 0, s => s
 | n + 1, s => walkS b n (moveS b s)
def walked (b : List Int) (r : Int × Int) (m : Int × Int × List Int) : S := walkS b (spec_l1Below.g b r 4).2.toNat ((spec_l1Below.g b r 4).1, m)
def g (b : List Int) (r : Int × Int) (m : Int × Int × List Int) : (Int × Int) × (Int × Int × List Int) :=
 ((spec_dNames.g b (walked b r m).1 (walked b r m).2.1).1, spec_l1Rename.g (walked b r m).2 (spec_dNames.g b (walked b r m).1 (walked b r m).2.1).2)
end spec_dMoved
namespace spec_dMoved
def Z1 {ρ : Type} (N : Nat) (b0 : List Int) (r0 : Int × Int) (a : MT) (kn : List Int → I4 (LI → I2 (Option ρ))) : Option ρ :=
 kn b0 r0.1 r0.2 a.1 a.2.1 a.2.2 0 0
def Z3 {ρ : Type} (N : Nat) (a : List Int) (b c d e : Int) (f : LI) (h i : Int) (kn : Int → List Int → I4 (LI → I2 (Option ρ))) : Option ρ :=
 cond (lk N (spec_l1Below.P a (b, c) 4)) (
  kn (spec_l1Below.g a (b, c) 4).2 a (spec_l1Below.g a (b, c) 4).1.1 (spec_l1Below.g a (b, c) 4).1.2 d e f h i) none
def Z6 {ρ : Type} (N : Nat) (a : Int) (b : List Int) (c d e f : Int) (g : LI) (h i : Int) (kn : I2 (List Int → I4 (LI → I2 (Option ρ)))) : Option ρ :=
 kn a 0 b c d e f g h i
def Z9 {ρ : Type} (N : Nat) (c d : Int) (a : List Int) (e f b h : Int) (i : LI) (j l : Int) (kn : I2 (List Int → I4 (LI → I2 (Option ρ)))) (k0 : List Int → I4 (LI → I2 (Option ρ))) : Option ρ :=
 let x1_ := (spec_l1Below.g a (e, f) b)
 let x2_ := (spec_MutateMatrix.g (b, (h, i)) x1_.2)
 let x3_ := (lk N (spec_l1Below.P a (e, f) b))
 let x0_ := (
   cond (lk N (x2_.2))
   (
   kn c (w64 (d + 1)) a x1_.1.1 x1_.1.2 x2_.1.1 x2_.1.2.1 x2_.1.2.2 j l)
   (
   kn c (w64 (d + 1)) a x1_.1.1 x1_.1.2 b h i j l))
 cond (lk N (decide (d < c)))
 (
 both (
 both (
 cond x3_ (
 bo x0_) none)
 (
 cond x3_ x0_ none))
 (
 both (
 cond x3_ (
 both (
 bo x0_)
 x0_) none)
 (
 bo (
 cond x3_ x0_ none))))
 (
 k0 a e f b h i j l)
def Z8L {ρ : Type} (N : Nat) (k0 : List Int → I4 (LI → I2 (Option ρ))) : Nat → Int → Int → List Int → Int → Int → Int → Int → LI → Int → Int → Option ρ
 | 0, _, _, _, _, _, _, _, _, _, _ => none
 | M + 1, a, b, c, d, e, f, g, h, i, j => Z9 N a b c d e f g h i j (fun a b c d e f g h i j => Z8L N k0 M a b c d e f g h i j) k0
def Z8 N a b c d e f g h i j k0 := (Z8L N k0 N a b c d e f g h i j : Option ρ)
def Z7 N a b c d e f g h i j kn := (Z8 N a b c d e f g h i j kn : Option ρ)
def Z5 N a b c d e f g h i kn := (Z6 N a b c d e f g h i (fun a j b c d e f g h i => Z7 N a j b c d e f g h i kn) : Option ρ)
def Z10 {ρ : Type} (N : Nat) (b : List Int) (c d a e : Int) (f : LI) (h i : Int) (kr : LI → I2 (List Int → I2 (Option ρ))) : Option ρ :=
 bo (
  cond (lk N (spec_dNames.P b (c, d) a)) (
   cond (lk N (spec_l1Rename.P (a, (e, f)) (spec_dNames.g b (c, d) a).2)) (
    kr (spec_l1Rename.g (a, (e, f)) (spec_dNames.g b (c, d) a).2).2.2 (spec_l1Rename.g (a, (e, f)) (spec_dNames.g b (c, d) a).2).1 (spec_l1Rename.g (a, (e, f)) (spec_dNames.g b (c, d) a).2).2.1 b (spec_dNames.g b (c, d) a).1.1 (spec_dNames.g b (c, d) a).1.2) none) none)
def Z4 N i a b c d e f g h kr := (Z5 N i a b c d e f g h (fun a b c d e f g h => Z10 N a b c d e f g h kr) : Option ρ)
def Z2 N a b c d e f g h kr := (Z3 N a b c d e f g h (fun i a b c d e f g h => Z4 N i a b c d e f g h kr) : Option ρ)
def Z0 N b0 r0 a kr := (Z1 N b0 r0 a (fun b c d e f g h i => Z2 N b c d e f g h i kr) : Option ρ)
def Spec : Prop := ∀ {U : Type} (u : U) (b0 : List Int) (r0 : Int × Int) (v1 : MT), Ty.bd (.sl 0 (.int .u8)) b0 → Ty.bd (.pair (.int .i64) (.pair (.int .i64) (.sl 0 (.int .i64)))) v1 → P b0 r0 v1 = true → ∃ N0, ∀ N, N0 ≤ N → Z0 N b0 r0 v1 (fun v4_2 v4_0 v4_1 w0_0 w0_1 w0_2 => some (u, ((w0_1, w0_2), ((), ((v4_0, (v4_1, v4_2)), ()))))) = some (u, ((g b0 r0 v1).1, ((), ((g b0 r0 v1).2, ()))))
theorem mut_step {m : Int × Int × List Int} {k : Int} (h : (spec_MutateMatrix.g m k).2 = true) : (spec_MutateMatrix.g m k).1 = mutK m k.toNat := by
 unfold spec_MutateMatrix.g at h ⊢
 split at h
 ·rename_i hc
  rw [if_pos hc]
 ·cases h
structure J (b : List Int) (n q : Int) (s : S) : Prop where
 cur : curOk b s.1 = true
 dim : dimK s.2 = true
 hn : s.2.1 = n
 hr : s.2.2.1 = q
theorem J.move {b : List Int} {n q : Int} {s : S} (h : J b n q s) : J b n q (moveS b s) := by
 unfold moveS
 by_cases hc : (spec_MutateMatrix.g s.2 (spec_l1Below.g b s.1 s.2.1).2).2 = true
 ·rw [if_pos hc, mut_step hc]
  exact ⟨spec_l1Below.keep h.cur, dim_mut h.dim _, h.hn, h.hr⟩
 ·rw [if_neg hc]
  exact ⟨spec_l1Below.keep h.cur, h.dim, h.hn, h.hr⟩
theorem J.walk {b : List Int} {n q : Int} : ∀ (c : Nat) {s : S}, J b n q s → J b n q (walkS b c s)
 | 0, _, h => h
 | c + 1, s, h => J.walk c h.move
theorem walked_J {b : List Int} {r : Int × Int} {m : Int × Int × List Int} (h : curOk b r = true) (hd : dimK m = true) : J b m.1 m.2.1 (walked b r m) :=
 J.walk _ ⟨spec_l1Below.keep h, hd, rfl, rfl⟩
theorem keep {b : List Int} {r : Int × Int} {m : Int × Int × List Int} (h : curOk b r = true) (hd : dimK m = true) : curOk b (g b r m).1 = true := spec_dNames.keep (walked_J h hd).cur
theorem dim {b : List Int} {r : Int × Int} {m : Int × Int × List Int} (h : curOk b r = true) (hd : dimK m = true) : dimK (g b r m).2 = true ∧ (g b r m).2.1 = m.1 ∧ (g b r m).2.2.1 = m.2.1 := by
 have hj := walked_J h hd
 refine ⟨?_, hj.hn, hj.hr⟩
 have := hj.dim
 simpa [dimK, g, spec_l1Rename.g, renK] using this
theorem loop {ρ : Type} {N : Nat} {b : List Int} (kk : List Int → Int → Int → Int → Int → List Int → Int → Int → Option ρ) (t0 t1 n0 q0 : Int) {c : Nat} (hc : c ≤ 5) : ∀ (M i : Nat) (s : S), i ≤ c → J b n0 q0 s → c - i < M →
  Z8L N kk M (c : Int) (i : Int) b s.1.1 s.1.2 s.2.1 s.2.2.1 s.2.2.2 t0 t1 = kk b (walkS b (c - i) s).1.1 (walkS b (c - i) s).1.2 (walkS b (c - i) s).2.1 (walkS b (c - i) s).2.2.1 (walkS b (c - i) s).2.2.2 t0 t1 := by
 intro M
 induction M with
 | zero => intro i s _ _ h; omega
 | succ M ih =>
  intro i s hi hs hM
  simp only [Z8L, Z9]
  by_cases h : i < c
  ·have es : ((s.1.1, s.1.2) : Int × Int) = s.1 := rfl
   have em : ((s.2.1, (s.2.2.1, s.2.2.2)) : Int × Int × List Int) = s.2 := rfl
   have hP : spec_l1Below.P b s.1 s.2.1 = true := hs.cur
   have w1 : w64 ((i : Int) + 1) = ((i + 1 : Nat) : Int) := w64_succ (by rw [maxLen_val]; omega)
   rw [ct (dt (by omega))]
   have nxt := ih (i + 1) (moveS b s) h hs.move (by omega)
   have ec : c - i = (c - (i + 1)) + 1 := by omega
   rw [ec]
   show _ = kk b (walkS b (c - (i + 1)) (moveS b s)).1.1 (walkS b (c - (i + 1)) (moveS b s)).1.2 (walkS b (c - (i + 1)) (moveS b s)).2.1 (walkS b (c - (i + 1)) (moveS b s)).2.2.1 (walkS b (c - (i + 1)) (moveS b s)).2.2.2 t0 t1
   rw [← nxt]
   simp only [lk_eq, es, em, hP, cond_true, both_self, w1]
   unfold moveS
   cases hq : (spec_MutateMatrix.g s.2 (spec_l1Below.g b s.1 s.2.1).2).2
   ·rw [if_neg (by simp)]
    rfl
   ·rw [if_pos rfl]
    rfl
  ·rw [cf (df (by omega)), show c - i = 0 by omega]
   rfl
theorem ok : Spec := fun u b r m hb hbm hp => ⟨10, fun N hN => by
 simp only [P, Bool.and_eq_true] at hp
 obtain ⟨h, hd⟩ := hp
 have h0 := spec_l1Below.keep (n := 4) h
 have p0 : spec_l1Below.P b r 4 = true := h
 have er : ((r.1, r.2) : Int × Int) = r := rfl
 have hr := spec_l1Below.range (b := b) (r := r) (n := 4) (by omega) (by omega)
 simp only [Z0, Z1, Z2, Z3, lk_eq, er, p0, cond_true, Z4, Z5, Z6, Z7, Z8]
 have hj := walked_J h hd
 obtain ⟨c, hc⟩ := Int.eq_ofNat_of_zero_le hr.1
 have hw : walked b r m = walkS b (c - 0) ((spec_l1Below.g b r 4).1, m) := by
  unfold walked
  rw [hc]
  rfl
 rw [hc]
 refine (loop _ 0 0 m.1 m.2.1 (by omega) N 0 ((spec_l1Below.g b r 4).1, m) (Nat.zero_le _) ⟨h0, hd, rfl, rfl⟩ (by omega)).trans ?_
 simp only [g]
 rw [← hw]
 have es : (((walked b r m).1.1, (walked b r m).1.2) : Int × Int) = (walked b r m).1 := rfl
 have em : (((walked b r m).2.1, ((walked b r m).2.2.1, (walked b r m).2.2.2)) : Int × Int × List Int) = (walked b r m).2 := rfl
 obtain ⟨n, q, hn, _, hn1, hn5, _⟩ := dim_nat hj.dim
 have pn : spec_dNames.P b (walked b r m).1 (walked b r m).2.1 = true := by
  simp only [spec_dNames.P, Bool.and_eq_true, inK_iff]
  exact ⟨hj.cur, by omega, by omega⟩
 have hnm : namesK (spec_dNames.g b (walked b r m).1 (walked b r m).2.1).2 (walked b r m).2.1 = true := by
  rw [hn]
  exact spec_dNames.names n
 have pr : spec_l1Rename.P (walked b r m).2 (spec_dNames.g b (walked b r m).1 (walked b r m).2.1).2 = true := by
  simp only [spec_l1Rename.P, Bool.and_eq_true]
  exact ⟨hj.dim, hnm⟩
 simp only [Z10, lk_eq, es, em, pn, pr, cond_true, both_self]⟩
end spec_dMoved
end
end Go.Fw
namespace Go.Fw
section
variable {ρ : Type}
namespace spec_dFinite
def P (b : List Int) (r : Int × Int) (most : Int) : Bool := curOk b r && inK most 1 4
def g (b : List Int) (r : Int × Int) (most : Int) : (Int × Int) × (Int × Int × List Int) × ByteArray :=
 ((spec_dMoved.g b (spec_dTree.g b r most).1 (spec_dTree.g b r most).2.1).1, (spec_dMoved.g b (spec_dTree.g b r most).1 (spec_dTree.g b r most).2.1).2, (spec_dTree.g b r most).2.2)
end spec_dFinite
namespace spec_dFinite
def Z0 {ρ : Type} (N : Nat) (b0 : List Int) (r0 : Int × Int) (a : Int) (kr : LI → ByteArray → I2 (List Int → I2 (Option ρ))) : Option ρ :=
 cond (lk N (spec_dTree.P b0 r0 a)) (
  cond (lk N (spec_dMoved.P b0 (spec_dTree.g b0 r0 a).1 (spec_dTree.g b0 r0 a).2.1)) (
   kr (spec_dMoved.g b0 (spec_dTree.g b0 r0 a).1 (spec_dTree.g b0 r0 a).2.1).2.2.2 (spec_dTree.g b0 r0 a).2.2 (spec_dMoved.g b0 (spec_dTree.g b0 r0 a).1 (spec_dTree.g b0 r0 a).2.1).2.1 (spec_dMoved.g b0 (spec_dTree.g b0 r0 a).1 (spec_dTree.g b0 r0 a).2.1).2.2.1 b0 (spec_dMoved.g b0 (spec_dTree.g b0 r0 a).1 (spec_dTree.g b0 r0 a).2.1).1.1 (spec_dMoved.g b0 (spec_dTree.g b0 r0 a).1 (spec_dTree.g b0 r0 a).2.1).1.2) none) none
def Spec : Prop := ∀ {U : Type} (u : U) (b0 : List Int) (r0 : Int × Int) (v1 : Int), Ty.bd (.sl 0 (.int .u8)) b0 → P b0 r0 v1 = true → ∃ N0, ∀ N, N0 ≤ N → Z0 N b0 r0 v1 (fun v4_2 v5 v4_0 v4_1 w0_0 w0_1 w0_2 => some (u, ((w0_1, w0_2), ((), ((v4_0, (v4_1, v4_2)), (v5, ())))))) = some (u, ((g b0 r0 v1).1, ((), ((g b0 r0 v1).2.1, ((g b0 r0 v1).2.2, ())))))
theorem facts {b : List Int} {r : Int × Int} {most : Int} (h : curOk b r = true) (h1 : 1 ≤ most) (h4 : most ≤ 4) : curOk b (g b r most).1 = true ∧ dimK (g b r most).2.1 = true ∧ (g b r most).2.1.1 ≤ 4 ∧ (g b r most).2.1.2.1 = (g b r most).2.1.1 := by
 obtain ⟨q, q1, q4, hj⟩ := spec_dTree.facts h h1 h4
 obtain ⟨d1, d2, d3⟩ := spec_dMoved.dim hj.cur hj.dim
 have e1 := hj.hn
 have e2 := hj.hr
 exact ⟨spec_dMoved.keep hj.cur hj.dim, d1, by show (spec_dMoved.g b _ _).2.1 ≤ 4; rw [d2, e1]; exact q4, by show (spec_dMoved.g b _ _).2.2.1 = (spec_dMoved.g b _ _).2.1; rw [d2, d3, e1, e2]⟩
theorem ok : Spec := fun u b r most hb hp => ⟨0, fun N hN => by
 simp only [P, Bool.and_eq_true, inK_iff] at hp
 obtain ⟨q, q1, q4, hj⟩ := spec_dTree.facts hp.1 hp.2.1 hp.2.2
 have p1 : spec_dTree.P b r most = true := by
  simp only [spec_dTree.P, Bool.and_eq_true, inK_iff]
  exact ⟨hp.1, hp.2⟩
 have p2 : spec_dMoved.P b (spec_dTree.g b r most).1 (spec_dTree.g b r most).2.1 = true := by
  simp only [spec_dMoved.P, Bool.and_eq_true]
  exact ⟨hj.cur, hj.dim⟩
 simp only [Z0, lk_eq, p1, p2, cond_true]
 rfl⟩
end spec_dFinite
end
end Go.Fw
namespace Go.Fw
section
variable {ρ : Type}
namespace spec_dMatrix
def P (b : List Int) (r : Int × Int) : Bool := curOk b r
def g (b : List Int) (r : Int × Int) : (Int × Int) × (Int × Int × List Int) :=
 if (spec_l1Once.g b r 3).2 = true then spec_dWild.g b (spec_l1Once.g b r 3).1 else ((spec_dFinite.g b (spec_l1Once.g b r 3).1 4).1, (spec_dFinite.g b (spec_l1Once.g b r 3).1 4).2.1)
end spec_dMatrix
namespace spec_dMatrix
def Z0 {ρ : Type} (N : Nat) (b0 : List Int) (r0 : Int × Int) (kr : LI → I2 (List Int → I2 (Option ρ))) : Option ρ :=
 cond (lk N (spec_l1Once.P b0 r0 3)) (
  cond (lk N ((spec_l1Once.g b0 r0 3).2))
  (
   cond (lk N (spec_dWild.P b0 (spec_l1Once.g b0 r0 3).1)) (
    kr (spec_dWild.g b0 (spec_l1Once.g b0 r0 3).1).2.2.2 (spec_dWild.g b0 (spec_l1Once.g b0 r0 3).1).2.1 (spec_dWild.g b0 (spec_l1Once.g b0 r0 3).1).2.2.1 b0 (spec_dWild.g b0 (spec_l1Once.g b0 r0 3).1).1.1 (spec_dWild.g b0 (spec_l1Once.g b0 r0 3).1).1.2) none)
  (
   cond (lk N (spec_dFinite.P b0 (spec_l1Once.g b0 r0 3).1 4)) (
    kr (spec_dFinite.g b0 (spec_l1Once.g b0 r0 3).1 4).2.1.2.2 (spec_dFinite.g b0 (spec_l1Once.g b0 r0 3).1 4).2.1.1 (spec_dFinite.g b0 (spec_l1Once.g b0 r0 3).1 4).2.1.2.1 b0 (spec_dFinite.g b0 (spec_l1Once.g b0 r0 3).1 4).1.1 (spec_dFinite.g b0 (spec_l1Once.g b0 r0 3).1 4).1.2) none)) none
def Spec : Prop := ∀ {U : Type} (u : U) (b0 : List Int) (r0 : Int × Int), Ty.bd (.sl 0 (.int .u8)) b0 → P b0 r0 = true → ∃ N0, ∀ N, N0 ≤ N → Z0 N b0 r0 (fun v2_2 v2_0 v2_1 w0_0 w0_1 w0_2 => some (u, ((w0_1, w0_2), ((), ((v2_0, (v2_1, v2_2)), ()))))) = some (u, ((g b0 r0).1, ((), ((g b0 r0).2, ()))))
theorem wild4 (b : List Int) (r : Int × Int) : (spec_dWild.g b r).2.1 ≤ 4 := by
 unfold spec_dWild.g
 split
 ·show (3 : Int) ≤ 4
  decide
 split
 ·show (2 : Int) ≤ 4
  decide
 split
 ·show (3 : Int) ≤ 4
  decide
 ·show (4 : Int) ≤ 4
  decide
theorem facts {b : List Int} {r : Int × Int} (h : curOk b r = true) : curOk b (g b r).1 = true ∧ dimK (g b r).2 = true ∧ (g b r).2.1 ≤ 4 ∧ (g b r).2.2.1 = (g b r).2.1 := by
 have h0 := spec_l1Once.keep (n := 3) h
 unfold g
 split
 ·have := spec_dWild.dim h0
  exact ⟨spec_dWild.keep h0, this.1, wild4 b _, this.2.symm⟩
 ·exact spec_dFinite.facts h0 (by omega) (by omega)
theorem ok : Spec := fun u b r hb hp => ⟨0, fun N hN => by
 have h0 := spec_l1Once.keep (n := 3) hp
 have p0 : spec_l1Once.P b r 3 = true := hp
 have p1 : spec_dWild.P b (spec_l1Once.g b r 3).1 = true := h0
 have p2 : spec_dFinite.P b (spec_l1Once.g b r 3).1 4 = true := by
  simp only [spec_dFinite.P, Bool.and_eq_true, inK_iff]
  exact ⟨h0, by omega, by omega⟩
 simp only [Z0, lk_eq, p0, p1, p2, cond_true, g]
 cases (spec_l1Once.g b r 3).2
 ·rw [if_neg (by simp)]
  rfl
 ·rw [if_pos rfl]
  rfl⟩
end spec_dMatrix
end
end Go.Fw
namespace Go.Fw
section
variable {ρ : Type}
namespace spec_dFrozen
def P (b : List Int) (r : Int × Int) (m : Int × Int × List Int) : Bool := curOk b r && (dimK m && decide (m.2.1 ≤ 6))
abbrev S := (Int × Int) × List Int
def numF (b : List Int) (s : S) : S := ((spec_l1Below.g b s.1 5).1, s.2 ++ [(spec_l1Below.g b s.1 5).2 - 2])
def numsF (b : List Int) : Nat → S → S
 | 0, s => s
 | n + 1, s => numsF b n (numF b s)
def rowsF (b : List Int) (n : Nat) : Nat → S → S
 | 0, s => s
 | c + 1, s => rowsF b n c (numsF b n s)
def res (b : List Int) (r : Int × Int) (m : Int × Int × List Int) : S := rowsF b m.1.toNat (spec_l1Below.g b r 3).2.toNat ((spec_l1Below.g b r 3).1, m.2.2)
def g (b : List Int) (r : Int × Int) (m : Int × Int × List Int) : (Int × Int) × (Int × Int × List Int) := ((res b r m).1, (m.1, m.2.1 + (spec_l1Below.g b r 3).2, (res b r m).2))
end spec_dFrozen
namespace spec_dFrozen
def Z1 {ρ : Type} (N : Nat) (b0 : List Int) (r0 : Int × Int) (a : MT) (kn : List Int → I4 (LI → I2 (Option ρ))) : Option ρ :=
 kn b0 r0.1 r0.2 a.1 a.2.1 a.2.2 0 0
def Z3 {ρ : Type} (N : Nat) (d : List Int) (e f a b : Int) (c : LI) (h i : Int) (kn : LI → List Int → I4 (LI → I4 (Option ρ))) : Option ρ :=
 cond (lk N (spec_l1CopyMatrix.P (a, (b, c)))) (
  kn (spec_l1CopyMatrix.g (a, (b, c))).2.2 d e f a b c h i (spec_l1CopyMatrix.g (a, (b, c))).1 (spec_l1CopyMatrix.g (a, (b, c))).2.1) none
def Z5 {ρ : Type} (N : Nat) (d : LI) (a : List Int) (b c e f : Int) (h : LI) (i j l m : Int) (kn : LI → Int → List Int → I4 (LI → I4 (Option ρ))) : Option ρ :=
 cond (lk N (spec_l1Below.P a (b, c) 3)) (
  kn d (spec_l1Below.g a (b, c) 3).2 a (spec_l1Below.g a (b, c) 3).1.1 (spec_l1Below.g a (b, c) 3).1.2 e f h i j l m) none
def Z8 {ρ : Type} (N : Nat) (a : LI) (b : Int) (c : List Int) (d e f g : Int) (h : LI) (i j l m : Int) (kn : LI → I2 (List Int → I4 (LI → I4 (Option ρ)))) : Option ρ :=
 kn a b 0 c d e f g h i j l m
def Z12 {ρ : Type} (N : Nat) (a : LI) (b c : Int) (d : List Int) (e f l m : Int) (o : LI) (g h i j : Int) (kn : LI → I2 (List Int → I4 (LI → I4 (Option ρ)))) (k0 : LI → I4 (List Int → I2 (Option ρ))) : Option ρ :=
 cond (lk N (decide (c < b)))
 (
  kn a b c d e f l m o g h i j)
 (
  k0 a g h i j d e f)
def Z17 {ρ : Type} (N : Nat) (a : LI) (b c : Int) (d : List Int) (e f g h : Int) (i : LI) (j l m o : Int) (kn : LI → I3 (List Int → I4 (LI → I4 (Option ρ)))) : Option ρ :=
 kn a b c 0 d e f g h i j l m o
def Z20 {ρ : Type} (N : Nat) (d : LI) (f h i : Int) (a : List Int) (b c e j : Int) (l : LI) (m o p q : Int) (kn : LI → I3 (List Int → I4 (LI → I4 (Option ρ)))) (k2 : LI → I2 (List Int → I4 (LI → I4 (Option ρ)))) : Option ρ :=
 cond (lk N (decide (i < e)))
 (
  both (
   cond (lk N (spec_l1Below.P a (b, c) 5)) (
    cond (lk N (Nat.blt (d.length + ([(w64 ((spec_l1Below.g a (b, c) 5).2 - 2))] : List Int).length) 1099511627776)) (
     kn (d ++ ([(w64 ((spec_l1Below.g a (b, c) 5).2 - 2))] : List Int)) f h (w64 (i + 1)) a (spec_l1Below.g a (b, c) 5).1.1 (spec_l1Below.g a (b, c) 5).1.2 e j l m o p q) none) none)
  (
   cond (lk N (spec_l1Below.P a (b, c) 5)) (
    bo (
     cond (lk N (Nat.blt (d.length + ([(w64 ((spec_l1Below.g a (b, c) 5).2 - 2))] : List Int).length) 1099511627776)) (
      kn (d ++ ([(w64 ((spec_l1Below.g a (b, c) 5).2 - 2))] : List Int)) f h (w64 (i + 1)) a (spec_l1Below.g a (b, c) 5).1.1 (spec_l1Below.g a (b, c) 5).1.2 e j l m o p q) none)) none))
 (
  k2 d f h a b c e j l m o p q)
def Z19L {ρ : Type} (N : Nat) (k2 : LI → I2 (List Int → I4 (LI → I4 (Option ρ)))) : Nat → LI → Int → Int → Int → List Int → Int → Int → Int → Int → LI → Int → Int → Int → Int → Option ρ
 | 0, _, _, _, _, _, _, _, _, _, _, _, _, _, _ => none
 | M + 1, a, b, c, d, e, f, g, h, i, j, l, m, o, p => Z20 N a b c d e f g h i j l m o p (fun a b c d e f g h i j l m o p => Z19L N k2 M a b c d e f g h i j l m o p) k2
def Z19 N a b c d e f g h i j l m o p k2 := (Z19L N k2 N a b c d e f g h i j l m o p : Option ρ)
def Z18 N a b c d e f g h i j l m o p kn := (Z19 N a b c d e f g h i j l m o p kn : Option ρ)
def Z16 N a b c d e f g h i j l m o kn := (Z17 N a b c d e f g h i j l m o (fun a b c p d e f g h i j l m o => Z18 N a b c p d e f g h i j l m o kn) : Option ρ)
def Z21 {ρ : Type} (N : Nat) (a : LI) (b c : Int) (d : List Int) (e f g h : Int) (i : LI) (j l m o : Int) (kn : LI → I2 (List Int → I4 (LI → I4 (Option ρ)))) : Option ρ :=
 kn a b c d e f g h i j l m (w64 (o + 1))
def Z15 N a b c d e f g h i j l m o kn := (Z16 N a b c d e f g h i j l m o (fun a b c d e f g h i j l m o => Z21 N a b c d e f g h i j l m o kn) : Option ρ)
def Z14 N a b c d e f g h i j l m o kn := (Z15 N a b c d e f g h i j l m o kn : Option ρ)
def Z22 {ρ : Type} (N : Nat) (a : LI) (b c : Int) (d : List Int) (e f g h : Int) (i : LI) (j l m o : Int) (kn : LI → I2 (List Int → I4 (LI → I4 (Option ρ)))) : Option ρ :=
 kn a b (w64 (c + 1)) d e f g h i j l m o
def Z13 N a b c d e f g h i j l m o kn := (Z14 N a b c d e f g h i j l m o (fun a b c d e f g h i j l m o => Z22 N a b c d e f g h i j l m o kn) : Option ρ)
def Z11 N a b c d e f g h i j l m o kn k0 := (Z12 N a b c d e f g h i j l m o (fun a b c d e f g h i j l m o => Z13 N a b c d e f g h i j l m o kn) k0 : Option ρ)
def Z10L {ρ : Type} (N : Nat) (k0 : LI → I4 (List Int → I2 (Option ρ))) : Nat → LI → Int → Int → List Int → Int → Int → Int → Int → LI → Int → Int → Int → Int → Option ρ
 | 0, _, _, _, _, _, _, _, _, _, _, _, _, _ => none
 | M + 1, a, b, c, d, e, f, g, h, i, j, l, m, o => Z11 N a b c d e f g h i j l m o (fun a b c d e f g h i j l m o => Z10L N k0 M a b c d e f g h i j l m o) k0
def Z10 N a b c d e f g h i j l m o k0 := (Z10L N k0 N a b c d e f g h i j l m o : Option ρ)
def Z9 N a b c d e f g h i j l m o kn := (Z10 N a b c d e f g h i j l m o kn : Option ρ)
def Z7 N a b c d e f g h i j l m kn := (Z8 N a b c d e f g h i j l m (fun a b o c d e f g h i j l m => Z9 N a b o c d e f g h i j l m kn) : Option ρ)
def Z23 {ρ : Type} (N : Nat) (a : LI) (g h b c : Int) (d : List Int) (e f : Int) (kr : LI → I2 (List Int → I2 (Option ρ))) : Option ρ :=
 kr a b c d e f
def Z6 N a i b c d j l m e f g h kr := (Z7 N a i b c d j l m e f g h (fun a e f g h b c d => Z23 N a e f g h b c d kr) : Option ρ)
def Z4 N a b c d e f g h i j l kr := (Z5 N a b c d e f g h i j l (fun a m b c d e f g h i j l => Z6 N a m b c d e f g h i j l kr) : Option ρ)
def Z2 N a b c d e f g h kr := (Z3 N a b c d e f g h (fun i a b c d e f g h j l => Z4 N i a b c d e f g h j l kr) : Option ρ)
def Z0 N b0 r0 a kr := (Z1 N b0 r0 a (fun b c d e f g h i => Z2 N b c d e f g h i kr) : Option ρ)
def Spec : Prop := ∀ {U : Type} (u : U) (b0 : List Int) (r0 : Int × Int) (v1 : MT), Ty.bd (.sl 0 (.int .u8)) b0 → Ty.bd (.pair (.int .i64) (.pair (.int .i64) (.sl 0 (.int .i64)))) v1 → P b0 r0 v1 = true → ∃ N0, ∀ N, N0 ≤ N → Z0 N b0 r0 v1 (fun v4_2 v4_0 v4_1 w0_0 w0_1 w0_2 => some (u, ((w0_1, w0_2), ((), ((v4_0, (v4_1, v4_2)), ()))))) = some (u, ((g b0 r0 v1).1, ((), ((g b0 r0 v1).2, ()))))
theorem nums_ok {b : List Int} : ∀ (n : Nat) {s : S}, curOk b s.1 = true → curOk b (numsF b n s).1 = true ∧ (numsF b n s).2.length = s.2.length + n
 | 0, _, h => ⟨h, rfl⟩
 | n + 1, s, h => by
  have := nums_ok n (s := numF b s) (spec_l1Below.keep h)
  refine ⟨this.1, this.2.trans ?_⟩
  simp [numF]
  omega
theorem rows_ok {b : List Int} {n : Nat} : ∀ (c : Nat) {s : S}, curOk b s.1 = true → curOk b (rowsF b n c s).1 = true ∧ (rowsF b n c s).2.length = s.2.length + c * n
 | 0, _, h => ⟨h, by simp [rowsF]⟩
 | c + 1, s, h => by
  have h1 := nums_ok n (s := s) h
  have := rows_ok (n := n) c (s := numsF b n s) h1.1
  refine ⟨this.1, this.2.trans ?_⟩
  rw [h1.2, Nat.succ_mul]
  omega
theorem keep {b : List Int} {r : Int × Int} {m : Int × Int × List Int} (h : curOk b r = true) : curOk b (g b r m).1 = true := (rows_ok (n := m.1.toNat) _ (spec_l1Below.keep h)).1
theorem dim {b : List Int} {r : Int × Int} {m : Int × Int × List Int} (h : curOk b r = true) (hd : dimK m = true) (h6 : m.2.1 ≤ 6) : dimK (g b r m).2 = true := by
 obtain ⟨n, q, hn, hq, hn1, hn5, hnq, hq8, hl⟩ := dim_nat hd
 have hr := spec_l1Below.range (b := b) (r := r) (n := 3) (by omega) (by omega)
 have hl2 := (rows_ok (b := b) (n := m.1.toNat) (spec_l1Below.g b r 3).2.toNat (s := ((spec_l1Below.g b r 3).1, m.2.2)) (spec_l1Below.keep h)).2
 obtain ⟨c, hc⟩ := Int.eq_ofNat_of_zero_le hr.1
 simp only [dimK, Bool.and_eq_true, inK_iff, decide_eq_true_eq]
 refine ⟨by show 1 ≤ m.1 ∧ m.1 ≤ 5; omega, by show m.1 ≤ m.2.1 + _ ∧ m.2.1 + _ ≤ 8; omega, ?_⟩
 show ((res b r m).2.length : Int) = m.1 * (m.2.1 + (spec_l1Below.g b r 3).2)
 unfold res
 rw [hl2, hc, hn, hq]
 show ((m.2.2.length + (c : Int).toNat * (n : Int).toNat : Nat) : Int) = _
 rw [Int.toNat_natCast, Int.toNat_natCast, hl]
 have : (n : Int) * ((q : Int) + (c : Int)) = ((n * (q + c) : Nat) : Int) := by simp
 rw [this, Nat.mul_add, Nat.mul_comm n q, Nat.mul_comm n c]
theorem inner {ρ : Type} {N : Nat} {b : List Int} (kk : List Int → Int → Int → List Int → Int → Int → Int → Int → List Int → Int → Int → Int → Int → Option ρ) (cn i m1 : Int) (m2 : List Int) (t0 t1 o0 o1 : Int) {n : Nat} (hn : n ≤ 5) : ∀ (M j : Nat) (s : S), j ≤ n → curOk b s.1 = true → s.2.length + (n - j) ≤ 1000 → n - j < M →
  Z19L N kk M s.2 cn i (j : Int) b s.1.1 s.1.2 (n : Int) m1 m2 t0 t1 o0 o1 = kk (numsF b (n - j) s).2 cn i b (numsF b (n - j) s).1.1 (numsF b (n - j) s).1.2 (n : Int) m1 m2 t0 t1 o0 o1 := by
 intro M
 induction M with
 | zero => intro j s _ _ _ h; omega
 | succ M ih =>
  intro j s hj hs hl hM
  simp only [Z19L, Z20]
  by_cases h : j < n
  ·have es : ((s.1.1, s.1.2) : Int × Int) = s.1 := rfl
   have hP : spec_l1Below.P b s.1 5 = true := hs
   have hr := spec_l1Below.range (b := b) (r := s.1) (n := 5) (by omega) (by omega)
   have w0 : w64 ((spec_l1Below.g b s.1 5).2 - 2) = (spec_l1Below.g b s.1 5).2 - 2 := w64_id (by omega) (by omega)
   have w1 : w64 ((j : Int) + 1) = ((j + 1 : Nat) : Int) := w64_succ (by rw [maxLen_val]; omega)
   have c1 : Nat.blt (s.2.length + ([(spec_l1Below.g b s.1 5).2 - 2] : List Int).length) 1099511627776 = true := Nat.ble_eq_true_of_le (by rw [List.length_singleton]; omega)
   have ec : n - j = (n - (j + 1)) + 1 := by omega
   rw [ct (dt (by omega)), ec]
   simp only [lk_eq, es, hP, w0, w1, c1, cond_true, both_self]
   exact ih (j + 1) (numF b s) h (spec_l1Below.keep hs) (by simp [numF]; omega) (by omega)
  ·rw [cf (df (by omega)), show n - j = 0 by omega]
   rfl
theorem outer {ρ : Type} {N : Nat} (hN : 10 ≤ N) {b : List Int} (kk : List Int → Int → Int → Int → Int → List Int → Int → Int → Option ρ) (m1 : Int) (m2 : List Int) (t0 t1 o0 : Int) {n c : Nat} (hn : n ≤ 5) (hc : c ≤ 3) : ∀ (M i : Nat) (o : Int) (s : S), i ≤ c → curOk b s.1 = true → s.2.length + (c - i) * n ≤ 1000 → 0 ≤ o → o + ((c - i : Nat) : Int) ≤ 100 → c - i < M →
  Z10L N kk M s.2 (c : Int) (i : Int) b s.1.1 s.1.2 (n : Int) m1 m2 t0 t1 o0 o = kk (rowsF b n (c - i) s).2 t0 t1 o0 (o + ((c - i : Nat) : Int)) b (rowsF b n (c - i) s).1.1 (rowsF b n (c - i) s).1.2 := by
 intro M
 induction M with
 | zero => intro i o s _ _ _ _ _ h; omega
 | succ M ih =>
  intro i o s hi hs hl ho1 ho2 hM
  simp only [Z10L, Z11, Z12]
  by_cases h : i < c
  ·have ec : c - i = (c - (i + 1)) + 1 := by omega
   rw [ec, Nat.succ_mul] at hl
   have hn2 := (nums_ok n (s := s) hs)
   rw [ct (dt (by omega))]
   simp only [Z13, Z14, Z15, Z16, Z17, Z18, Z19]
   refine (inner _ (c : Int) (i : Int) m1 m2 t0 t1 o0 o hn N 0 s (Nat.zero_le _) hs (by omega) (by omega)).trans ?_
   simp only [Z21, Z22]
   have w1 : w64 ((i : Int) + 1) = ((i + 1 : Nat) : Int) := w64_succ (by rw [maxLen_val]; omega)
   have w2 : w64 (o + 1) = o + 1 := w64_id (by omega) (by omega)
   rw [Nat.sub_zero, w1, w2]
   refine (ih (i + 1) (o + 1) (numsF b n s) h hn2.1 (by rw [hn2.2]; omega) (by omega) (by omega) (by omega)).trans ?_
   rw [ec]
   have : o + 1 + ((c - (i + 1) : Nat) : Int) = o + ((c - (i + 1) + 1 : Nat) : Int) := by omega
   rw [this]
   rfl
  ·rw [cf (df (by omega)), show c - i = 0 by omega]
   simp [rowsF]
theorem ok : Spec := fun u b r m hb hbm hp => ⟨10, fun N hN => by
 simp only [P, Bool.and_eq_true, decide_eq_true_eq] at hp
 obtain ⟨h, hd, h6⟩ := hp
 obtain ⟨n, q, hn, hq, hn1, hn5, hnq, hq8, hl⟩ := dim_nat hd
 have hnq2 : q * n ≤ 8 * 5 := Nat.mul_le_mul hq8 hn5
 have h0 := spec_l1Below.keep (n := 3) h
 have p0 : spec_l1Below.P b r 3 = true := h
 have er : ((r.1, r.2) : Int × Int) = r := rfl
 have em : ((m.1, (m.2.1, m.2.2)) : Int × Int × List Int) = m := rfl
 have hr := spec_l1Below.range (b := b) (r := r) (n := 3) (by omega) (by omega)
 have pc : spec_l1CopyMatrix.P m = true := by
  simp only [spec_l1CopyMatrix.P, spec_l1Ints.P, decide_eq_true_eq]
  omega
 obtain ⟨c, hc⟩ := Int.eq_ofNat_of_zero_le hr.1
 have hcn : c * n ≤ 3 * 5 := Nat.mul_le_mul (by omega) hn5
 simp only [Z0, Z1, Z2, Z3, lk_eq, em, pc, cond_true, Z4, Z5, er, p0, Z6, Z7, Z8, Z9, Z10]
 have key := fun {ρ : Type} (kk : List Int → Int → Int → Int → Int → List Int → Int → Int → Option ρ) => outer (ρ := ρ) (N := N) hN kk m.2.1 m.2.2 0 0 (n : Int) hn5 (c := c) (by omega) N 0 m.2.1 ((spec_l1Below.g b r 3).1, m.2.2) (Nat.zero_le _) h0 (by rw [Nat.sub_zero]; show m.2.2.length + c * n ≤ _; omega) (by omega) (by omega) (by omega)
 rw [← hn] at key
 rw [hc]
 refine (key _).trans ?_
 simp only [Z23, g, res]
 rw [hc, hn]
 rfl⟩
end spec_dFrozen
end
end Go.Fw
namespace Go.Fw
section
variable {ρ : Type}
namespace spec_DrawOrder
def mat (b : List Int) : (Int × Int) × (Int × Int × List Int) := spec_dFrozen.g b (spec_dMatrix.g b (spec_l1New.g b)).1 (spec_dMatrix.g b (spec_l1New.g b)).2
def nam (b : List Int) : (Int × Int) × List Int := spec_dNames.g b (mat b).1 (mat b).2.1
def g (b : List Int) : (Int × Int × List Int) × List Int × Int := ((mat b).2, (nam b).2, (spec_l1Below.g b (nam b).1 (mat b).2.1).2)
end spec_DrawOrder
namespace spec_DrawOrder
def Z0 {ρ : Type} (N : Nat) (a : List Int) (kr : LI → LI → I3 (Option ρ)) : Option ρ :=
 let x3_ := (spec_dMatrix.g a (spec_l1New.g a))
 let x0_ := (spec_dFrozen.g a x3_.1 x3_.2)
 let x2_ := (lk N (spec_dNames.P a x0_.1 x0_.2.1))
 let x4_ := (spec_dNames.g a x0_.1 x0_.2.1)
 let x1_ := (
   cond (lk N (spec_l1Below.P a x4_.1 x0_.2.1)) (
   kr x4_.2 x0_.2.2.2 (spec_l1Below.g a x4_.1 x0_.2.1).2 x0_.2.1 x0_.2.2.1) none)
 cond (lk N (spec_dMatrix.P a (spec_l1New.g a))) (
 cond (lk N (spec_dFrozen.P a x3_.1 x3_.2)) (
 both (
 bo (
 cond x2_ x1_ none))
 (
 both (
 cond x2_ (
 both x1_
 (
 bo x1_)) none)
 (
 both (
 cond x2_ x1_ none)
 (
 cond x2_ (
 bo x1_) none)))) none) none
def Spec : Prop := ∀  (v0 : List Int), Ty.bd (.sl 0 (.int .u8)) v0 → ∃ N0, ∀ N, N0 ≤ N → Z0 N v0 (fun v3 v2_2 v4 v2_0 v2_1 => some ((), ((v2_0, (v2_1, v2_2)), (v3, (v4, ()))))) = some ((), ((g v0).1, ((g v0).2.1, ((g v0).2.2, ()))))
theorem cur0 {b : List Int} (h : b.length ≤ maxLen) : curOk b (spec_l1New.g b) = true := by
 rw [curOk_iff]
 exact ⟨Int.le_refl 0, by show (0 : Int) ≤ _; omega, h⟩
theorem ok : Spec := fun b hb => ⟨0, fun N hN => by
 have h0 := cur0 hb.1
 obtain ⟨h1, d1, n4, hsq⟩ := spec_dMatrix.facts h0
 have p1 : spec_dMatrix.P b (spec_l1New.g b) = true := h0
 have h6 : (spec_dMatrix.g b (spec_l1New.g b)).2.2.1 ≤ 6 := by omega
 have p2 : spec_dFrozen.P b (spec_dMatrix.g b (spec_l1New.g b)).1 (spec_dMatrix.g b (spec_l1New.g b)).2 = true := by
  simp only [spec_dFrozen.P, Bool.and_eq_true, decide_eq_true_eq]
  exact ⟨h1, d1, h6⟩
 have h2 : curOk b (mat b).1 = true := spec_dFrozen.keep h1
 have d2 : dimK (mat b).2 = true := spec_dFrozen.dim h1 d1 h6
 obtain ⟨n, q, hn, _, hn1, hn5, _⟩ := dim_nat d2
 have h3 : curOk b (nam b).1 = true := spec_dNames.keep h2
 have p3 : spec_dNames.P b (mat b).1 (mat b).2.1 = true := by
  simp only [spec_dNames.P, Bool.and_eq_true, inK_iff]
  exact ⟨h2, by omega, by omega⟩
 have p4 : spec_l1Below.P b (nam b).1 (mat b).2.1 = true := h3
 have e1 : spec_dFrozen.g b (spec_dMatrix.g b (spec_l1New.g b)).1 (spec_dMatrix.g b (spec_l1New.g b)).2 = mat b := rfl
 have e2 : spec_dNames.g b (mat b).1 (mat b).2.1 = nam b := rfl
 simp only [Z0, lk_eq, p1, p2, e1, p3, e2, p4, cond_true, both_self]
 rfl⟩
end spec_DrawOrder
end
end Go.Fw
namespace Go.Fw
section
variable {ρ : Type}
namespace impl_within
def g (n low high : Int) : Bool := inK n low high
end impl_within
namespace impl_within
def Z0 {ρ : Type} (N : Nat) (a b c : Int) (kr : Bool → Option ρ) : Option ρ :=
 cond (lk N (decide (b ≤ a)))
 (
  kr (lk N (decide (a ≤ c))))
 (
  kr false)
def Spec : Prop := ∀  (v0 v1 v2 : Int), ∃ N0, ∀ N, N0 ≤ N → Z0 N v0 v1 v2 (fun v6 => some ((), (v6, ()))) = some ((), ((g v0 v1 v2), ()))
theorem ok : Spec := fun n low high => ⟨0, fun N hN => by
 simp only [Z0, lk_eq, g, inK]
 cases decide (low ≤ n) <;> rfl⟩
end impl_within
end
end Go.Fw
namespace Go.Fw
section
variable {ρ : Type}
namespace impl_shaped_1
def g (x : Int) : Bool := !inK x (-99) 99
end impl_shaped_1
namespace impl_shaped_1
def Z0 {ρ : Type} (N : Nat) (a : Int) (kr : Bool → Option ρ) : Option ρ :=
 kr (!(lk N ((impl_within.g a (-99) 99))))
def Spec : Prop := ∀  (v0 : Int), ∃ N0, ∀ N, N0 ≤ N → Z0 N v0 (fun v2 => some ((), (v2, ()))) = some ((), ((g v0), ()))
theorem ok : Spec := fun n => ⟨0, fun N hN => by
 simp only [Z0, g, lk_eq, impl_within.g]⟩
end impl_shaped_1
end
end Go.Fw
namespace Go.Fw
section
variable {ρ : Type}
namespace slices_IndexFunc_int_int_shaped
def go (p : Int → Bool) : List Int → Nat → Int
 | [], _ => -1
 | x :: xs, j => if p x = true then (j : Int) else go p xs (j + 1)
def g (s : List Int) (_ : Unit) : Int := go impl_shaped_1.g s 0
end slices_IndexFunc_int_int_shaped
namespace slices_IndexFunc_int_int_shaped
def Z1 {ρ : Type} (N : Nat) (a : LI) (b : Unit) (kn : LI → Option ρ) : Option ρ :=
 kn a
def Z4 {ρ : Type} (N : Nat) (a : LI) (kn : LI → I2 (Option ρ)) : Option ρ :=
 kn a (a.length : Int) 0
def Z7 {ρ : Type} (N : Nat) (b : LI) (c a : Int) (kn : LI → I2 (Option ρ)) (k0 : Option ρ) (kr : Int → Option ρ) : Option ρ :=
 cond (lk N (decide (a < c)))
 (
  cond (lk N (inB a b.length)) (
   cond (lk N ((impl_shaped_1.g (b.getD a.toNat 0))))
   (
    kr a)
   (
    kn b c (w64 (a + 1)))) none)
 (
  k0)
def Z6L {ρ : Type} (N : Nat) (k0 : Option ρ) (kr : Int → Option ρ) : Nat → LI → Int → Int → Option ρ
 | 0, _, _, _ => none
 | M + 1, a, b, c => Z7 N a b c (fun a b c => Z6L N k0 kr M a b c) k0 kr
def Z6 N a b c k0 kr := (Z6L N k0 kr N a b c : Option ρ)
def Z5 N a b c kn kr := (Z6 N a b c kn kr : Option ρ)
def Z3 N a kn kr := (Z4 N a (fun a b c => Z5 N a b c kn kr) : Option ρ)
def Z8 {ρ : Type} (N : Nat)  (kr : Int → Option ρ) : Option ρ :=
 kr (-1)
def Z2 N a kr := (Z3 N a (Z8 N kr) kr : Option ρ)
def Z0 N a b kr := (Z1 N a b (fun a => Z2 N a kr) : Option ρ)
def Spec : Prop := ∀  (v0 : LI) (v1 : Unit), Ty.bd (.sl 0 (.int .i64)) v0 → ∃ N0, ∀ N, N0 ≤ N → Z0 N v0 v1 (fun v4 => some ((), (v4, ()))) = some ((), ((g v0 v1), ()))
theorem loop {ρ : Type} (N : Nat) (kr : Int → Option ρ) (a : List Int) (ha : a.length ≤ maxLen) : ∀ (M j : Nat), j ≤ a.length → a.length - j < M →
  Z6L N (kr (-1)) kr M a (a.length : Int) (j : Int) = kr (go impl_shaped_1.g (a.drop j) j) := by
 intro M
 induction M with
 | zero => intro j _ h; omega
 | succ M ih =>
  intro j hj hM
  simp only [Z6L, Z7]
  by_cases h : j < a.length
  ·rw [ct (dt (by omega)), ct (inB_nat h), Int.toNat_natCast, w64_succ (by omega), ih (j + 1) h (by omega), drop_getD 0 h, go]
   cases e : impl_shaped_1.g (a.getD j 0)
   ·rw [cf rfl, if_neg (by simp)]
   ·rw [ct rfl, if_pos rfl]
  ·rw [cf (df (by omega)), List.drop_of_length_le (by omega), go]
theorem ok : Spec := fun a _ ha => ⟨a.length + 1, fun N hN => by
 simp only [Z1, Z4, Z7, Z6, Z5, Z3, Z8, Z2, Z0]
 exact (loop N (fun t => some ((), (t, ()))) a ha.1 N 0 (by omega) (by omega)).trans rfl⟩
theorem go_pos (p : Int → Bool) : ∀ (l : List Int) (j : Nat), 0 ≤ go p l j ↔ ∃ x ∈ l, p x = true
 | [], j => by simp [go]
 | x :: xs, j => by
  rw [go]
  by_cases h : p x = true
  ·rw [if_pos h]; simp [h]
  ·rw [if_neg h, go_pos p xs]; simp [h]
end slices_IndexFunc_int_int_shaped
end
end Go.Fw
namespace Go.Fw
section
variable {ρ : Type}
namespace slices_ContainsFunc_int_int_shaped
def g (s : List Int) (_ : Unit) : Bool := s.any impl_shaped_1.g
end slices_ContainsFunc_int_int_shaped
namespace slices_ContainsFunc_int_int_shaped
def Z0 {ρ : Type} (N : Nat) (a : LI) (b : Unit) (kr : Bool → Option ρ) : Option ρ :=
 kr (lk N (decide (0 ≤ (slices_IndexFunc_int_int_shaped.g a ()))))
def Spec : Prop := ∀  (v0 : LI) (v1 : Unit), Ty.bd (.sl 0 (.int .i64)) v0 → ∃ N0, ∀ N, N0 ≤ N → Z0 N v0 v1 (fun v4 => some ((), (v4, ()))) = some ((), ((g v0 v1), ()))
theorem ok : Spec := fun a _ ha => ⟨0, fun N hN => by
 simp only [Z0, lk_eq, g]
 have := (show 0 ≤ slices_IndexFunc_int_int_shaped.g a () ↔ ∃ x ∈ a, impl_shaped_1.g x = true from slices_IndexFunc_int_int_shaped.go_pos impl_shaped_1.g a 0)
 cases e : a.any impl_shaped_1.g
 ·rw [df (fun h => by have := this.1 h; rw [← List.any_eq_true, e] at this; cases this)]
 ·rw [dt (this.2 (List.any_eq_true.1 e))]⟩
end slices_ContainsFunc_int_int_shaped
end
end Go.Fw
namespace Go.Fw
section
variable {ρ : Type}
namespace impl_shaped
def g (m : Int × Int × List Int) : Bool := shapedK m
end impl_shaped
namespace impl_shaped
def Z0 {ρ : Type} (N : Nat) (a : MT) (kr : Bool → Option ρ) : Option ρ :=
 cond (lk N ((impl_within.g a.1 1 5)))
 (
  cond (lk N ((impl_within.g a.2.1 a.1 8)))
  (
   cond (lk N (decide ((a.2.2.length : Int) = (w64 (a.1 * a.2.1)))))
   (
    kr (!(lk N ((slices_ContainsFunc_int_int_shaped.g a.2.2 ())))))
   (
    kr false))
  (
   kr false))
 (
  kr false)
def Spec : Prop := ∀  (v0 : MT), Ty.bd (.pair (.int .i64) (.pair (.int .i64) (.sl 0 (.int .i64)))) v0 → ∃ N0, ∀ N, N0 ≤ N → Z0 N v0 (fun v2 => some ((), (v2, ()))) = some ((), ((g v0), ()))
theorem ok : Spec := fun m hb => ⟨0, fun N hN => by
 simp only [Z0, g, lk_eq, impl_within.g, shapedK, dimK, slices_ContainsFunc_int_int_shaped.g, List.not_any_eq_all_not, entK]
 cases h1 : inK m.1 1 5
 ·rfl
 cases h2 : inK m.2.1 m.1 8
 ·rfl
 have e1 := inK_iff.1 h1
 have e2 := inK_iff.1 h2
 have e3 : 0 ≤ m.1 * m.2.1 := Int.mul_nonneg (by omega) (by omega)
 have e4 : m.1 * m.2.1 ≤ 5 * 8 := Int.mul_le_mul (by omega) (by omega) (by omega) (by omega)
 rw [w64_id (by omega) (by omega)]
 cases h3 : decide ((m.2.2.length : Int) = m.1 * m.2.1)
 ·rfl
 simp [impl_shaped_1.g]⟩
end impl_shaped
end
end Go.Fw
namespace Go.Fw
section
variable {ρ : Type}
namespace impl_Matrix_at
def P (m : Int × Int × List Int) (i j : Int) : Bool := atP m i j
def g (m : Int × Int × List Int) (i j : Int) : Int := atK m i j
end impl_Matrix_at
namespace impl_Matrix_at
def Z0 {ρ : Type} (N : Nat) (a : MT) (b c : Int) (kr : Int → Option ρ) : Option ρ :=
 cond (lk N (inB (w64 ((w64 (b * a.1)) + c)) a.2.2.length)) (
  kr (a.2.2.getD (w64 ((w64 (b * a.1)) + c)).toNat 0)) none
def Spec : Prop := ∀  (v0 : MT) (v1 v2 : Int), Ty.bd (.pair (.int .i64) (.pair (.int .i64) (.sl 0 (.int .i64)))) v0 → P v0 v1 v2 = true → ∃ N0, ∀ N, N0 ≤ N → Z0 N v0 v1 v2 (fun v6 => some ((), (v6, ()))) = some ((), ((g v0 v1 v2), ()))
theorem ok : Spec := fun m i j hb hp => ⟨0, fun N hN => by
 obtain ⟨h1, h2, h3⟩ := at_index hb.2.2.1 hp
 simp only [Z0, g, atK, h1]
 rw [ct (inB_int h2 h3)]⟩
end impl_Matrix_at
end
end Go.Fw
namespace Go.Fw
section
variable {ρ : Type}
namespace impl_gcd
def P (a b : Int) : Bool := decide (0 ≤ a) && (decide (a < 9223372036854775808) && (decide (0 ≤ b) && decide (b < 9223372036854775808)))
def g (a b : Int) : Int := (Int.gcd a b : Int)
end impl_gcd
namespace impl_gcd
def Z1 {ρ : Type} (N : Nat) (a b : Int) (kn : I2 (Option ρ)) : Option ρ :=
 kn a b
def Z5 {ρ : Type} (N : Nat) (b a : Int) (kn : I2 (Option ρ)) (k0 : Int → Option ρ) : Option ρ :=
 cond (lk N (!(decide (a = 0))))
 (
  cond (lk N (!(decide (a = 0)))) (
   kn a (Int.tmod b a)) none)
 (
  k0 b)
def Z4L {ρ : Type} (N : Nat) (k0 : Int → Option ρ) : Nat → Int → Int → Option ρ
 | 0, _, _ => none
 | M + 1, a, b => Z5 N a b (fun a b => Z4L N k0 M a b) k0
def Z4 N a b k0 := (Z4L N k0 N a b : Option ρ)
def Z3 N a b kn := (Z4 N a b kn : Option ρ)
def Z6 {ρ : Type} (N : Nat) (a : Int) (kr : Int → Option ρ) : Option ρ :=
 kr (mx a (w64 (0 - a)))
def Z2 N a b kr := (Z3 N a b (fun a => Z6 N a kr) : Option ρ)
def Z0 N a b kr := (Z1 N a b (fun a b => Z2 N a b kr) : Option ρ)
def Spec : Prop := ∀  (v0 v1 : Int), P v0 v1 = true → ∃ N0, ∀ N, N0 ≤ N → Z0 N v0 v1 (fun v4 => some ((), (v4, ()))) = some ((), ((g v0 v1), ()))
theorem loop {ρ : Type} (N : Nat) (k0 : Int → Option ρ) : ∀ (M : Nat) (a b : Nat), b < M → Z4L N k0 M (a : Int) (b : Int) = k0 (Nat.gcd b a : Nat) := by
 intro M
 induction M with
 | zero => intro a b h; omega
 | succ M ih =>
  intro a b hM
  simp only [Z4L, Z5]
  by_cases h : b = 0
  ·subst h
   rw [cf (by simp), Nat.gcd_zero_left]
  ·rw [ct (nt (by omega)), ct (nt (by omega)), show Int.tmod (a : Int) (b : Int) = ((a % b : Nat) : Int) from rfl, ih _ _ (by have := Nat.mod_lt a (Nat.pos_of_ne_zero h); omega), ← Nat.gcd_rec]
theorem ok : Spec := fun a b hp => ⟨b.toNat + 1, fun N hN => by
 simp only [P, Bool.and_eq_true, decide_eq_true_eq] at hp
 obtain ⟨h1, h2, h3, h4⟩ := hp
 obtain ⟨x, rfl⟩ := Int.eq_ofNat_of_zero_le h1
 obtain ⟨y, rfl⟩ := Int.eq_ofNat_of_zero_le h3
 simp only [Z1, Z5, Z4, Z3, Z6, Z2, Z0, g]
 rw [loop N _ N x y (by omega), Nat.gcd_comm]
 have hl : Nat.gcd x y ≤ max x y := by
  rcases Nat.eq_zero_or_pos x with h | h
  ·subst h; rw [Nat.gcd_zero_left]; omega
  ·have := Nat.gcd_le_left y h; omega
 show some ((), (mx ((Nat.gcd x y : Nat) : Int) (w64 (0 - ((Nat.gcd x y : Nat) : Int))), ())) = some ((), (((Nat.gcd x y : Nat) : Int), ()))
 rw [w64_id (by omega) (by omega), mx_eq]
 congr 3
 omega⟩
end impl_gcd
end
end Go.Fw
namespace Go.Fw
section
variable {ρ : Type}
namespace impl_factors
def P (m : Int × Int × List Int) : Bool := shapedK m
abbrev g (m : Int × Int × List Int) : List Int := facK m
end impl_factors
namespace impl_factors
def Z1 {ρ : Type} (N : Nat) (a : MT) (kn : I2 (LI → Option ρ)) : Option ρ :=
 kn a.1 a.2.1 a.2.2
def Z3 {ρ : Type} (N : Nat) (a b : Int) (c : LI) (kn : LI → LI → I2 (LI → Option ρ)) : Option ρ :=
 bo (
  cond (lk N (leB 0 a && decide (a < 1099511627776))) (
   cond (lk N (leB 0 a && decide (a < 1099511627776))) (
    kn (List.replicate a.toNat (0 : Int)) (List.replicate a.toNat (0 : Int)) a b c) none) none)
def Z5 {ρ : Type} (N : Nat) (b c : LI) (a d : Int) (e : LI) (kn : LI → LI → LI → I2 (LI → Option ρ)) : Option ρ :=
 cond (lk N (leB 0 a && decide (a < 1099511627776))) (
  kn b c (List.replicate a.toNat (0 : Int)) a d e) none
def Z8 {ρ : Type} (N : Nat) (a b c : LI) (d e : Int) (f : LI) (kn : LI → LI → LI → I4 (LI → Option ρ)) : Option ρ :=
 kn a b c (a.length : Int) 0 d e f
def Z12 {ρ : Type} (N : Nat) (c d e : LI) (a b f g : Int) (h : LI) (kn : LI → LI → LI → I2 (Bool → I2 (LI → Option ρ))) : Option ρ :=
 kn c d e a b (lk N (decide (b < a))) f g h
def Z14 {ρ : Type} (N : Nat) (b c a : LI) (d e : Int) (f : Bool) (g h : Int) (i : LI) (kn : LI → LI → LI → I4 (LI → Option ρ)) (k0 : LI → Option ρ) : Option ρ :=
 cond (f)
 (
  kn b c a d e g h i)
 (
  k0 a)
def Z18 {ρ : Type} (N : Nat) (b c d : LI) (e a f g : Int) (h : LI) (kn : LI → LI → LI → I5 (LI → Option ρ)) : Option ρ :=
 kn b c d a e a f g h
def Z20 {ρ : Type} (N : Nat) (a c d : LI) (b e f g h : Int) (i : LI) (kn : LI → LI → LI → I5 (LI → Option ρ)) (k1 : LI → LI → LI → I4 (LI → Option ρ)) : Option ρ :=
 cond (lk N (inB b a.length)) (
  cond (lk N (!(decide ((a.getD b.toNat 0) = 0))))
  (
   k1 a c d e f g h i)
  (
   kn a c d b e f g h i)) none
def Z22 {ρ : Type} (N : Nat) (b c d : LI) (a e f g h : Int) (i : LI) (kn : LI → LI → LI → I5 (LI → Option ρ)) : Option ρ :=
 cond (lk N (inB a b.length)) (
  cond (lk N (inB a c.length)) (
   kn (b.set a.toNat 1) (c.set a.toNat 1) d a e f g h i) none) none
def Z24 {ρ : Type} (N : Nat) (a b c : LI) (d e f g h : Int) (i : LI) (kn : LI → LI → LI → LI → I4 (LI → Option ρ)) : Option ρ :=
 kn a b c ([d] : List Int) e f g h i
def Z27 {ρ : Type} (N : Nat) (a b c d : LI) (e f g h : Int) (i : LI) (kn : LI → LI → LI → LI → I5 (LI → Option ρ)) : Option ρ :=
 kn a b c d 0 e f g h i
def Z31 {ρ : Type} (N : Nat) (b c d a : LI) (e f g h i : Int) (j : LI) (kn : LI → LI → LI → LI → I5 (LI → Option ρ)) (k2 : LI → LI → LI → LI → I4 (LI → Option ρ)) : Option ρ :=
 cond (lk N (decide (e < (a.length : Int))))
 (
  kn b c d a e f g h i j)
 (
  k2 b c d a f g h i j)
def Z35 {ρ : Type} (N : Nat) (c d e a : LI) (b f g h i : Int) (j : LI) (kn : LI → LI → LI → LI → I6 (LI → Option ρ)) : Option ρ :=
 cond (lk N (inB b a.length)) (
  kn c d e a b (a.getD b.toNat 0) f g h i j) none
def Z37 {ρ : Type} (N : Nat) (a b c d : LI) (e f g h i j : Int) (l : LI) (kn : LI → LI → LI → LI → I8 (LI → Option ρ)) : Option ρ :=
 kn a b c d e f g h (a.length : Int) 0 i j l
def Z41 {ρ : Type} (N : Nat) (c d e f : LI) (g h i j a b l m : Int) (o : LI) (kn : LI → LI → LI → LI → I6 (Bool → I2 (LI → Option ρ))) : Option ρ :=
 kn c d e f g h i j a b (lk N (decide (b < a))) l m o
def Z43 {ρ : Type} (N : Nat) (a b c d : LI) (e l f g m o : Int) (p : Bool) (h i : Int) (j : LI) (kn : LI → LI → LI → LI → I8 (LI → Option ρ)) (k4 : LI → LI → LI → LI → I5 (LI → Option ρ)) : Option ρ :=
 cond (p)
 (
  kn a b c d e l f g m o h i j)
 (
  k4 a b c d e f g h i j)
def Z47 {ρ : Type} (N : Nat) (b c d e : LI) (f g h i j a l m : Int) (o : LI) (kn : LI → LI → LI → LI → Int → I8 (LI → Option ρ)) : Option ρ :=
 kn b c d e f g a h i j a l m o
def Z49 {ρ : Type} (N : Nat) (f h i j : LI) (l a b m o p q c d : Int) (e : LI) (kn : LI → LI → LI → LI → I3 (I8 (LI → Option ρ))) : Option ρ :=
 cond (lk N (impl_Matrix_at.P (c, (d, e)) a b)) (
  cond (lk N (impl_Matrix_at.P (c, (d, e)) b a)) (
   kn f h i j l a b (impl_Matrix_at.g (c, (d, e)) a b) (w64 (0 - (impl_Matrix_at.g (c, (d, e)) b a))) m o p q c d e) none) none
def Z51 {ρ : Type} (N : Nat) (a b c d : LI) (e f r g h i j l m o p : Int) (q : LI) (kn : LI → LI → LI → LI → I3 (I8 (LI → Option ρ))) (k5 : LI → LI → LI → LI → I8 (LI → Option ρ)) : Option ρ :=
 cond (lk N (decide (g = 0)))
 (
  cond (lk N (decide (h = 0)))
  (
   k5 a b c d e f i j l m o p q)
  (
   kn a b c d e f r g h i j l m o p q))
 (
  kn a b c d e f r g h i j l m o p q)
def Z52 {ρ : Type} (N : Nat) (b c i h : LI) (j d a e f l m o p q r : Int) (s : LI) (kn : LI → LI → LI → LI → I8 (LI → Option ρ)) (kr : LI → Option ρ) : Option ρ :=
 let x1_ := (w64 ((b.getD d.toNat 0) * (mx e (w64 (0 - e)))))
 let x2_ := (w64 ((c.getD d.toNat 0) * (mx f (w64 (0 - f)))))
 let x0_ := (impl_gcd.g x1_ x2_)
 cond (lk N (decide (e = 0)))
 (
 kr ([] : List Int))
 (
 cond (lk N (decide (f = 0)))
 (
 kr ([] : List Int))
 (
 cond (lk N (!(((lk N (decide (0 < e))) == (lk N (decide (0 < f)))))))
 (
 kr ([] : List Int))
 (
 cond (lk N (decide (d = a)))
 (
 kr ([] : List Int))
 (
 cond (lk N (inB d b.length)) (
 cond (lk N (inB d c.length)) (
 cond (lk N (impl_gcd.P x1_ x2_)) (
 cond (lk N (!(decide (x0_ = 0)))) (
 cond (lk N (!(decide (x0_ = 0)))) (
 cond (lk N (inB a b.length)) (
 cond (lk N (decide ((b.getD a.toNat 0) = 0)))
 (
 cond (lk N (inB a b.length)) (
 cond (lk N (inB a c.length)) (
 cond (lk N (Nat.blt (h.length + ([a] : List Int).length) 1099511627776)) (
 kn (b.set a.toNat (w64 (Int.tdiv x1_ x0_))) (c.set a.toNat (w64 (Int.tdiv x2_ x0_))) i (h ++ ([a] : List Int)) j d l m o p q r s) none) none) none)
 (
 cond (lk N (inB a b.length)) (
 cond (lk N (!(decide ((b.getD a.toNat 0) = (w64 (Int.tdiv x1_ x0_))))))
 (
 kr ([] : List Int))
 (
 cond (lk N (inB a c.length)) (
 cond (lk N (!(decide ((c.getD a.toNat 0) = (w64 (Int.tdiv x2_ x0_))))))
 (
 kr ([] : List Int))
 (
 kn b c i h j d l m o p q r s)) none)) none)) none) none) none) none) none) none))))
def Z50 N a b c d e f g h i j l m o p q r kn k5 kr := (Z51 N a b c d e f g h i j l m o p q r (fun a b c d e f g h i j l m o p q r => Z52 N a b c d e f g h i j l m o p q r kn kr) k5 : Option ρ)
def Z48 N a b c d e f g h i j l m o p kn k5 kr := (Z49 N a b c d e f g h i j l m o p (fun a b c d e f g q r h i j l m o p => Z50 N a b c d e f g q r h i j l m o p kn k5 kr) : Option ρ)
def Z46 N a b c d e f g h i j l m o kn k5 kr := (Z47 N a b c d e f g h i j l m o (fun a b c d e f p g h i j l m o => Z48 N a b c d e f p g h i j l m o kn k5 kr) : Option ρ)
def Z45 N a b c d e f g h i j l m o kn kr := (Z46 N a b c d e f g h i j l m o kn kn kr : Option ρ)
def Z53 {ρ : Type} (N : Nat) (a b c d : LI) (e f g h i j l m : Int) (o : LI) (kn : LI → LI → LI → LI → I8 (LI → Option ρ)) : Option ρ :=
 kn a b c d e f g h i (w64 (j + 1)) l m o
def Z44 N a b c d e f g h i j l m o kn kr := (Z45 N a b c d e f g h i j l m o (fun a b c d e f g h i j l m o => Z53 N a b c d e f g h i j l m o kn) kr : Option ρ)
def Z42 N a b c d e f g h i j p l m o kn k4 kr := (Z43 N a b c d e f g h i j p l m o (fun a b c d e f g h i j l m o => Z44 N a b c d e f g h i j l m o kn kr) k4 : Option ρ)
def Z40 N a b c d e f g h i j l m o kn k4 kr := (Z41 N a b c d e f g h i j l m o (fun a b c d e f g h i j p l m o => Z42 N a b c d e f g h i j p l m o kn k4 kr) : Option ρ)
def Z39L {ρ : Type} (N : Nat) (k4 : LI → LI → LI → LI → I5 (LI → Option ρ)) (kr : LI → Option ρ) : Nat → LI → LI → LI → LI → Int → Int → Int → Int → Int → Int → Int → Int → LI → Option ρ
 | 0, _, _, _, _, _, _, _, _, _, _, _, _, _ => none
 | M + 1, a, b, c, d, e, f, g, h, i, j, l, m, o => Z40 N a b c d e f g h i j l m o (fun a b c d e f g h i j l m o => Z39L N k4 kr M a b c d e f g h i j l m o) k4 kr
def Z39 N a b c d e f g h i j l m o k4 kr := (Z39L N k4 kr N a b c d e f g h i j l m o : Option ρ)
def Z38 N a b c d e f g h i j l m o kn kr := (Z39 N a b c d e f g h i j l m o kn kr : Option ρ)
def Z36 N a b c d e f g h i j l kn kr := (Z37 N a b c d e f g h i j l (fun a b c d e f g h m o i j l => Z38 N a b c d e f g h m o i j l kn kr) : Option ρ)
def Z34 N a b c d e f g h i j kn kr := (Z35 N a b c d e f g h i j (fun a b c d e l f g h i j => Z36 N a b c d e l f g h i j kn kr) : Option ρ)
def Z33 N a b c d e f g h i j kn kr := (Z34 N a b c d e f g h i j kn kr : Option ρ)
def Z54 {ρ : Type} (N : Nat) (a b c d : LI) (e f g h i : Int) (j : LI) (kn : LI → LI → LI → LI → I5 (LI → Option ρ)) : Option ρ :=
 kn a b c d (w64 (e + 1)) f g h i j
def Z32 N a b c d e f g h i j kn kr := (Z33 N a b c d e f g h i j (fun a b c d e f g h i j => Z54 N a b c d e f g h i j kn) kr : Option ρ)
def Z30 N a b c d e f g h i j kn k2 kr := (Z31 N a b c d e f g h i j (fun a b c d e f g h i j => Z32 N a b c d e f g h i j kn kr) k2 : Option ρ)
def Z29L {ρ : Type} (N : Nat) (k2 : LI → LI → LI → LI → I4 (LI → Option ρ)) (kr : LI → Option ρ) : Nat → LI → LI → LI → LI → Int → Int → Int → Int → Int → LI → Option ρ
 | 0, _, _, _, _, _, _, _, _, _, _ => none
 | M + 1, a, b, c, d, e, f, g, h, i, j => Z30 N a b c d e f g h i j (fun a b c d e f g h i j => Z29L N k2 kr M a b c d e f g h i j) k2 kr
def Z29 N a b c d e f g h i j k2 kr := (Z29L N k2 kr N a b c d e f g h i j : Option ρ)
def Z28 N a b c d e f g h i j kn kr := (Z29 N a b c d e f g h i j kn kr : Option ρ)
def Z26 N a b c d e f g h i kn kr := (Z27 N a b c d e f g h i (fun a b c d j e f g h i => Z28 N a b c d j e f g h i kn kr) : Option ρ)
def Z56 {ρ : Type} (N : Nat) (a b c d : LI) (e f g h : Int) (i : LI) (kn : LI → LI → LI → LI → I5 (LI → Option ρ)) : Option ρ :=
 kn a b c d 1 e f g h i
def Z59 {ρ : Type} (N : Nat) (b c d a : LI) (e f g h i : Int) (j : LI) (kn : LI → LI → LI → LI → I7 (LI → Option ρ)) : Option ρ :=
 kn b c d a e f g (a.length : Int) 0 h i j
def Z62 {ρ : Type} (N : Nat) (e c f a : LI) (d h i j b l m : Int) (o : LI) (kn : LI → LI → LI → LI → I7 (LI → Option ρ)) (k6 : LI → LI → LI → LI → I5 (LI → Option ρ)) : Option ρ :=
 cond (lk N (decide (b < j)))
 (
  cond (lk N (inB b a.length)) (
   cond (lk N (inB (a.getD b.toNat 0) c.length)) (
    cond (lk N (inB (a.getD b.toNat 0) c.length)) (
     cond (lk N (impl_gcd.P d (c.getD (a.getD b.toNat 0).toNat 0))) (
      cond (lk N (!(decide ((impl_gcd.g d (c.getD (a.getD b.toNat 0).toNat 0)) = 0)))) (
       kn e c f a (w64 ((w64 (Int.tdiv d (impl_gcd.g d (c.getD (a.getD b.toNat 0).toNat 0)))) * (c.getD (a.getD b.toNat 0).toNat 0))) h i j (w64 (b + 1)) l m o) none) none) none) none) none)
 (
  k6 e c f a d h i l m o)
def Z61L {ρ : Type} (N : Nat) (k6 : LI → LI → LI → LI → I5 (LI → Option ρ)) : Nat → LI → LI → LI → LI → Int → Int → Int → Int → Int → Int → Int → LI → Option ρ
 | 0, _, _, _, _, _, _, _, _, _, _, _, _ => none
 | M + 1, a, b, c, d, e, f, g, h, i, j, l, m => Z62 N a b c d e f g h i j l m (fun a b c d e f g h i j l m => Z61L N k6 M a b c d e f g h i j l m) k6
def Z61 N a b c d e f g h i j l m k6 := (Z61L N k6 N a b c d e f g h i j l m : Option ρ)
def Z60 N a b c d e f g h i j l m kn := (Z61 N a b c d e f g h i j l m kn : Option ρ)
def Z58 N a b c d e f g h i j kn := (Z59 N a b c d e f g h i j (fun a b c d e f g l m h i j => Z60 N a b c d e f g l m h i j kn) : Option ρ)
def Z64 {ρ : Type} (N : Nat) (a b c d : LI) (e f g h i : Int) (j : LI) (kn : LI → LI → LI → LI → I6 (LI → Option ρ)) : Option ρ :=
 kn a b c d e 0 f g h i j
def Z67 {ρ : Type} (N : Nat) (b c d a : LI) (e f g h i j : Int) (l : LI) (kn : LI → LI → LI → LI → I8 (LI → Option ρ)) : Option ρ :=
 kn b c d a e f g h (a.length : Int) 0 i j l
def Z70 {ρ : Type} (N : Nat) (d c e a : LI) (f h i j l b m o : Int) (p : LI) (kn : LI → LI → LI → LI → I8 (LI → Option ρ)) (k8 : LI → LI → LI → LI → I5 (LI → Option ρ)) : Option ρ :=
 cond (lk N (decide (b < l)))
 (
  cond (lk N (inB b a.length)) (
   cond (lk N (inB (a.getD b.toNat 0) c.length)) (
    cond (lk N (!(decide ((c.getD (a.getD b.toNat 0).toNat 0) = 0)))) (
     cond (lk N (inB (a.getD b.toNat 0) d.length)) (
      cond (lk N (inB (a.getD b.toNat 0) e.length)) (
       cond (lk N (inB (a.getD b.toNat 0) (e.set (a.getD b.toNat 0).toNat (w64 ((w64 (Int.tdiv f (c.getD (a.getD b.toNat 0).toNat 0))) * (d.getD (a.getD b.toNat 0).toNat 0)))).length)) (
        cond (lk N (impl_gcd.P h ((e.set (a.getD b.toNat 0).toNat (w64 ((w64 (Int.tdiv f (c.getD (a.getD b.toNat 0).toNat 0))) * (d.getD (a.getD b.toNat 0).toNat 0)))).getD (a.getD b.toNat 0).toNat 0))) (
         kn d c (e.set (a.getD b.toNat 0).toNat (w64 ((w64 (Int.tdiv f (c.getD (a.getD b.toNat 0).toNat 0))) * (d.getD (a.getD b.toNat 0).toNat 0)))) a f (impl_gcd.g h ((e.set (a.getD b.toNat 0).toNat (w64 ((w64 (Int.tdiv f (c.getD (a.getD b.toNat 0).toNat 0))) * (d.getD (a.getD b.toNat 0).toNat 0)))).getD (a.getD b.toNat 0).toNat 0)) i j l (w64 (b + 1)) m o p) none) none) none) none) none) none) none)
 (
  k8 d c e a h i j m o p)
def Z69L {ρ : Type} (N : Nat) (k8 : LI → LI → LI → LI → I5 (LI → Option ρ)) : Nat → LI → LI → LI → LI → Int → Int → Int → Int → Int → Int → Int → Int → LI → Option ρ
 | 0, _, _, _, _, _, _, _, _, _, _, _, _, _ => none
 | M + 1, a, b, c, d, e, f, g, h, i, j, l, m, o => Z70 N a b c d e f g h i j l m o (fun a b c d e f g h i j l m o => Z69L N k8 M a b c d e f g h i j l m o) k8
def Z69 N a b c d e f g h i j l m o k8 := (Z69L N k8 N a b c d e f g h i j l m o : Option ρ)
def Z68 N a b c d e f g h i j l m o kn := (Z69 N a b c d e f g h i j l m o kn : Option ρ)
def Z66 N a b c d e f g h i j l kn := (Z67 N a b c d e f g h i j l (fun a b c d e f g h m o i j l => Z68 N a b c d e f g h m o i j l kn) : Option ρ)
def Z72 {ρ : Type} (N : Nat) (b c d a : LI) (e f g h i : Int) (j : LI) (kn : LI → LI → LI → LI → I7 (LI → Option ρ)) : Option ρ :=
 kn b c d a e f g (a.length : Int) 0 h i j
def Z75 {ρ : Type} (N : Nat) (e f c b : LI) (d g h i a j l : Int) (m : LI) (kn : LI → LI → LI → LI → I7 (LI → Option ρ)) (k10 : LI → LI → LI → I4 (LI → Option ρ)) : Option ρ :=
 cond (lk N (decide (a < i)))
 (
  cond (lk N (inB a b.length)) (
   cond (lk N (inB (b.getD a.toNat 0) c.length)) (
    cond (lk N (!(decide (d = 0)))) (
     cond (lk N (inB (b.getD a.toNat 0) c.length)) (
      kn e f (c.set (b.getD a.toNat 0).toNat (w64 (Int.tdiv (c.getD (b.getD a.toNat 0).toNat 0) d))) b d g h i (w64 (a + 1)) j l m) none) none) none) none)
 (
  k10 e f c g h j l m)
def Z74L {ρ : Type} (N : Nat) (k10 : LI → LI → LI → I4 (LI → Option ρ)) : Nat → LI → LI → LI → LI → Int → Int → Int → Int → Int → Int → Int → LI → Option ρ
 | 0, _, _, _, _, _, _, _, _, _, _, _, _ => none
 | M + 1, a, b, c, d, e, f, g, h, i, j, l, m => Z75 N a b c d e f g h i j l m (fun a b c d e f g h i j l m => Z74L N k10 M a b c d e f g h i j l m) k10
def Z74 N a b c d e f g h i j l m k10 := (Z74L N k10 N a b c d e f g h i j l m : Option ρ)
def Z73 N a b c d e f g h i j l m kn := (Z74 N a b c d e f g h i j l m kn : Option ρ)
def Z71 N a b c j d e f g h i kn := (Z72 N a b c j d e f g h i (fun a b c l d e f m o g h i => Z73 N a b c l d e f m o g h i kn) : Option ρ)
def Z65 N a b c d l e f g h i j kn := (Z66 N a b c d l e f g h i j (fun a b c d e f g h i j => Z71 N a b c d e f g h i j kn) : Option ρ)
def Z63 N a b c d e f g h i j kn := (Z64 N a b c d e f g h i j (fun a b c d e l f g h i j => Z65 N a b c d e l f g h i j kn) : Option ρ)
def Z57 N a b c d e f g h i j kn := (Z58 N a b c d e f g h i j (fun a b c d e f g h i j => Z63 N a b c d e f g h i j kn) : Option ρ)
def Z55 N a b c d e f g h i kn := (Z56 N a b c d e f g h i (fun a b c d j e f g h i => Z57 N a b c d j e f g h i kn) : Option ρ)
def Z25 N a b c d e f g h i kn kr := (Z26 N a b c d e f g h i (fun a b c d e f g h i => Z55 N a b c d e f g h i kn) kr : Option ρ)
def Z23 N a b c i d e f g h kn kr := (Z24 N a b c i d e f g h (fun a b c j d e f g h => Z25 N a b c j d e f g h kn kr) : Option ρ)
def Z21 N a b c d e f g h i kn kr := (Z22 N a b c d e f g h i (fun a b c d e f g h i => Z23 N a b c d e f g h i kn kr) : Option ρ)
def Z19 N a b c d e f g h i kn k1 kr := (Z20 N a b c d e f g h i (fun a b c d e f g h i => Z21 N a b c d e f g h i kn kr) k1 : Option ρ)
def Z17 N a b c d e f g h kn k1 kr := (Z18 N a b c d e f g h (fun a b c i d e f g h => Z19 N a b c i d e f g h kn k1 kr) : Option ρ)
def Z16 N a b c d e f g h kn kr := (Z17 N a b c d e f g h kn kn kr : Option ρ)
def Z76 {ρ : Type} (N : Nat) (a b c : LI) (d e f g : Int) (h : LI) (kn : LI → LI → LI → I4 (LI → Option ρ)) : Option ρ :=
 kn a b c d (w64 (e + 1)) f g h
def Z15 N a b c d e f g h kn kr := (Z16 N a b c d e f g h (fun a b c d e f g h => Z76 N a b c d e f g h kn) kr : Option ρ)
def Z13 N a b c d e i f g h kn k0 kr := (Z14 N a b c d e i f g h (fun a b c d e f g h => Z15 N a b c d e f g h kn kr) k0 : Option ρ)
def Z11 N a b c d e f g h kn k0 kr := (Z12 N a b c d e f g h (fun a b c d e i f g h => Z13 N a b c d e i f g h kn k0 kr) : Option ρ)
def Z10L {ρ : Type} (N : Nat) (k0 kr : LI → Option ρ) : Nat → LI → LI → LI → Int → Int → Int → Int → LI → Option ρ
 | 0, _, _, _, _, _, _, _, _ => none
 | M + 1, a, b, c, d, e, f, g, h => Z11 N a b c d e f g h (fun a b c d e f g h => Z10L N k0 kr M a b c d e f g h) k0 kr
def Z10 N a b c d e f g h k0 kr := (Z10L N k0 kr N a b c d e f g h : Option ρ)
def Z9 N a b c d e f g h kn kr := (Z10 N a b c d e f g h kn kr : Option ρ)
def Z7 N a b c d e f kn kr := (Z8 N a b c d e f (fun a b c g h d e f => Z9 N a b c g h d e f kn kr) : Option ρ)
def Z77 {ρ : Type} (N : Nat) (a : LI) (kr : LI → Option ρ) : Option ρ :=
 cond (Nat.blt 0 a.length) (
  kr a) none
def Z6 N b c a d e f kr := (Z7 N b c a d e f (fun a => Z77 N a kr) kr : Option ρ)
def Z4 N a b c d e kr := (Z5 N a b c d e (fun a b f c d e => Z6 N a b f c d e kr) : Option ρ)
def Z2 N a b c kr := (Z3 N a b c (fun d e a b c => Z4 N d e a b c kr) : Option ρ)
def Z0 N a kr := (Z1 N a (fun b c d => Z2 N b c d kr) : Option ρ)
def Spec : Prop := ∀  (v0 : MT), Ty.bd (.pair (.int .i64) (.pair (.int .i64) (.sl 0 (.int .i64)))) v0 → P v0 = true → ∃ N0, ∀ N, N0 ≤ N → Z0 N v0 (fun v2 => some ((), (v2, ()))) = some ((), ((g v0), ()))
theorem mx_abs {a : Int} (h : -99 ≤ a ∧ a ≤ 99) : mx a (w64 (0 - a)) = absK a := by
 rw [w64_id (by omega) (by omega), mx_eq]
 unfold absK
 omega
theorem absK_neg (a : Int) : absK (-a) = absK a := by unfold absK; omega
theorem pow4 {k : Nat} (h : k ≤ 4) : (99 : Int) ^ k ≤ 96059601 := by
 have h1 : 99 ^ k ≤ 99 ^ 4 := Nat.pow_le_pow_right (by omega) h
 have h2 : (99 : Int) ^ k = ((99 ^ k : Nat) : Int) := by rw [Int.natCast_pow]; rfl
 rw [h2]
 omega
theorem ne_good {n : Nat} {A : Nat → Nat → Int} {x j : Nat} (hx : x < n) (hj : j < n) (h : ¬ (A x j = 0 ∧ A j x = 0)) (h' : A x j = 0 ∨ A j x = 0) : ¬ ∃ e, Good n A e := by
 rintro ⟨e, he⟩
 rcases h' with z | z
 ·exact h ⟨z, good_zero he hx hj z⟩
 ·exact h ⟨good_zero he hj hx z, z⟩
section
variable {ρ : Type} {N : Nat} {m : Int × Int × List Int} {s p x j : Nat} {num0 num den out : List Int} {L : List Nat}
theorem core (hm : shapedK m = true) (hn : m.1.toNat ≤ 5) (hcl : Closed m.1.toNat (ent m) num0) (hf : FInv m.1.toNat (ent m) s num0 L num den) (hp : p < L.length) (hx : L.getD p 0 = x) (hj : j < m.1.toNat) (h0 : ¬ (ent m x j = 0 ∧ ent m j x = 0))
  (kn : List Int → List Int → List Int → List Int → Int → Int → Int → Int → Int → Int → Int → Int → List Int → Option ρ) (kr : List Int → Option ρ) (t34 t35 t62 t63 : Int) :
  (Z52 N num den out (ints L) (p : Int) (x : Int) (j : Int) (ent m x j) (-(ent m j x)) t34 t35 t62 t63 m.1 m.2.1 m.2.2 kn kr = kr [] ∧ ¬ ∃ e, Good m.1.toNat (ent m) e) ∨
  (∃ L' num' den', FInv m.1.toNat (ent m) s num0 L' num' den' ∧ (∃ u, L' = L ++ u) ∧ (∀ y ∈ L, ∀ k, Edge (ent m) L num den y k → Edge (ent m) L' num' den' y k) ∧ Edge (ent m) L' num' den' x j ∧
   Z52 N num den out (ints L) (p : Int) (x : Int) (j : Int) (ent m x j) (-(ent m j x)) t34 t35 t62 t63 m.1 m.2.1 m.2.2 kn kr = kn num' den' out (ints L') (p : Int) (x : Int) t34 t35 t62 t63 m.1 m.2.1 m.2.2) := by
 have hxm : x ∈ L := by rw [← hx]; exact getD_mem 0 hp
 have hxn := hf.lt x hxm
 have hle := hf.le
 simp only [Z52]
 by_cases z1 : ent m x j = 0
 ·rw [ct (dt z1)]
  exact Or.inl ⟨rfl, ne_good hxn hj h0 (Or.inl z1)⟩
 rw [cf (df z1)]
 by_cases z2 : ent m j x = 0
 ·rw [ct (dt (by omega))]
  exact Or.inl ⟨rfl, ne_good hxn hj h0 (Or.inr z2)⟩
 rw [cf (df (by omega))]
 by_cases sg : (0 < ent m x j ↔ 0 < -(ent m j x))
 ·have sgb : (!(((lk N (decide (0 < ent m x j))) == (lk N (decide (0 < -(ent m j x))))))) = false := by
   rw [lk_eq, lk_eq]
   by_cases h1 : 0 < ent m x j
   ·rw [dt h1, dt (sg.1 h1)]; rfl
   ·rw [df h1, df (fun h => h1 (sg.2 h))]; rfl
  rw [cf sgb]
  have hne : ¬ ((x : Int) = (j : Int)) := fun e => by
   have e' : x = j := by omega
   subst e'
   omega
  rw [cf (df hne)]
  obtain ⟨Q, q1, q2, q3⟩ := hf.frac
  obtain ⟨c1, c2, c3, c4, c5⟩ := q3 x hxm
  have st := stepN (A := ent m) (num := num) (den := den) x j c1 c3 z1 z2
  have sk := skew_of z1 z2 sg
  have hb := ent_bound hm
  have e1 := mx_abs (hb x j)
  have e2 : mx (-(ent m j x)) (w64 (0 - -(ent m j x))) = absK (ent m j x) := by
   rw [mx_abs (by have := hb j x; omega), absK_neg]
  have pw := pow4 (k := L.length - 1) (by omega)
  have hdQ := Int.le_of_dvd q1 c4
  have a1 := absK_le (hb x j)
  have a2 := absK_le (hb j x)
  have a1' := absK_pos z1
  have a2' := absK_pos z2
  have b1 : num.getD x 0 * absK (ent m x j) ≤ 96059601 * 99 := Int.mul_le_mul (by omega) a1 (by omega) (by omega)
  have b2 : den.getD x 0 * absK (ent m j x) ≤ 96059601 * 99 := Int.mul_le_mul (by omega) a2 (by omega) (by omega)
  have hA := st.a0p
  have hB := st.b0p
  simp only [e1, e2, Int.toNat_natCast, w64_id (show -9223372036854775808 ≤ num.getD x 0 * absK (ent m x j) by omega) (by omega), w64_id (show -9223372036854775808 ≤ den.getD x 0 * absK (ent m j x) by omega) (by omega), impl_gcd.g]
  generalize hA0 : num.getD x 0 * absK (ent m x j) = A0 at *
  generalize hB0 : den.getD x 0 * absK (ent m j x) = B0 at *
  generalize hG : (Int.gcd A0 B0 : Int) = G at *
  generalize ha : Int.tdiv A0 G = a at *
  generalize hb' : Int.tdiv B0 G = b at *
  have gp := st.gp
  have ap := st.ap
  have bp := st.bp
  have al : a ≤ A0 := by
   have h1 := Int.mul_le_mul_of_nonneg_left (show (1 : Int) ≤ G by omega) (Int.le_of_lt ap)
   have h2 := st.ea
   omega
  have bl : b ≤ B0 := by
   have h1 := Int.mul_le_mul_of_nonneg_left (show (1 : Int) ≤ G by omega) (Int.le_of_lt bp)
   have h2 := st.eb
   omega
  have i1 : inB (x : Int) num.length = true := inB_nat (by rw [hf.nl]; exact hxn)
  have i2 : inB (x : Int) den.length = true := inB_nat (by rw [hf.dl]; exact hxn)
  have i3 : inB (j : Int) num.length = true := inB_nat (by rw [hf.nl]; exact hj)
  have i4 : inB (j : Int) den.length = true := inB_nat (by rw [hf.dl]; exact hj)
  have hP : impl_gcd.P A0 B0 = true := by
   simp only [impl_gcd.P, Bool.and_eq_true, decide_eq_true_eq]
   omega
  rw [ct i1, ct i2, ct hP, ct (nt (by omega)), ct (nt (by omega)), ct i3]
  simp only [w64_id (show -9223372036854775808 ≤ a by omega) (by omega), w64_id (show -9223372036854775808 ≤ b by omega) (by omega)]
  by_cases hz : num.getD j 0 = 0
  ·obtain ⟨hg, hnj⟩ := hf.grow hp hj hz (by rw [hx]; exact st) (fun y k => absK_le (hb y k))
   have hxj : ∀ y ∈ L, j ≠ y := fun y hy e => hnj (e ▸ hy)
   have hnl : j < num.length := by rw [hf.nl]; exact hj
   have hdl : j < den.length := by rw [hf.dl]; exact hj
   rw [ct (dt hz), ct i3, ct i4, ct (show Nat.blt ((ints L).length + ([(j : Int)]).length) 1099511627776 = true by simp [ints_len, Nat.blt_eq]; omega), ints_append]
   refine Or.inr ⟨L ++ [j], num.set j a, den.set j b, hg, ⟨_, rfl⟩, fun y hy k he => he.grow hxj hnl hdl hy, Or.inr ⟨by simp, ?_⟩, rfl⟩
   have := step_edge st sk
   rw [getD_put hnl, if_neg (hxj x hxm), getD_put hdl, if_pos rfl, getD_put hnl, if_pos rfl, getD_put hdl, if_neg (hxj x hxm)]
   exact this
  ·have hjm : j ∈ L := Classical.byContradiction fun hc => by
    have h1 : num0.getD j 0 ≠ 0 := by rw [← hf.out j hj hc]; exact hz
    exact hcl j hj h1 x hxn (Or.inr z1) (hf.new x hxm)
   obtain ⟨d1, d2, d3, d4, d5⟩ := q3 j hjm
   have hgood : (∃ e, Good m.1.toNat (ent m) e) → num.getD j 0 = a ∧ den.getD j 0 = b := by
    rintro ⟨e, he⟩
    have g1 := step_good st hxn hj he (hf.good e he x hxm)
    have g2 := hf.good e he j hjm
    have p1 := (he j hj).1
    have p2 : 0 < e s := (he s (by rw [← hf.hd]; exact hf.lt _ (getD_mem 0 hf.pos))).1
    have g3 : (e s * e j) * (num.getD j 0 * b) = (e s * e j) * (a * den.getD j 0) := by grind
    have p3 := Int.mul_pos p2 p1
    exact frac_eq d1 d3 ap bp d5 st.co (Int.eq_of_mul_eq_mul_left (by omega) g3)
   rw [cf (df hz), ct i3]
   by_cases ea : num.getD j 0 = a
   ·rw [cf (nf ea), ct i4]
    by_cases eb : den.getD j 0 = b
    ·rw [cf (nf eb)]
     refine Or.inr ⟨L, num, den, hf, ⟨[], by simp⟩, fun _ _ _ h => h, Or.inr ⟨hjm, ?_⟩, rfl⟩
     rw [ea, eb]
     exact step_edge st sk
    ·rw [ct (nt eb)]
     exact Or.inl ⟨rfl, fun h => eb (hgood h).2⟩
   ·rw [ct (nt ea)]
    exact Or.inl ⟨rfl, fun h => ea (hgood h).1⟩
 ·have sgb : (!(((lk N (decide (0 < ent m x j))) == (lk N (decide (0 < -(ent m j x))))))) = true := by
   rw [lk_eq, lk_eq]
   by_cases h1 : 0 < ent m x j
   ·rw [dt h1, df (fun h2 => sg ⟨fun _ => h2, fun _ => h1⟩)]; rfl
   ·rw [df h1, dt (Classical.byContradiction fun h2 => sg ⟨fun h => absurd h h1, fun h => absurd h h2⟩)]; rfl
  rw [ct sgb]
  refine Or.inl ⟨rfl, ?_⟩
  rintro ⟨e, he⟩
  have h1 := good_sign he hxn hj
  rw [signK, Bool.and_eq_true, beq_iff_eq, decide_eq_decide] at h1
  have := h1.1
  omega
theorem at_g (hd : 0 ≤ m.1) (a b : Nat) : impl_Matrix_at.g (m.1, (m.2.1, m.2.2)) (a : Int) (b : Int) = ent m a b := atK_nat hd a b
theorem at_p (hd : dimK m = true) {a b : Nat} (ha : a < m.1.toNat) (hb : b < m.1.toNat) : impl_Matrix_at.P (m.1, (m.2.1, m.2.2)) (a : Int) (b : Int) = true := by
 obtain ⟨n, r, hn, hr, hn1, hn5, hnr, hr8, hl⟩ := dim_nat hd
 exact at_ok hd (by omega) hb
theorem inner (hm : shapedK m = true) (hcl : Closed m.1.toNat (ent m) num0) (k4 : List Int → List Int → List Int → List Int → Int → Int → Int → Int → Int → List Int → Option ρ) (kr : List Int → Option ρ) (t34 t35 : Int) : ∀ (M j : Nat) (L : List Nat) (num den : List Int), FInv m.1.toNat (ent m) s num0 L num den → p < L.length → L.getD p 0 = x → j ≤ m.1.toNat → m.1.toNat - j < M →
  (∀ k', k' < p → ∀ k, k < m.1.toNat → Edge (ent m) L num den (L.getD k' 0) k) → (∀ k, k < j → Edge (ent m) L num den x k) →
  (Z39L N k4 kr M num den out (ints L) (p : Int) (x : Int) t34 t35 (m.1.toNat : Int) (j : Int) m.1 m.2.1 m.2.2 = kr [] ∧ ¬ ∃ e, Good m.1.toNat (ent m) e) ∨
  (∃ L' num' den', FInv m.1.toNat (ent m) s num0 L' num' den' ∧ p < L'.length ∧ (∀ k', k' < p + 1 → ∀ k, k < m.1.toNat → Edge (ent m) L' num' den' (L'.getD k' 0) k) ∧
   Z39L N k4 kr M num den out (ints L) (p : Int) (x : Int) t34 t35 (m.1.toNat : Int) (j : Int) m.1 m.2.1 m.2.2 = k4 num' den' out (ints L') (p : Int) t34 t35 m.1 m.2.1 m.2.2) := by
 have hdim := shaped_dim hm
 obtain ⟨n, r, hn, hr, hn1, hn5, hnr, hr8, hl⟩ := dim_nat hdim
 intro M
 induction M with
 | zero => intro j _ _ _ _ _ _ _ h; omega
 | succ M ih =>
  intro j L num den hf hp hx hj hM hE1 hE2
  have hxm : x ∈ L := by rw [← hx]; exact getD_mem 0 hp
  have hxn := hf.lt x hxm
  simp only [Z39L, Z40, Z41, Z42, Z43]
  by_cases hlt : j < m.1.toNat
  ·rw [ct' (by rw [lk_eq]; exact dt (by omega))]
   simp only [Z44, Z45, Z46, Z47, Z48, Z49]
   rw [ct (at_p hdim hxn hlt), ct (at_p hdim hlt hxn), at_g (by omega), at_g (by omega)]
   have hb := ent_bound hm j x
   rw [show w64 (0 - ent m j x) = -(ent m j x) by rw [w64_id (by omega) (by omega)]; omega]
   simp only [Z50, Z51]
   have next : ∀ (L' : List Nat) (num' den' : List Int), FInv m.1.toNat (ent m) s num0 L' num' den' → (∃ u, L' = L ++ u) → (∀ y ∈ L, ∀ k, Edge (ent m) L num den y k → Edge (ent m) L' num' den' y k) → Edge (ent m) L' num' den' x j →
     (Z39L N k4 kr M num' den' out (ints L') (p : Int) (x : Int) t34 t35 (m.1.toNat : Int) ((j + 1 : Nat) : Int) m.1 m.2.1 m.2.2 = kr [] ∧ ¬ ∃ e, Good m.1.toNat (ent m) e) ∨
     (∃ L'' num'' den'', FInv m.1.toNat (ent m) s num0 L'' num'' den'' ∧ p < L''.length ∧ (∀ k', k' < p + 1 → ∀ k, k < m.1.toNat → Edge (ent m) L'' num'' den'' (L''.getD k' 0) k) ∧
      Z39L N k4 kr M num' den' out (ints L') (p : Int) (x : Int) t34 t35 (m.1.toNat : Int) ((j + 1 : Nat) : Int) m.1 m.2.1 m.2.2 = k4 num'' den'' out (ints L'') (p : Int) t34 t35 m.1 m.2.1 m.2.2) := by
    intro L' num' den' hf' hu hk he
    obtain ⟨u, hu⟩ := hu
    have hget : ∀ k', k' < L.length → L'.getD k' 0 = L.getD k' 0 := fun k' hk' => by rw [hu, getD_append_lt hk']
    refine ih (j + 1) L' num' den' hf' (by rw [hu]; simp; omega) (by rw [hget p hp]; exact hx) hlt (by omega) (fun k' hk' k hkn => ?_) (fun k hk' => ?_)
    ·rw [hget k' (by omega)]
     exact hk _ (getD_mem 0 (by omega)) k (hE1 k' hk' k hkn)
    ·by_cases e : k = j
     ·subst e; exact he
     ·exact hk x hxm k (hE2 k (by omega))
   by_cases h0 : ent m x j = 0 ∧ ent m j x = 0
   ·rw [ct (dt h0.1), ct (dt (by omega))]
    simp only [Z53]
    rw [w64_succ (by rw [maxLen_val]; omega)]
    exact next L num den hf ⟨[], by simp⟩ (fun _ _ _ h => h) (Or.inl h0)
   ·have hz : ∀ (X Y : Option ρ), (cond (lk N (decide (ent m x j = 0))) (cond (lk N (decide (-(ent m j x) = 0))) X Y) Y) = Y := by
     intro X Y
     by_cases z1 : ent m x j = 0
     ·rw [ct (dt z1), cf (df (fun z2 => h0 ⟨z1, by omega⟩))]
     ·rw [cf (df z1)]
    rw [hz]
    rcases core (N := N) (out := out) hm (by omega) hcl hf hp hx hlt h0 (fun num3 den4 out5 piece7 at8 i9 t34 t35 t62 t63 m1_0 m1_1 m1_2 => Z53 N num3 den4 out5 piece7 at8 i9 t34 t35 t62 t63 m1_0 m1_1 m1_2 (fun num3 den4 out5 piece7 at8 i9 t34 t35 t62 t63 m1_0 m1_1 m1_2 => Z39L N k4 kr M num3 den4 out5 piece7 at8 i9 t34 t35 t62 t63 m1_0 m1_1 m1_2)) kr t34 t35 (m.1.toNat : Int) (j : Int) with hc | ⟨L', num', den', h1, h2, h3, h4, h5⟩
    ·exact Or.inl hc
    ·rw [h5]
     simp only [Z53]
     rw [w64_succ (by rw [maxLen_val]; omega)]
     exact next L' num' den' h1 h2 h3 h4
  ·rw [cf' (by rw [lk_eq]; exact df (by omega))]
   refine Or.inr ⟨L, num, den, hf, hp, fun k' hk' k hk => ?_, rfl⟩
   by_cases e : k' = p
   ·subst e; rw [hx]; exact hE2 k (by omega)
   ·exact hE1 k' (by omega) k hk
theorem middle (hN : 10 ≤ N) (hm : shapedK m = true) (hcl : Closed m.1.toNat (ent m) num0) (k2 : List Int → List Int → List Int → List Int → Int → Int → Int → Int → List Int → Option ρ) (kr : List Int → Option ρ) (t34 t35 : Int) : ∀ (M p : Nat) (L : List Nat) (num den : List Int), FInv m.1.toNat (ent m) s num0 L num den → p ≤ L.length → m.1.toNat - p < M →
  (∀ k', k' < p → ∀ k, k < m.1.toNat → Edge (ent m) L num den (L.getD k' 0) k) →
  (Z29L N k2 kr M num den out (ints L) (p : Int) t34 t35 m.1 m.2.1 m.2.2 = kr [] ∧ ¬ ∃ e, Good m.1.toNat (ent m) e) ∨
  (∃ L' num' den', FInv m.1.toNat (ent m) s num0 L' num' den' ∧ (∀ x ∈ L', ∀ k, k < m.1.toNat → Edge (ent m) L' num' den' x k) ∧
   Z29L N k2 kr M num den out (ints L) (p : Int) t34 t35 m.1 m.2.1 m.2.2 = k2 num' den' out (ints L') t34 t35 m.1 m.2.1 m.2.2) := by
 have hdim := shaped_dim hm
 obtain ⟨n, r, hn, hr, hn1, hn5, hnr, hr8, hl⟩ := dim_nat hdim
 intro M
 induction M with
 | zero => intro p _ _ _ _ _ h; omega
 | succ M ih =>
  intro p L num den hf hp hM hE
  have hle := hf.le
  simp only [Z29L, Z30, Z31]
  by_cases hlt : p < L.length
  ·rw [ct (dt (by rw [ints_len]; omega))]
   simp only [Z32, Z33, Z34, Z35]
   rw [ct (inB_nat (by rw [ints_len]; exact hlt))]
   simp only [Z36, Z37, Z38, Z39, Int.toNat_natCast, ints_getD, hf.nl]
   have hin := inner (ρ := ρ) (N := N) (out := out) hm hcl (fun num3 den4 out5 piece7 at8 t34 t35 m1_0 m1_1 m1_2 => Z54 N num3 den4 out5 piece7 at8 t34 t35 m1_0 m1_1 m1_2 (fun num3 den4 out5 piece7 at8 t34 t35 m1_0 m1_1 m1_2 => Z29L N k2 kr M num3 den4 out5 piece7 at8 t34 t35 m1_0 m1_1 m1_2)) kr t34 t35 N 0 L num den hf hlt rfl (by omega) (by omega) hE (fun k hk => by omega)
   rw [show ((0 : Nat) : Int) = 0 from rfl] at hin
   rcases hin with hc | ⟨L', num', den', h1, h2, h3, h4⟩
   ·exact Or.inl hc
   ·rw [h4]
    simp only [Z54]
    rw [w64_succ (by rw [maxLen_val]; omega)]
    exact ih (p + 1) L' num' den' h1 h2 (by omega) h3
  ·rw [cf (df (by rw [ints_len]; omega))]
   refine Or.inr ⟨L, num, den, hf, fun x hx k hk => ?_, rfl⟩
   obtain ⟨k', hk', e⟩ := mem_getD hx
   rw [← e]
   exact hE k' (by omega) k hk
theorem common (hf : FInv m.1.toNat (ent m) s num0 L num den) (h5 : m.1.toNat ≤ 5) {Q : Int} (q1 : 0 < Q) (q2 : Q ≤ 96059601) (q3 : ∀ x ∈ L, 0 < den.getD x 0 ∧ den.getD x 0 ∣ Q) (k6 : List Int → List Int → List Int → List Int → Int → Int → Int → Int → Int → List Int → Option ρ) (t34 t35 : Int) : ∀ (M k : Nat) (c : Int), k ≤ L.length → L.length - k < M → 0 < c → c ∣ Q → (∀ k', k' < k → den.getD (L.getD k' 0) 0 ∣ c) →
  ∃ c', 0 < c' ∧ c' ∣ Q ∧ (∀ x ∈ L, den.getD x 0 ∣ c') ∧
   Z61L N k6 M num den out (ints L) c t34 t35 ((ints L).length : Int) (k : Int) m.1 m.2.1 m.2.2 = k6 num den out (ints L) c' t34 t35 m.1 m.2.1 m.2.2 := by
 have hle := hf.le
 intro M
 induction M with
 | zero => intro k _ _ h; omega
 | succ M ih =>
  intro k c hk hM hc hcQ hd
  simp only [Z61L, Z62]
  by_cases hlt : k < L.length
  ·have hxm : L.getD k 0 ∈ L := getD_mem 0 hlt
   obtain ⟨d1, d2⟩ := q3 _ hxm
   have i1 : inB (k : Int) (ints L).length = true := inB_nat (by rw [ints_len]; exact hlt)
   have i2 : inB ((L.getD k 0 : Nat) : Int) den.length = true := inB_nat (by rw [hf.dl]; exact hf.lt _ hxm)
   obtain ⟨g1, g2, g3, g4, g5, g6, g7⟩ := lcm_step hc d1 hcQ d2 q1
   have b1 := Int.le_of_dvd q1 hcQ
   have b2 := Int.le_of_dvd q1 d2
   have b3 := Int.le_of_dvd q1 g5
   rw [ct (dt (by rw [ints_len]; omega)), ct i1]
   simp only [Int.toNat_natCast, ints_getD]
   rw [ct i2, ct i2, ct (show impl_gcd.P c (den.getD (L.getD k 0) 0) = true by
    simp only [impl_gcd.P, Bool.and_eq_true, decide_eq_true_eq]
    omega)]
   have eg : impl_gcd.g c (den.getD (L.getD k 0) 0) = (Int.gcd c (den.getD (L.getD k 0) 0) : Int) := rfl
   rw [ct (nt (by rw [eg]; omega)), eg, w64_id (n := Int.tdiv c _) (by omega) (by omega), w64_id (by omega) (by omega), w64_succ (by rw [maxLen_val]; omega)]
   refine ih (k + 1) _ hlt (by omega) g4 g5 (fun k' hk' => ?_)
   by_cases e : k' = k
   ·subst e; exact g7
   ·exact Int.dvd_trans (hd k' (by omega)) g6
  ·rw [cf (df (by rw [ints_len]; omega))]
   refine ⟨c, hc, hcQ, fun x hx => ?_, rfl⟩
   obtain ⟨k', hk', e⟩ := mem_getD hx
   rw [← e]
   exact hd k' (by omega)
structure O2 (n : Nat) (L : List Nat) (num den out0 : List Int) (c : Int) (k : Nat) (out : List Int) (g : Int) : Prop where
 len : out.length = n
 old : ∀ x, x < n → (∀ k', k' < k → x ≠ L.getD k' 0) → out.getD x 0 = out0.getD x 0
 val : ∀ k', k' < k → out.getD (L.getD k' 0) 0 * den.getD (L.getD k' 0) 0 = c * num.getD (L.getD k' 0) 0 ∧ 0 < out.getD (L.getD k' 0) 0 ∧ out.getD (L.getD k' 0) 0 ≤ 9227446944279201
 gcd : g = ((gcdL ((List.range k).map fun t => out.getD (L.getD t 0) 0) : Nat) : Int)
theorem O2.g_range {n : Nat} {out0 : List Int} {c g : Int} {k : Nat} (h : O2 n L num den out0 c k out g) : 0 ≤ g ∧ g ≤ 9227446944279201 ∧ (0 < k → 0 < g) := by
 have h0 : 0 ≤ g := by rw [h.gcd]; omega
 by_cases e : k = 0
 ·subst e
  have := h.gcd
  simp [gcdL] at this
  omega
 ·obtain ⟨_, a1, a2⟩ := h.val 0 (by omega)
  have hd : g ∣ out.getD (L.getD 0 0) 0 := by
   rw [h.gcd]
   exact gcdL_dvd (List.mem_map.2 ⟨0, List.mem_range.2 (by omega), rfl⟩)
  have := Int.le_of_dvd a1 hd
  refine ⟨h0, by omega, fun _ => ?_⟩
  rcases Int.lt_or_le 0 g with h' | h'
  ·exact h'
  ·have e : g = 0 := by omega
   rw [e] at hd
   have := Int.zero_dvd.1 hd
   omega
theorem outs (hf : FInv m.1.toNat (ent m) s num0 L num den) (h5 : m.1.toNat ≤ 5) {c : Int} (c1 : 0 < c) (c2 : c ≤ 96059601) (q3 : ∀ x ∈ L, 0 < num.getD x 0 ∧ num.getD x 0 ≤ 96059601 ∧ 0 < den.getD x 0 ∧ den.getD x 0 ∣ c) (out0 : List Int) (k8 : List Int → List Int → List Int → List Int → Int → Int → Int → Int → Int → List Int → Option ρ) (t34 t35 : Int) : ∀ (M k : Nat) (out : List Int) (g : Int), k ≤ L.length → L.length - k < M → O2 m.1.toNat L num den out0 c k out g →
  ∃ out' g', O2 m.1.toNat L num den out0 c L.length out' g' ∧
   Z69L N k8 M num den out (ints L) c g t34 t35 ((ints L).length : Int) (k : Int) m.1 m.2.1 m.2.2 = k8 num den out' (ints L) g' t34 t35 m.1 m.2.1 m.2.2 := by
 have hle := hf.le
 intro M
 induction M with
 | zero => intro k _ _ _ h; omega
 | succ M ih =>
  intro k out g hk hM ho
  simp only [Z69L, Z70]
  by_cases hlt : k < L.length
  ·have hxm : L.getD k 0 ∈ L := getD_mem 0 hlt
   have hxn := hf.lt _ hxm
   obtain ⟨d1, d2, d3, d4⟩ := q3 _ hxm
   have i1 : inB (k : Int) (ints L).length = true := inB_nat (by rw [ints_len]; exact hlt)
   have i2 : inB ((L.getD k 0 : Nat) : Int) den.length = true := inB_nat (by rw [hf.dl]; exact hxn)
   have i3 : inB ((L.getD k 0 : Nat) : Int) num.length = true := inB_nat (by rw [hf.nl]; exact hxn)
   have i4 : inB ((L.getD k 0 : Nat) : Int) out.length = true := inB_nat (by rw [ho.len]; exact hxn)
   have hxo : L.getD k 0 < out.length := by rw [ho.len]; exact hxn
   have hg := ho.g_range
   have t1 : Int.tdiv c (den.getD (L.getD k 0) 0) * den.getD (L.getD k 0) 0 = c := Int.tdiv_mul_cancel d4
   have t2 : 0 < Int.tdiv c (den.getD (L.getD k 0) 0) ∧ Int.tdiv c (den.getD (L.getD k 0) 0) ≤ c := by
    generalize Int.tdiv c (den.getD (L.getD k 0) 0) = t at t1 ⊢
    have : 0 < t := by
     rcases Int.lt_or_le 0 t with h' | h'
     ·exact h'
     ·have := Int.mul_nonpos_of_nonpos_of_nonneg h' (Int.le_of_lt d3); omega
    have := Int.mul_le_mul_of_nonneg_left (show (1 : Int) ≤ den.getD (L.getD k 0) 0 by omega) (Int.le_of_lt this)
    exact ⟨by omega, by omega⟩
   have t3 : 0 < Int.tdiv c (den.getD (L.getD k 0) 0) * num.getD (L.getD k 0) 0 := Int.mul_pos t2.1 d1
   have t4 : Int.tdiv c (den.getD (L.getD k 0) 0) * num.getD (L.getD k 0) 0 ≤ 96059601 * 96059601 := Int.mul_le_mul (by omega) d2 (by omega) (by omega)
   rw [ct (dt (by rw [ints_len]; omega)), ct i1]
   simp only [Int.toNat_natCast, ints_getD]
   rw [ct i2, ct (nt (by omega)), ct i3, ct i4]
   simp only [w64_id (show -9223372036854775808 ≤ Int.tdiv c (den.getD (L.getD k 0) 0) by omega) (by omega)]
   simp only [w64_id (show -9223372036854775808 ≤ Int.tdiv c (den.getD (L.getD k 0) 0) * num.getD (L.getD k 0) 0 by omega) (by omega)]
   generalize hv : Int.tdiv c (den.getD (L.getD k 0) 0) * num.getD (L.getD k 0) 0 = v at t3 t4 ⊢
   have hself : (out.set (L.getD k 0) v).getD (L.getD k 0) 0 = v := by rw [getD_put hxo, if_pos rfl]
   have hget : ∀ t, t < k → (out.set (L.getD k 0) v).getD (L.getD t 0) 0 = out.getD (L.getD t 0) 0 := fun t ht' => by
    rw [getD_put hxo, if_neg (fun e => by have := nodup_getD hf.nd hlt (by omega) e; omega)]
   rw [ct (inB_nat (by rw [List.length_set]; exact hxo)), hself, ct (show impl_gcd.P g v = true by
    simp only [impl_gcd.P, Bool.and_eq_true, decide_eq_true_eq]
    omega), w64_succ (by rw [maxLen_val]; omega)]
   refine ih (k + 1) _ _ hlt (by omega) ⟨by rw [List.length_set]; exact ho.len, ?_, ?_, ?_⟩
   ·intro x hx hall
    rw [getD_put hxo, if_neg (fun e => hall k (by omega) e.symm)]
    exact ho.old x hx (fun t ht' => hall t (by omega))
   ·intro t ht'
    by_cases e : t = k
    ·subst e
     rw [hself]
     refine ⟨?_, t3, by omega⟩
     rw [← hv]
     have e1 := t1
     grind
    ·rw [hget t (by omega)]
     exact ho.val t (by omega)
   ·rw [List.range_succ, List.map_append, List.map_cons, List.map_nil, hself]
    rw [show (List.range k).map (fun t => (out.set (L.getD k 0) v).getD (L.getD t 0) 0) = (List.range k).map (fun t => out.getD (L.getD t 0) 0) from List.map_congr_left (fun t ht' => hget t (List.mem_range.1 ht'))]
    rw [ho.gcd]
    exact gcd_snoc _ _ v (by omega) rfl
  ·have e : k = L.length := by omega
   subst e
   exact ⟨out, g, ho, by rw [cf (df (by rw [ints_len]; omega))]⟩
theorem divs (hf : FInv m.1.toNat (ent m) s num0 L num den) (h5 : m.1.toNat ≤ 5) {out2 : List Int} {g : Int} (hg : 0 < g) (hv : ∀ x ∈ L, 0 < out2.getD x 0 ∧ out2.getD x 0 ≤ 9227446944279201) (k10 : List Int → List Int → List Int → Int → Int → Int → Int → List Int → Option ρ) (t34 t35 : Int) : ∀ (M k : Nat) (d : List Int), k ≤ L.length → L.length - k < M → T3 m (L, []) out2 g k d →
  ∃ d', T3 m (L, []) out2 g L.length d' ∧ Z74L N k10 M num den d (ints L) g t34 t35 ((ints L).length : Int) (k : Int) m.1 m.2.1 m.2.2 = k10 num den d' t34 t35 m.1 m.2.1 m.2.2 := by
 have hle := hf.le
 intro M
 induction M with
 | zero => intro k _ _ h; omega
 | succ M ih =>
  intro k d hk hM ht
  simp only [Z74L, Z75]
  by_cases hlt : k < L.length
  ·have hxm : L.getD k 0 ∈ L := getD_mem 0 hlt
   have hxn := hf.lt _ hxm
   obtain ⟨v1, v2⟩ := hv _ hxm
   have hcur := ht.cur hf.nd hf.lt hlt
   have hdv : 0 ≤ Int.tdiv (out2.getD (L.getD k 0) 0) g ∧ Int.tdiv (out2.getD (L.getD k 0) 0) g ≤ 9227446944279201 := by
    rw [Int.tdiv_eq_ediv_of_nonneg (by omega)]
    refine ⟨Int.ediv_nonneg (by omega) (by omega), ?_⟩
    have := Int.ediv_le_self (a := out2.getD (L.getD k 0) 0) g (by omega)
    omega
   have i4 : inB ((L.getD k 0 : Nat) : Int) d.length = true := inB_nat (by rw [ht.len]; exact hxn)
   have hcur' : d.getD (L.getD k 0) 0 = out2.getD (L.getD k 0) 0 := hcur
   rw [ct (dt (by rw [ints_len]; omega)), ct (inB_nat (by rw [ints_len]; exact hlt))]
   simp only [Int.toNat_natCast, ints_getD]
   rw [ct i4, ct (nt (by omega)), ct i4, hcur', w64_id (by omega) (by omega), w64_succ (by rw [maxLen_val]; omega)]
   exact ih (k + 1) _ hlt (by omega) (ht.step hf.nd hf.lt hlt)
  ·have e : k = L.length := by omega
   subst e
   exact ⟨d, ht, by rw [cf (df (by rw [ints_len]; omega))]⟩
theorem outer (hN : 10 ≤ N) (hm : shapedK m = true) (kr : List Int → Option ρ) : ∀ (M i : Nat) (num den out : List Int), OInv m.1.toNat (ent m) num out → den.length = m.1.toNat → i ≤ m.1.toNat → (∀ x, x < i → num.getD x 0 ≠ 0) → m.1.toNat - i < M →
  Z10L N (fun out5 => Z77 N out5 kr) kr M num den out (m.1.toNat : Int) (i : Int) m.1 m.2.1 m.2.2 = kr (facK m) := by
 have hdim := shaped_dim hm
 obtain ⟨n, r, hn, hr, hn1, hn5, hnr, hr8, hl⟩ := dim_nat hdim
 intro M
 induction M with
 | zero => intro i _ _ _ _ _ _ _ h; omega
 | succ M ih =>
  intro i num den out hO hdl hi hpos hM
  simp only [Z10L, Z11, Z12, Z13, Z14]
  by_cases hlt : i < m.1.toNat
  ·rw [ct' (by rw [lk_eq]; exact dt (by omega))]
   simp only [Z15, Z16, Z17, Z18, Z19, Z20]
   rw [ct (inB_nat (by rw [hO.nl]; exact hlt)), Int.toNat_natCast]
   by_cases hz : num.getD i 0 = 0
   ·rw [cf (nf hz)]
    simp only [Z21, Z22]
    rw [ct (inB_nat (by rw [hO.nl]; exact hlt)), ct (inB_nat (by rw [hdl]; exact hlt)), Int.toNat_natCast]
    simp only [Z23, Z24, Z25, Z26, Z27, Z28, Z29]
    have hnl : i < num.length := by rw [hO.nl]; exact hlt
    have hdl' : i < den.length := by rw [hdl]; exact hlt
    have f0 : FInv m.1.toNat (ent m) i num [i] (num.set i 1) (den.set i 1) := by
     refine ⟨by rw [List.length_set]; exact hO.nl, by rw [List.length_set]; exact hdl, by simp, fun x hx => by rw [List.mem_singleton] at hx; omega, rfl, by simp, ?_, ?_, ?_, ?_⟩
     ·intro x hx hni
      rw [getD_put hnl, if_neg (fun e => hni (by simp [e]))]
     ·intro x hx
      rw [List.mem_singleton] at hx; subst hx; exact hz
     ·refine ⟨1, by omega, by simp, fun x hx => ?_⟩
      rw [List.mem_singleton] at hx
      subst hx
      rw [getD_put hnl, if_pos rfl, getD_put hdl', if_pos rfl]
      exact ⟨by omega, by simp, by omega, Int.dvd_refl _, by decide⟩
     ·intro e he x hx
      rw [List.mem_singleton] at hx
      subst hx
      rw [getD_put hnl, if_pos rfl, getD_put hdl', if_pos rfl]
    have hmid := middle (ρ := ρ) (out := out) hN hm hO.closed (fun num3 den4 out5 piece7 t34 t35 m1_0 m1_1 m1_2 => Z55 N num3 den4 out5 piece7 t34 t35 m1_0 m1_1 m1_2 (fun num3 den4 out5 t34 t35 m1_0 m1_1 m1_2 => Z76 N num3 den4 out5 t34 t35 m1_0 m1_1 m1_2 (fun num3 den4 out5 t34 t35 m1_0 m1_1 m1_2 => Z10L N (fun out5 => Z77 N out5 kr) kr M num3 den4 out5 t34 t35 m1_0 m1_1 m1_2))) kr (m.1.toNat : Int) (i : Int) N 0 [i] (num.set i 1) (den.set i 1) f0 (by omega) (by omega) (fun k' hk' => by omega)
    rw [show ((0 : Nat) : Int) = 0 from rfl, show ints [i] = [(i : Int)] from rfl] at hmid
    rcases hmid with ⟨h1, h2⟩ | ⟨L, num', den', hf, hE, h1⟩
    ·rw [h1, fac_none h2]
    ·rw [h1]
     have hle := hf.le
     obtain ⟨Q, q1, q2, q3⟩ := hf.frac
     have pw := pow4 (k := L.length - 1) (by omega)
     simp only [Z55, Z56, Z57, Z58, Z59, Z60, Z61]
     obtain ⟨c, c1, c2, c3, c4⟩ := common (ρ := ρ) (N := N) (out := out) (num := num') (m := m) hf (by omega) q1 (by omega) (fun x hx => ⟨(q3 x hx).2.2.1, (q3 x hx).2.2.2.1⟩) (fun num3 den4 out5 piece7 common16 t34 t35 m1_0 m1_1 m1_2 => Z63 N num3 den4 out5 piece7 common16 t34 t35 m1_0 m1_1 m1_2 (fun num3 den4 out5 t34 t35 m1_0 m1_1 m1_2 => Z76 N num3 den4 out5 t34 t35 m1_0 m1_1 m1_2 (fun num3 den4 out5 t34 t35 m1_0 m1_1 m1_2 => Z10L N (fun out5 => Z77 N out5 kr) kr M num3 den4 out5 t34 t35 m1_0 m1_1 m1_2))) (m.1.toNat : Int) (i : Int) N 0 1 (by omega) (by omega) (by omega) (Int.one_dvd _) (fun k' hk' => by omega)
     rw [show ((0 : Nat) : Int) = 0 from rfl] at c4
     rw [c4]
     have cQ := Int.le_of_dvd q1 c2
     simp only [Z63, Z64, Z65, Z66, Z67, Z68, Z69]
     obtain ⟨out2, g2, o1, o2⟩ := outs (ρ := ρ) (N := N) (num := num') (m := m) hf (by omega) c1 (by omega) (fun x hx => ⟨(q3 x hx).1, by have := (q3 x hx).2.1; omega, (q3 x hx).2.2.1, c3 x hx⟩) out (fun num3 den4 out5 piece7 g19 t34 t35 m1_0 m1_1 m1_2 => Z71 N num3 den4 out5 piece7 g19 t34 t35 m1_0 m1_1 m1_2 (fun num3 den4 out5 t34 t35 m1_0 m1_1 m1_2 => Z76 N num3 den4 out5 t34 t35 m1_0 m1_1 m1_2 (fun num3 den4 out5 t34 t35 m1_0 m1_1 m1_2 => Z10L N (fun out5 => Z77 N out5 kr) kr M num3 den4 out5 t34 t35 m1_0 m1_1 m1_2))) (m.1.toNat : Int) (i : Int) N 0 out 0 (by omega) (by omega) ⟨hO.ol, fun _ _ _ => rfl, fun k hk => by omega, rfl⟩
     rw [show ((0 : Nat) : Int) = 0 from rfl] at o2
     rw [o2]
     have hg2 := o1.g_range.2.2 hf.pos
     have hval : ∀ x ∈ L, out2.getD x 0 * den'.getD x 0 = c * num'.getD x 0 ∧ 0 < out2.getD x 0 ∧ out2.getD x 0 ≤ 9227446944279201 := by
      intro x hx
      obtain ⟨k, hk, e⟩ := mem_getD hx
      rw [← e]
      exact o1.val k hk
     simp only [Z71, Z72, Z73, Z74]
     obtain ⟨out3, p1, p2⟩ := divs (ρ := ρ) (N := N) (num := num') (m := m) hf (by omega) hg2 (fun x hx => (hval x hx).2) (fun num3 den4 out5 t34 t35 m1_0 m1_1 m1_2 => Z76 N num3 den4 out5 t34 t35 m1_0 m1_1 m1_2 (fun num3 den4 out5 t34 t35 m1_0 m1_1 m1_2 => Z10L N (fun out5 => Z77 N out5 kr) kr M num3 den4 out5 t34 t35 m1_0 m1_1 m1_2)) (m.1.toNat : Int) (i : Int) N 0 out2 (by omega) (by omega) ⟨o1.len, fun _ _ _ => rfl, fun k hk => by omega⟩
     rw [show ((0 : Nat) : Int) = 0 from rfl] at p2
     rw [p2]
     have hgl : g2 = ((gcdL (L.map fun x => out2.getD x 0) : Nat) : Int) := by
      rw [← range_getD L (fun x => out2.getD x 0)]
      exact o1.gcd
     obtain ⟨r1, r2, r3⟩ := hO.piece (out3 := out3) hf hE c1 hg2 (fun x hx => (hval x hx).1) hgl (fun x hx => by
      obtain ⟨k, hk, e⟩ := mem_getD hx
      have := p1.val k hk
      rw [← e]
      rw [show out3.getD (L.getD k 0) 0 = _ from this]
      refine Int.tdiv_mul_cancel ?_
      rw [hgl]
      exact gcdL_dvd (List.mem_map.2 ⟨L.getD k 0, getD_mem 0 hk, rfl⟩)) (fun x hx hni => by
      have hne : ∀ k', k' < L.length → x ≠ L.getD k' 0 := fun k' hk' e => hni (by rw [e]; exact getD_mem 0 hk')
      rw [p1.out x hx hne, o1.old x hx hne]) p1.len
     simp only [Z76]
     rw [w64_succ (by rw [maxLen_val]; omega)]
     exact ih (i + 1) num' den' out3 r1 hf.dl hlt (fun x hx => by
      by_cases e : x = i
      ·subst e; exact r2
      ·exact r3 x (by omega) (hpos x (by omega))) (by omega)
   ·rw [ct (nt hz)]
    simp only [Z76]
    rw [w64_succ (by rw [maxLen_val]; omega)]
    exact ih (i + 1) num den out hO hdl hlt (fun x hx => by
     by_cases e : x = i
     ·subst e; exact hz
     ·exact hpos x (by omega)) (by omega)
  ·rw [cf' (by rw [lk_eq]; exact df (by omega))]
   simp only [Z77]
   rw [hO.fac (fun x hx => hpos x (by omega)), ct' (by rw [hO.ol, Nat.blt_eq]; omega)]
end
theorem ok : Spec := fun m hb hp => ⟨10, fun N hN => by
 have hm : shapedK m = true := hp
 have hdim := shaped_dim hm
 obtain ⟨n, r, hn, hr, hn1, hn5, hnr, hr8, hl⟩ := dim_nat hdim
 have hz : ∀ x, (List.replicate m.1.toNat (0 : Int)).getD x 0 = 0 := fun x => by
  rw [List.getD_eq_getElem?_getD, List.getElem?_replicate]
  split <;> rfl
 have hc : (leB 0 m.1 && decide (m.1 < 1099511627776)) = true := by rw [leB_t (by omega), dt (by omega)]; rfl
 simp only [Z0, Z1, Z2, Z3]
 rw [ct hc, ct hc]
 have key : Z4 N (List.replicate m.1.toNat 0) (List.replicate m.1.toNat 0) m.1 m.2.1 m.2.2 (fun t2 => some ((), (t2, ()))) = some ((), (g m, ())) := by
  simp only [Z4, Z5]
  rw [ct hc]
  simp only [Z6, Z7, Z8, Z9, Z10, List.length_replicate]
  have := outer (ρ := Unit × List Int × Unit) hN hm (fun t2 => some ((), (t2, ()))) N 0 (List.replicate m.1.toNat 0) (List.replicate m.1.toNat 0) (List.replicate m.1.toNat 0) ⟨by simp, by simp, fun y hy h => absurd (hz y) h, fun j hj h => absurd (hz j) h⟩ (by simp) (by omega) (fun x hx => by omega) (by omega)
  exact this
 rw [key]
 simp only [bo, both_self]⟩
end impl_factors
end
end Go.Fw
namespace Go.Fw
section
variable {ρ : Type}
namespace impl_MatrixOk
def g (m : Int × Int × List Int) : Bool := shapedK m && !decide (facK m = [])
end impl_MatrixOk
namespace impl_MatrixOk
def Z0 {ρ : Type} (N : Nat) (a : MT) (kr : Bool → Option ρ) : Option ρ :=
 cond (lk N ((impl_shaped.g a)))
 (
  cond (lk N (impl_factors.P a)) (
   kr (lk N (!(decide ((impl_factors.g a).length = 0))))) none)
 (
  kr false)
def Spec : Prop := ∀  (v0 : MT), Ty.bd (.pair (.int .i64) (.pair (.int .i64) (.sl 0 (.int .i64)))) v0 → ∃ N0, ∀ N, N0 ≤ N → Z0 N v0 (fun v2 => some ((), (v2, ()))) = some ((), ((g v0), ()))
theorem ok : Spec := fun m hb => ⟨0, fun N hN => by
 simp only [Z0, lk_eq, g, impl_shaped.g, impl_factors.P, impl_factors.g]
 cases shapedK m
 ·rfl
 ·by_cases h : facK m = []
  ·rw [dt h, dt (by rw [h]; rfl)]; rfl
  ·rw [df h, df (fun e => h (List.length_eq_zero_iff.1 e))]; rfl⟩
end impl_MatrixOk
end
end Go.Fw
namespace Go.Fw
section
variable {ρ : Type}
namespace slices_Clone_int_int
def P (a : List Int) : Bool := decide (a.length < 1099511627776)
abbrev g (a : List Int) : List Int := a
end slices_Clone_int_int
namespace slices_Clone_int_int
def Z0 {ρ : Type} (N : Nat) (a : LI) (kr : LI → Option ρ) : Option ρ :=
 cond (lk N (decide (0 < a.length)))
 (
  cond (lk N (Nat.blt (([] : List Int).length + a.length) 1099511627776)) (
   kr (([] : List Int) ++ a)) none)
 (
  both (
   kr ([] : List Int))
  (
   cond (lk N (Nat.blt (([] : List Int).length + a.length) 1099511627776)) (
    kr (([] : List Int) ++ a)) none))
def Spec : Prop := ∀  (v0 : LI), Ty.bd (.sl 0 (.int .i64)) v0 → P v0 = true → ∃ N0, ∀ N, N0 ≤ N → Z0 N v0 (fun v2 => some ((), (v2, ()))) = some ((), ((g v0), ()))
theorem ok : Spec := fun a hb hp => ⟨0, fun N hN => by
 have hl : a.length < 1099511627776 := by simpa [P] using hp
 have hc : Nat.blt (([] : List Int).length + a.length) 1099511627776 = true := by simpa using hl
 simp only [Z0, lk_eq, g, hc, cond_true, List.nil_append]
 by_cases h : 0 < a.length
 ·simp [h]
 ·have : a = [] := List.eq_nil_of_length_eq_zero (by omega)
  subst this
  simp [both_self]⟩
end slices_Clone_int_int
end
end Go.Fw
namespace Go.Fw
section
variable {ρ : Type}
namespace impl_mutated
def P (m : Int × Int × List Int) (k : Int) : Bool := shapedK m && (decide (0 ≤ k) && decide (k < m.1))
def g (m : Int × Int × List Int) (k : Int) : Int × Int × List Int := mutK m k.toNat
end impl_mutated
namespace impl_mutated
def Z1 {ρ : Type} (N : Nat) (a : MT) (b : Int) (kn : I3 (LI → I2 (Option ρ))) : Option ρ :=
 kn b a.1 a.2.1 a.2.2 0 0
def Z3 {ρ : Type} (N : Nat) (d b c : Int) (a : LI) (e f : Int) (kn : LI → I3 (LI → I4 (Option ρ))) : Option ρ :=
 both (
  cond (lk N (slices_Clone_int_int.P a)) (
   bo (
    kn (slices_Clone_int_int.g a) d b c a e f b c)) none)
 (
  cond (lk N (slices_Clone_int_int.P a)) (
   kn (slices_Clone_int_int.g a) d b c a e f b c) none)
def Z6 {ρ : Type} (N : Nat) (a : LI) (b c d : Int) (e : LI) (f g h i : Int) (kn : LI → I4 (LI → I4 (Option ρ))) : Option ρ :=
 kn a b 0 c d e f g h i
def Z10 {ρ : Type} (N : Nat) (a : LI) (h b i c : Int) (j : LI) (d e f g : Int) (kn : LI → I4 (LI → I4 (Option ρ))) (k0 : LI → I4 (Option ρ)) : Option ρ :=
 cond (lk N (decide (b < c)))
 (
  kn a h b i c j d e f g)
 (
  k0 a d e f g)
def Z14 {ρ : Type} (N : Nat) (a : LI) (b c d e : Int) (f : LI) (g h i j : Int) (kn : LI → I5 (LI → I4 (Option ρ))) : Option ρ :=
 kn a b c 0 d e f g h i j
def Z18 {ρ : Type} (N : Nat) (b : LI) (c d e a f : Int) (g : LI) (h i j l : Int) (kn : LI → I5 (LI → I4 (Option ρ))) (k2 : LI → I4 (LI → I4 (Option ρ))) : Option ρ :=
 cond (lk N (decide (e < a)))
 (
  kn b c d e a f g h i j l)
 (
  k2 b c d a f g h i j l)
def Z22 {ρ : Type} (N : Nat) (d : LI) (e a b c f : Int) (g : LI) (h i j l : Int) (kn : LI → I6 (LI → I4 (Option ρ))) : Option ρ :=
 cond (lk N (inB (w64 ((w64 (a * c)) + b)) d.length)) (
  kn d e a b (w64 ((w64 (a * c)) + b)) c f g h i j l) none
def Z24 {ρ : Type} (N : Nat) (h : LI) (a e f i b c : Int) (d : LI) (j l m o : Int) (kn : LI → I8 (LI → I4 (Option ρ))) : Option ρ :=
 cond (lk N (impl_Matrix_at.P (b, (c, d)) e a)) (
  cond (lk N (impl_Matrix_at.P (b, (c, d)) a f)) (
   kn h a e f i (impl_Matrix_at.g (b, (c, d)) e a) (impl_Matrix_at.g (b, (c, d)) a f) b c d j l m o) none) none
def Z27 {ρ : Type} (N : Nat) (d : LI) (a b c e f g h i : Int) (j : LI) (l m o p : Int) (kn : LI → I6 (Bool → I2 (LI → I4 (Option ρ)))) : Option ρ :=
 cond (lk N (decide (b = a)))
 (
  kn d a b c e f g true h i j l m o p)
 (
  kn d a b c e f g (lk N (decide (c = a))) h i j l m o p)
def Z28 {ρ : Type} (N : Nat) (a : LI) (b c d e o p : Int) (q : Bool) (f g : Int) (h : LI) (i j l m : Int) (kn : LI → I5 (LI → I4 (Option ρ))) : Option ρ :=
 cond (q)
 (
  kn (a.set e.toNat (w64 (0 - (a.getD e.toNat 0)))) b c d f g h i j l m)
 (
  cond (lk N (decide (0 < o)))
  (
   cond (lk N (decide (0 < p)))
   (
    kn (a.set e.toNat (w64 ((a.getD e.toNat 0) + (w64 (o * p))))) b c d f g h i j l m)
   (
    cond (lk N (decide (o < 0)))
    (
     cond (lk N (decide (p < 0)))
     (
      kn (a.set e.toNat (w64 ((a.getD e.toNat 0) - (w64 (o * p))))) b c d f g h i j l m)
     (
      kn a b c d f g h i j l m))
    (
     kn a b c d f g h i j l m)))
  (
   cond (lk N (decide (o < 0)))
   (
    cond (lk N (decide (p < 0)))
    (
     kn (a.set e.toNat (w64 ((a.getD e.toNat 0) - (w64 (o * p))))) b c d f g h i j l m)
    (
     kn a b c d f g h i j l m))
   (
    kn a b c d f g h i j l m)))
def Z26 N a b c d e f g h i j l m o p kn := (Z27 N a b c d e f g h i j l m o p (fun a b c d e f g q h i j l m o p => Z28 N a b c d e f g q h i j l m o p kn) : Option ρ)
def Z25 N a b c d e f g h i j l m o p kn := (Z26 N a b c d e f g h i j l m o p kn : Option ρ)
def Z23 N a b c d e f g h i j l m kn := (Z24 N a b c d e f g h i j l m (fun a b c d e o p f g h i j l m => Z25 N a b c d e o p f g h i j l m kn) : Option ρ)
def Z21 N a b c d e f g h i j l kn := (Z22 N a b c d e f g h i j l (fun a b c d m e f g h i j l => Z23 N a b c d m e f g h i j l kn) : Option ρ)
def Z20 N a b c d e f g h i j l kn := (Z21 N a b c d e f g h i j l kn : Option ρ)
def Z29 {ρ : Type} (N : Nat) (a : LI) (b c d e f : Int) (g : LI) (h i j l : Int) (kn : LI → I5 (LI → I4 (Option ρ))) : Option ρ :=
 kn a b c (w64 (d + 1)) e f g h i j l
def Z19 N a b c d e f g h i j l kn := (Z20 N a b c d e f g h i j l (fun a b c d e f g h i j l => Z29 N a b c d e f g h i j l kn) : Option ρ)
def Z17 N a b c d e f g h i j l kn k2 := (Z18 N a b c d e f g h i j l (fun a b c d e f g h i j l => Z19 N a b c d e f g h i j l kn) k2 : Option ρ)
def Z16L {ρ : Type} (N : Nat) (k2 : LI → I4 (LI → I4 (Option ρ))) : Nat → LI → Int → Int → Int → Int → Int → LI → Int → Int → Int → Int → Option ρ
 | 0, _, _, _, _, _, _, _, _, _, _, _ => none
 | M + 1, a, b, c, d, e, f, g, h, i, j, l => Z17 N a b c d e f g h i j l (fun a b c d e f g h i j l => Z16L N k2 M a b c d e f g h i j l) k2
def Z16 N a b c d e f g h i j l k2 := (Z16L N k2 N a b c d e f g h i j l : Option ρ)
def Z15 N a b c d e f g h i j l kn := (Z16 N a b c d e f g h i j l kn : Option ρ)
def Z13 N a b c d e f g h i j kn := (Z14 N a b c d e f g h i j (fun a b c l d e f g h i j => Z15 N a b c l d e f g h i j kn) : Option ρ)
def Z12 N a b c d e f g h i j kn := (Z13 N a b c d e f g h i j kn : Option ρ)
def Z30 {ρ : Type} (N : Nat) (a : LI) (b c d e : Int) (f : LI) (g h i j : Int) (kn : LI → I4 (LI → I4 (Option ρ))) : Option ρ :=
 kn a b (w64 (c + 1)) d e f g h i j
def Z11 N a b c d e f g h i j kn := (Z12 N a b c d e f g h i j (fun a b c d e f g h i j => Z30 N a b c d e f g h i j kn) : Option ρ)
def Z9 N a b c d e f g h i j kn k0 := (Z10 N a b c d e f g h i j (fun a b c d e f g h i j => Z11 N a b c d e f g h i j kn) k0 : Option ρ)
def Z8L {ρ : Type} (N : Nat) (k0 : LI → I4 (Option ρ)) : Nat → LI → Int → Int → Int → Int → LI → Int → Int → Int → Int → Option ρ
 | 0, _, _, _, _, _, _, _, _, _, _ => none
 | M + 1, a, b, c, d, e, f, g, h, i, j => Z9 N a b c d e f g h i j (fun a b c d e f g h i j => Z8L N k0 M a b c d e f g h i j) k0
def Z8 N a b c d e f g h i j k0 := (Z8L N k0 N a b c d e f g h i j : Option ρ)
def Z7 N a b c d e f g h i j kn := (Z8 N a b c d e f g h i j kn : Option ρ)
def Z5 N a b c d e f g h i kn := (Z6 N a b c d e f g h i (fun a b j c d e f g h i => Z7 N a b j c d e f g h i kn) : Option ρ)
def Z31 {ρ : Type} (N : Nat) (a : LI) (d e b c : Int) (kr : LI → I2 (Option ρ)) : Option ρ :=
 kr a b c
def Z4 N a f g h i b c d e kr := (Z5 N a f g h i b c d e (fun a b c d e => Z31 N a b c d e kr) : Option ρ)
def Z2 N a b c d e f kr := (Z3 N a b c d e f (fun g a b c d e f h i => Z4 N g a b c d e f h i kr) : Option ρ)
def Z0 N b a kr := (Z1 N b a (fun a c d e f g => Z2 N a c d e f g kr) : Option ρ)
def Spec : Prop := ∀  (v0 : MT) (v1 : Int), Ty.bd (.pair (.int .i64) (.pair (.int .i64) (.sl 0 (.int .i64)))) v0 → P v0 v1 = true → ∃ N0, ∀ N, N0 ≤ N → Z0 N v0 v1 (fun v4_2 v4_0 v4_1 => some ((), ((v4_0, (v4_1, v4_2)), ()))) = some ((), ((g v0 v1), ()))
section
variable {ρ : Type} {N : Nat} {m : Int × Int × List Int} {k : Nat}
theorem at_g (hd : 0 ≤ m.1) (a b : Nat) : impl_Matrix_at.g (m.1, (m.2.1, m.2.2)) (a : Int) (b : Int) = ent m a b := atK_nat hd a b
theorem at_p (hd : dimK m = true) {a b : Nat} (ha : a < m.2.1.toNat) (hb : b < m.1.toNat) : impl_Matrix_at.P (m.1, (m.2.1, m.2.2)) (a : Int) (b : Int) = true := at_ok hd ha hb
def cur (m : Int × Int × List Int) (k p : Nat) : List Int := upto m.2.2.length p (mutF m k) (fun p => m.2.2.getD p 0)
theorem inner (hs : shapedK m = true) (hk : k < m.1.toNat) (k2 : List Int → Int → Int → Int → Int → List Int → Int → Int → Int → Int → Option ρ) (t0 t1 o0 o1 : Int) {i : Nat} (hi : i < m.2.1.toNat) : ∀ (M j : Nat), j ≤ m.1.toNat → m.1.toNat - j < M →
  Z16L N k2 M (cur m k (i * m.1.toNat + j)) (k : Int) (i : Int) (j : Int) m.1 m.2.1 m.2.2 t0 t1 o0 o1 = k2 (cur m k (i * m.1.toNat + m.1.toNat)) (k : Int) (i : Int) m.1 m.2.1 m.2.2 t0 t1 o0 o1 := by
 have hd := shaped_dim hs
 obtain ⟨n, r, hn, hr, hn1, hn5, hnr, hr8, hl⟩ := dim_nat hd
 intro M
 induction M with
 | zero => intro j _ h; omega
 | succ M ih =>
  intro j hj hM
  simp only [Z16L, Z17, Z18]
  by_cases h : j < m.1.toNat
  ·have hlt : i * m.1.toNat + j < m.2.2.length := by
    have := ent_lt (n := n) (r := r) (i := i) (j := j) (by omega) (by omega)
    rw [hl, hn]; exact this
   have hidx : w64 (w64 ((i : Int) * m.1) + (j : Int)) = ((i * m.1.toNat + j : Nat) : Int) := by
    have e : (i : Int) * m.1 = ((i * m.1.toNat : Nat) : Int) := by rw [hn, Int.natCast_mul]; simp
    have hb : i * m.1.toNat ≤ 8 * 5 := Nat.mul_le_mul (by omega) (by omega)
    have e2 : w64 (((i * m.1.toNat : Nat) : Int)) = ((i * m.1.toNat : Nat) : Int) := w64_id (by omega) (by omega)
    rw [e, e2, w64_id (by omega) (by omega)]
    omega
   have b1 := ent_bound hs i j
   have b2 := ent_bound hs i k
   have b3 := ent_bound hs k j
   have hbc := mutE_bound (f := false) b1 b2 b3
   have hF := mutF_at (m := m) (k := k) (i := i) h
   have hcl : (cur m k (i * m.1.toNat + j)).length = m.2.2.length := upto_len
   have hset : ∀ v, v = mutF m k (i * m.1.toNat + j) → (cur m k (i * m.1.toNat + j)).set (i * m.1.toNat + j) v = cur m k (i * m.1.toNat + (j + 1)) := fun v hv => by
    subst hv
    exact upto_set hlt
   have hsame : mutF m k (i * m.1.toNat + j) = ent m i j → cur m k (i * m.1.toNat + j) = cur m k (i * m.1.toNat + (j + 1)) := fun hv => (upto_same hv).symm
   have iB : inB (((i * m.1.toNat + j : Nat) : Int)) (cur m k (i * m.1.toNat + j)).length = true := inB_nat (by rw [hcl]; exact hlt)
   have pij := at_p hd hi h
   rw [ct (dt (by omega))]
   simp only [Z19, Z20, Z21, Z22, Z23, Z24, Z25]
   have fin : ∀ c, c = cur m k (i * m.1.toNat + (j + 1)) → Z29 N c (k : Int) (i : Int) (j : Int) m.1 m.2.1 m.2.2 t0 t1 o0 o1 (fun out5_2 k1 i6 j7 m2_0 m2_1 m2_2 t4_0 t4_1 out5_0 out5_1 => Z16L N k2 M out5_2 k1 i6 j7 m2_0 m2_1 m2_2 t4_0 t4_1 out5_0 out5_1) = k2 (cur m k (i * m.1.toNat + m.1.toNat)) (k : Int) (i : Int) m.1 m.2.1 m.2.2 t0 t1 o0 o1 := by
    intro c hc
    subst hc
    simp only [Z29]
    rw [w64_succ (by rw [maxLen_val]; omega)]
    exact ih (j + 1) h (by omega)
   have hcg : (cur m k (i * m.1.toNat + j)).getD (i * m.1.toNat + j) 0 = ent m i j := by
    refine (upto_get hlt 0).trans ?_
    rw [if_neg (by omega)]
    rfl
   rw [hidx, ct iB, ct (at_p hd hi hk), ct (at_p hd (show k < m.2.1.toNat by omega) h), at_g (by omega), at_g (by omega)]
   simp only [Z26, Z27, Z28, Int.toNat_natCast, hcg]
   by_cases hik : i = k
   ·rw [ct (dt (by omega)), ct' rfl, w64_id (by omega) (by omega)]
    refine fin _ (hset _ ?_)
    rw [hF, dt hik, Int.zero_sub]; rfl
   ·rw [cf (df (by omega))]
    by_cases hjk : j = k
    ·rw [ct' (by rw [lk_eq]; exact dt (by omega)), w64_id (by omega) (by omega)]
     refine fin _ (hset _ ?_)
     rw [hF, df hik, dt hjk, Int.zero_sub]; rfl
    ·rw [cf' (by rw [lk_eq]; exact df (by omega))]
     rw [df hik, df hjk] at hF
     simp only [mutE, Bool.or_self, Bool.false_eq_true, if_false] at hF
     have wbc : w64 (ent m i k * ent m k j) = ent m i k * ent m k j := w64_id (by omega) (by omega)
     rw [wbc]
     by_cases a1 : 0 < ent m i k
     ·rw [ct (dt a1)]
      by_cases a2 : 0 < ent m k j
      ·rw [ct (dt a2), w64_id (by omega) (by omega)]
       refine fin _ (hset _ ?_)
       rw [hF, if_pos ⟨a1, a2⟩]
      ·rw [cf (df a2), cf (df (by omega))]
       refine fin _ (hsame ?_)
       rw [hF, if_neg (by omega), if_neg (by omega)]
     ·rw [cf (df a1)]
      by_cases a2 : ent m i k < 0
      ·rw [ct (dt a2)]
       by_cases a3 : ent m k j < 0
       ·rw [ct (dt a3), w64_id (by omega) (by omega)]
        refine fin _ (hset _ ?_)
        rw [hF, if_neg (by omega), if_pos ⟨a2, a3⟩]
       ·rw [cf (df a3)]
        refine fin _ (hsame ?_)
        rw [hF, if_neg (by omega), if_neg (by omega)]
      ·rw [cf (df a2)]
       refine fin _ (hsame ?_)
       rw [hF, if_neg (by omega), if_neg (by omega)]
  ·rw [cf (df (by omega)), show j = m.1.toNat by omega]
theorem outer (hN : 10 ≤ N) (hs : shapedK m = true) (hk : k < m.1.toNat) (k0 : List Int → Int → Int → Int → Int → Option ρ) (t0 t1 o0 o1 : Int) : ∀ (M i : Nat), i ≤ m.2.1.toNat → m.2.1.toNat - i < M →
  Z8L N k0 M (cur m k (i * m.1.toNat)) (k : Int) (i : Int) m.1 m.2.1 m.2.2 t0 t1 o0 o1 = k0 (cur m k (m.2.1.toNat * m.1.toNat)) t0 t1 o0 o1 := by
 have hd := shaped_dim hs
 obtain ⟨n, r, hn, hr, hn1, hn5, hnr, hr8, hl⟩ := dim_nat hd
 intro M
 induction M with
 | zero => intro i _ h; omega
 | succ M ih =>
  intro i hi hM
  simp only [Z8L, Z9, Z10]
  by_cases h : i < m.2.1.toNat
  ·rw [ct (dt (by omega))]
   simp only [Z11, Z12, Z13, Z14, Z15, Z16]
   have hin := inner (ρ := ρ) (N := N) hs hk (fun out5_2 k1 i6 m2_0 m2_1 m2_2 t4_0 t4_1 out5_0 out5_1 => Z30 N out5_2 k1 i6 m2_0 m2_1 m2_2 t4_0 t4_1 out5_0 out5_1 (fun out5_2 k1 i6 m2_0 m2_1 m2_2 t4_0 t4_1 out5_0 out5_1 => Z8L N k0 M out5_2 k1 i6 m2_0 m2_1 m2_2 t4_0 t4_1 out5_0 out5_1)) t0 t1 o0 o1 h N 0 (by omega) (by omega)
   rw [show ((0 : Nat) : Int) = 0 from rfl, Nat.add_zero] at hin
   rw [hin]
   simp only [Z30]
   rw [w64_succ (by rw [maxLen_val]; omega)]
   have := ih (i + 1) h (by omega)
   rw [Nat.add_mul, Nat.one_mul] at this
   exact this
  ·rw [cf (df (by omega)), show i = m.2.1.toNat by omega]
end
theorem ok : Spec := fun m k hb hp => ⟨10, fun N hN => by
 simp only [P, Bool.and_eq_true, decide_eq_true_eq] at hp
 obtain ⟨hs, h0, h1⟩ := hp
 obtain ⟨x, rfl⟩ := Int.eq_ofNat_of_zero_le h0
 have hd := shaped_dim hs
 obtain ⟨n, r, hn, hr, hn1, hn5, hnr, hr8, hl⟩ := dim_nat hd
 have hlen : m.2.2.length ≤ 8 * 5 := by rw [hl]; exact Nat.mul_le_mul hr8 hn5
 simp only [Z0, Z1, Z2, Z3]
 rw [ct (show slices_Clone_int_int.P m.2.2 = true from dt (by omega)), ct (show slices_Clone_int_int.P m.2.2 = true from dt (by omega))]
 simp only [bo, both_self]
 simp only [Z4, Z5, Z6, Z7, Z8]
 have hstart : cur m x 0 = m.2.2 := by
  unfold cur
  rw [upto_zero]
  exact list_map 0 rfl
 have hend : cur m x (m.2.1.toNat * m.1.toNat) = (mutK m x).2.2 := by
  have e : m.2.1.toNat * m.1.toNat = m.2.2.length := by rw [hl, hn, hr]; simp
  rw [e]
  exact upto_full
 have := outer (ρ := Unit × (Int × Int × List Int) × Unit) hN hs (show x < m.1.toNat by omega) (fun out5_2 t4_0 t4_1 out5_0 out5_1 => Z31 N out5_2 t4_0 t4_1 out5_0 out5_1 (fun t4_2 t4_0 t4_1 => some ((), ((t4_0, (t4_1, t4_2)), ())))) 0 0 m.1 m.2.1 N 0 (by omega) (by omega)
 rw [Nat.zero_mul, hstart, hend] at this
 exact this⟩
end impl_mutated
end
end Go.Fw
namespace Go.Fw
section
variable {ρ : Type}
namespace impl_MutateMatrix
def g (m : Int × Int × List Int) (k : Int) : (Int × Int × List Int) × Bool :=
 if ((shapedK m && !decide (facK m = [])) && (inK k 0 (m.1 - 1) && (shapedK (mutK m k.toNat) && !decide (facK (mutK m k.toNat) = [])))) = true then (mutK m k.toNat, true) else ((0, 0, []), false)
end impl_MutateMatrix
namespace impl_MutateMatrix
def Z0 {ρ : Type} (N : Nat) (a : MT) (b : Int) (kr : LI → Bool → I2 (Option ρ)) : Option ρ :=
 cond (!(lk N ((impl_MatrixOk.g a))))
 (
  kr ([] : List Int) false 0 0)
 (
  cond (!(lk N ((impl_within.g b 0 (w64 (a.1 - 1))))))
  (
   kr ([] : List Int) false 0 0)
  (
   cond (lk N (impl_mutated.P a b)) (
    cond (!(lk N ((impl_MatrixOk.g (impl_mutated.g a b)))))
    (
     kr ([] : List Int) false 0 0)
    (
     kr (impl_mutated.g a b).2.2 true (impl_mutated.g a b).1 (impl_mutated.g a b).2.1)) none))
def Spec : Prop := ∀  (v0 : MT) (v1 : Int), Ty.bd (.pair (.int .i64) (.pair (.int .i64) (.sl 0 (.int .i64)))) v0 → ∃ N0, ∀ N, N0 ≤ N → Z0 N v0 v1 (fun v4_2 v5 v4_0 v4_1 => some ((), ((v4_0, (v4_1, v4_2)), (v5, ())))) = some ((), ((g v0 v1).1, ((g v0 v1).2, ())))
theorem ok : Spec := fun m k hb => ⟨0, fun N hN => by
 simp only [Z0, lk_eq, g, impl_MatrixOk.g, impl_within.g]
 cases h1 : (shapedK m && !decide (facK m = []))
 ·rfl
 have hs : shapedK m = true := by
  simp only [Bool.and_eq_true] at h1
  exact h1.1
 have hd := shaped_dim hs
 obtain ⟨n, r, hn, hr, hn1, hn5, hnr, hr8, hl⟩ := dim_nat hd
 rw [w64_id (by omega) (by omega)]
 cases h2 : inK k 0 (m.1 - 1)
 ·rfl
 have h3 := inK_iff.1 h2
 have hP : impl_mutated.P m k = true := by
  simp only [impl_mutated.P, Bool.and_eq_true, decide_eq_true_eq]
  exact ⟨hs, by omega, by omega⟩
 rw [hP]
 have hg : impl_mutated.g m k = mutK m k.toNat := rfl
 rw [hg]
 cases (shapedK (mutK m k.toNat) && !decide (facK (mutK m k.toNat) = [])) <;> rfl⟩
end impl_MutateMatrix
end
end Go.Fw
namespace Go.Fw
section
variable {ρ : Type}
namespace impl_SymmetrizerOf
def g (m : Int × Int × List Int) : List Int := if shapedK m = true then facK m else []
end impl_SymmetrizerOf
namespace impl_SymmetrizerOf
def Z0 {ρ : Type} (N : Nat) (a : MT) (kr : LI → Option ρ) : Option ρ :=
 cond (!(lk N ((impl_shaped.g a))))
 (
  kr ([] : List Int))
 (
  cond (lk N (impl_factors.P a)) (
   kr (impl_factors.g a)) none)
def Spec : Prop := ∀  (v0 : MT), Ty.bd (.pair (.int .i64) (.pair (.int .i64) (.sl 0 (.int .i64)))) v0 → ∃ N0, ∀ N, N0 ≤ N → Z0 N v0 (fun v2 => some ((), (v2, ()))) = some ((), ((g v0), ()))
theorem ok : Spec := fun m hb => ⟨0, fun N hN => by
 simp only [Z0, lk_eq, g, impl_shaped.g, impl_factors.P, impl_factors.g]
 cases shapedK m <;> rfl⟩
end impl_SymmetrizerOf
end
end Go.Fw
namespace Go.Fw
section
variable {ρ : Type}
namespace laws_ints
def g (a b : List Int) : Bool := decide (a = b)
end laws_ints
namespace laws_ints
def Z1 {ρ : Type} (N : Nat) (a b : LI) (kn : LI → LI → Option ρ) : Option ρ :=
 kn a b
def Z3 {ρ : Type} (N : Nat) (a b : LI) (kn : LI → LI → Option ρ) (kr : Bool → Option ρ) : Option ρ :=
 cond (lk N (!(decide ((a.length : Int) = (b.length : Int)))))
 (
  kr false)
 (
  kn a b)
def Z6 {ρ : Type} (N : Nat) (a b : LI) (kn : LI → LI → Int → Option ρ) : Option ρ :=
 kn a b 0
def Z9 {ρ : Type} (N : Nat) (b c : LI) (a : Int) (kn : LI → LI → Int → Option ρ) (k0 : Option ρ) (kr : Bool → Option ρ) : Option ρ :=
 cond (lk N (decide (a < (b.length : Int))))
 (
  cond (lk N (inB a b.length)) (
   cond (lk N (inB a c.length)) (
    cond (lk N (!(decide ((b.getD a.toNat 0) = (c.getD a.toNat 0)))))
    (
     kr false)
    (
     kn b c (w64 (a + 1)))) none) none)
 (
  k0)
def Z8L {ρ : Type} (N : Nat) (k0 : Option ρ) (kr : Bool → Option ρ) : Nat → LI → LI → Int → Option ρ
 | 0, _, _, _ => none
 | M + 1, a, b, c => Z9 N a b c (fun a b c => Z8L N k0 kr M a b c) k0 kr
def Z8 N a b c k0 kr := (Z8L N k0 kr N a b c : Option ρ)
def Z7 N a b c kn kr := (Z8 N a b c kn kr : Option ρ)
def Z5 N a b kn kr := (Z6 N a b (fun a b c => Z7 N a b c kn kr) : Option ρ)
def Z10 {ρ : Type} (N : Nat)  (kr : Bool → Option ρ) : Option ρ :=
 kr true
def Z4 N a b kr := (Z5 N a b (Z10 N kr) kr : Option ρ)
def Z2 N a b kr := (Z3 N a b (fun a b => Z4 N a b kr) kr : Option ρ)
def Z0 N a b kr := (Z1 N a b (fun a b => Z2 N a b kr) : Option ρ)
def Spec : Prop := ∀  (v0 v1 : LI), Ty.bd (.sl 0 (.int .i64)) v0 → Ty.bd (.sl 0 (.int .i64)) v1 → ∃ N0, ∀ N, N0 ≤ N → Z0 N v0 v1 (fun v4 => some ((), (v4, ()))) = some ((), ((g v0 v1), ()))
theorem loop {ρ : Type} (N : Nat) (k0 : Option ρ) (kr : Bool → Option ρ) (a b : List Int) (hl : a.length = b.length) (ha : a.length ≤ maxLen) : ∀ (M j : Nat), j ≤ a.length → a.length - j < M →
  Z8L N k0 kr M a b (j : Int) = if a.drop j = b.drop j then k0 else kr false := by
 intro M
 induction M with
 | zero => intro j _ h; omega
 | succ M ih =>
  intro j hj hM
  simp only [Z8L, Z9]
  by_cases h : j < a.length
  ·rw [ct (dt (by omega)), ct (inB_nat h), ct (inB_nat (by omega)), Int.toNat_natCast, w64_succ (by omega), ih (j + 1) h (by omega), drop_getD 0 h, drop_getD (l := b) (j := j) 0 (by omega)]
   by_cases e : a.getD j 0 = b.getD j 0
   ·rw [cf (nf e), e]
    simp only [List.cons.injEq, true_and]
   ·rw [ct (nt e), if_neg (by simp only [List.cons.injEq]; exact fun h => e h.1)]
  ·rw [cf (df (by omega)), if_pos (by rw [List.drop_of_length_le (by omega), List.drop_of_length_le (by omega)])]
theorem ok : Spec := fun a b ha hb => ⟨a.length + 1, fun N hN => by
 simp only [Z1, Z3, Z6, Z9, Z8, Z7, Z5, Z10, Z4, Z2, Z0]
 by_cases hl : a.length = b.length
 ·rw [cf (nf (by omega))]
  rw [show (0 : Int) = ((0 : Nat) : Int) from rfl, loop _ _ _ a b hl ha.1 N 0 (by omega) (by omega)]
  by_cases e : a = b <;> simp [e, g]
 ·rw [ct (nt (by omega))]
  have : a ≠ b := fun e => hl (by rw [e])
  simp [g, this]⟩
end laws_ints
end
end Go.Fw
namespace Go.Fw
section
variable {ρ : Type}
namespace laws_matrices
def g (a b : Int × Int × List Int) : Bool := decide (a = b)
end laws_matrices
namespace laws_matrices
def Z0 {ρ : Type} (N : Nat) (a b : MT) (kr : Bool → Option ρ) : Option ρ :=
 cond (lk N (decide (a.1 = b.1)))
 (
  cond (lk N (decide (a.2.1 = b.2.1)))
  (
   kr (lk N ((laws_ints.g a.2.2 b.2.2))))
  (
   kr false))
 (
  kr false)
def Spec : Prop := ∀  (v0 v1 : MT), Ty.bd (.pair (.int .i64) (.pair (.int .i64) (.sl 0 (.int .i64)))) v0 → Ty.bd (.pair (.int .i64) (.pair (.int .i64) (.sl 0 (.int .i64)))) v1 → ∃ N0, ∀ N, N0 ≤ N → Z0 N v0 v1 (fun v4 => some ((), (v4, ()))) = some ((), ((g v0 v1), ()))
theorem ok : Spec := fun a b ha hb => ⟨0, fun N hN => by
 obtain ⟨a1, a2, a3⟩ := a
 obtain ⟨b1, b2, b3⟩ := b
 simp only [Z0, lk_eq, g, laws_ints.g]
 by_cases h1 : a1 = b1
 ·by_cases h2 : a2 = b2
  ·by_cases h3 : a3 = b3 <;> simp [h1, h2, h3]
  ·simp [h1, h2]
 ·simp [h1]⟩
end laws_matrices
end
end Go.Fw
namespace Go.Fw
section
variable {ρ : Type}
namespace laws_entry
def P (m : Int × Int × List Int) (i j : Int) : Bool := dimK m && (inK i 0 (m.2.1 - 1) && inK j 0 (m.1 - 1))
def g (m : Int × Int × List Int) (i j : Int) : Int := m.2.2.getD (i * m.1 + j).toNat 0
end laws_entry
namespace laws_entry
def Z0 {ρ : Type} (N : Nat) (a : MT) (b c : Int) (kr : Int → Option ρ) : Option ρ :=
 cond (lk N (decide ((a.2.2.length : Int) ≤ (w64 ((w64 (b * a.1)) + c)))))
 (
  kr 0)
 (
  cond (lk N (inB (w64 ((w64 (b * a.1)) + c)) a.2.2.length)) (
   kr (a.2.2.getD (w64 ((w64 (b * a.1)) + c)).toNat 0)) none)
def Spec : Prop := ∀  (v0 : MT) (v1 v2 : Int), Ty.bd (.pair (.int .i64) (.pair (.int .i64) (.sl 0 (.int .i64)))) v0 → P v0 v1 v2 = true → ∃ N0, ∀ N, N0 ≤ N → Z0 N v0 v1 v2 (fun v6 => some ((), (v6, ()))) = some ((), ((g v0 v1 v2), ()))
theorem at_nat {m : Int × Int × List Int} (h : 0 ≤ m.1) (i j : Nat) : g m (i : Int) (j : Int) = ent m i j := atK_nat h i j
theorem ok : Spec := fun m i j hb hp => ⟨0, fun N hN => by
 simp only [P, Bool.and_eq_true, inK_iff] at hp
 obtain ⟨hd, hi, hj⟩ := hp
 obtain ⟨n, r, hn, hr, hn1, hn5, hnr, hr8, hl⟩ := dim_nat hd
 obtain ⟨x, rfl⟩ := Int.eq_ofNat_of_zero_le hi.1
 obtain ⟨y, rfl⟩ := Int.eq_ofNat_of_zero_le hj.1
 have hlt := ent_lt (n := n) (r := r) (i := x) (j := y) (by omega) (by omega)
 have hq : r * n ≤ 8 * 5 := Nat.mul_le_mul hr8 hn5
 have e1 : (x : Int) * m.1 + (y : Int) = ((x * n + y : Nat) : Int) := by rw [hn]; simp
 have e1' : (x : Int) * m.1 = ((x * n : Nat) : Int) := by rw [hn]; simp
 have a1 : w64 ((x : Int) * m.1) = (x : Int) * m.1 := by rw [e1']; exact w64_id (by omega) (by omega)
 have w1 : w64 (w64 ((x : Int) * m.1) + (y : Int)) = (x : Int) * m.1 + (y : Int) := by rw [a1, e1]; exact w64_id (by omega) (by omega)
 have ib : inB ((x : Int) * m.1 + (y : Int)) m.2.2.length = true := by rw [e1]; exact inB_nat (by omega)
 simp only [Z0]
 rw [w1, cf (df (by rw [e1]; omega)), ct ib]
 rfl⟩
end laws_entry
end
end Go.Fw
namespace Go.Fw
section
variable {ρ : Type}
namespace laws_FnMutatesBack
def g (_ : List Int) : Bool := true
end laws_FnMutatesBack
namespace laws_FnMutatesBack
def Z1 {ρ : Type} (N : Nat) (a : List Int) (kn : List Int → Option ρ) : Option ρ :=
 kn a
def Z3 {ρ : Type} (N : Nat) (a : List Int) (kn : List Int → Option ρ) (kr : Bool → Option ρ) : Option ρ :=
 cond (lk N ((laws_big.g a)))
 (
  kr true)
 (
  kn a)
def Z5 {ρ : Type} (N : Nat) (a : List Int) (kn : LI → I3 (Option ρ)) : Option ρ :=
 kn (spec_DrawOrder.g a).1.2.2 (spec_DrawOrder.g a).2.2 (spec_DrawOrder.g a).1.1 (spec_DrawOrder.g a).1.2.1
def Z7 {ρ : Type} (N : Nat) (a : LI) (b c d : Int) (kn : LI → LI → Int → Bool → I4 (Option ρ)) : Option ρ :=
 kn a (impl_MutateMatrix.g (c, (d, a)) b).1.2.2 b (lk N ((impl_MutateMatrix.g (c, (d, a)) b).2)) c d (impl_MutateMatrix.g (c, (d, a)) b).1.1 (impl_MutateMatrix.g (c, (d, a)) b).1.2.1
def Z9 {ρ : Type} (N : Nat) (a e : LI) (b : Int) (f : Bool) (c d h i : Int) (kn : LI → LI → I5 (Option ρ)) (kr : Bool → Option ρ) : Option ρ :=
 cond (!(f))
 (
  kr (!(lk N ((spec_MutateMatrix.g (c, (d, a)) b).2))))
 (
  kn a e b c d h i)
def Z11 {ρ : Type} (N : Nat) (e a : LI) (d f h b c : Int) (kn : LI → LI → LI → Bool → I6 (Option ρ)) : Option ρ :=
 kn e a (impl_MutateMatrix.g (b, (c, a)) d).1.2.2 (lk N ((impl_MutateMatrix.g (b, (c, a)) d).2)) f h b c (impl_MutateMatrix.g (b, (c, a)) d).1.1 (impl_MutateMatrix.g (b, (c, a)) d).1.2.1
def Z13 {ρ : Type} (N : Nat) (d a e : LI) (f : Bool) (h i b c j l : Int) (kn : LI → LI → LI → LI → Bool → I6 (Option ρ)) : Option ρ :=
 kn (impl_SymmetrizerOf.g (b, (c, a))) d a e f h i b c j l
def Z15 {ρ : Type} (N : Nat) (b c e i : LI) (j : Bool) (a d f h l m : Int) (kn : LI → LI → LI → I4 (Option ρ)) (kr : Bool → Option ρ) : Option ρ :=
 cond (!(j))
 (
  kr false)
 (
  cond (!(lk N ((laws_matrices.g (l, (m, i)) (a, (d, c))))))
  (
   kr false)
  (
   cond (!(lk N ((impl_MatrixOk.g (f, (h, e))))))
   (
    kr false)
   (
    cond (!(lk N ((laws_ints.g b (impl_SymmetrizerOf.g (a, (d, c)))))))
    (
     kr false)
    (
     cond (lk N (!(decide ((b.length : Int) = a))))
     (
      kr false)
     (
      kn b c e a d f h)))))
def Z18 {ρ : Type} (N : Nat) (a b c : LI) (d e f g : Int) (kn : LI → LI → LI → I5 (Option ρ)) : Option ρ :=
 kn a b c 0 d e f g
def Z22 {ρ : Type} (N : Nat) (c d e : LI) (a b f g h : Int) (kn : LI → LI → LI → I5 (Option ρ)) (k0 : Option ρ) : Option ρ :=
 cond (lk N (decide (a < b)))
 (
  kn c d e a b f g h)
 (
  k0)
def Z26 {ρ : Type} (N : Nat) (a b c : LI) (d e f g h : Int) (kn : LI → LI → LI → I6 (Option ρ)) : Option ρ :=
 kn a b c d 0 e f g h
def Z29 {ρ : Type} (N : Nat) (b i d : LI) (a c h j e f : Int) (kn : LI → LI → LI → I6 (Option ρ)) (k2 : LI → LI → LI → I5 (Option ρ)) (kr : Bool → Option ρ) : Option ρ :=
 cond (lk N (decide (c < h)))
 (
  cond (lk N (inB a b.length)) (
   cond (lk N (inB c b.length)) (
    cond (lk N (laws_entry.P (e, (f, d)) a c)) (
     cond (lk N (laws_entry.P (e, (f, d)) c a)) (
      cond (lk N (!(decide ((w64 ((b.getD a.toNat 0) * (laws_entry.g (e, (f, d)) a c))) = (w64 (0 - (w64 ((b.getD c.toNat 0) * (laws_entry.g (e, (f, d)) c a)))))))))
      (
       kr false)
      (
       cond (lk N (inB a b.length)) (
        cond (lk N (decide ((b.getD a.toNat 0) < 1)))
        (
         kr false)
        (
         kn b i d a (w64 (c + 1)) h j e f)) none)) none) none) none) none)
 (
  k2 b i d a h j e f)
def Z28L {ρ : Type} (N : Nat) (k2 : LI → LI → LI → I5 (Option ρ)) (kr : Bool → Option ρ) : Nat → LI → LI → LI → Int → Int → Int → Int → Int → Int → Option ρ
 | 0, _, _, _, _, _, _, _, _, _ => none
 | M + 1, a, b, c, d, e, f, g, h, i => Z29 N a b c d e f g h i (fun a b c d e f g h i => Z28L N k2 kr M a b c d e f g h i) k2 kr
def Z28 N a b c d e f g h i k2 kr := (Z28L N k2 kr N a b c d e f g h i : Option ρ)
def Z27 N a b c d e f g h i kn kr := (Z28 N a b c d e f g h i kn kr : Option ρ)
def Z25 N a b c d e f g h kn kr := (Z26 N a b c d e f g h (fun a b c d i e f g h => Z27 N a b c d i e f g h kn kr) : Option ρ)
def Z24 N a b c d e f g h kn kr := (Z25 N a b c d e f g h kn kr : Option ρ)
def Z30 {ρ : Type} (N : Nat) (a b c : LI) (d e f g h : Int) (kn : LI → LI → LI → I5 (Option ρ)) : Option ρ :=
 kn a b c (w64 (d + 1)) e f g h
def Z23 N a b c d e f g h kn kr := (Z24 N a b c d e f g h (fun a b c d e f g h => Z30 N a b c d e f g h kn) kr : Option ρ)
def Z21 N a b c d e f g h kn k0 kr := (Z22 N a b c d e f g h (fun a b c d e f g h => Z23 N a b c d e f g h kn kr) k0 : Option ρ)
def Z20L {ρ : Type} (N : Nat) (k0 : Option ρ) (kr : Bool → Option ρ) : Nat → LI → LI → LI → Int → Int → Int → Int → Int → Option ρ
 | 0, _, _, _, _, _, _, _, _ => none
 | M + 1, a, b, c, d, e, f, g, h => Z21 N a b c d e f g h (fun a b c d e f g h => Z20L N k0 kr M a b c d e f g h) k0 kr
def Z20 N a b c d e f g h k0 kr := (Z20L N k0 kr N a b c d e f g h : Option ρ)
def Z19 N a b c d e f g h kn kr := (Z20 N a b c d e f g h kn kr : Option ρ)
def Z17 N a b c d e f g kn kr := (Z18 N a b c d e f g (fun a b c h d e f g => Z19 N a b c h d e f g kn kr) : Option ρ)
def Z31 {ρ : Type} (N : Nat)  (kr : Bool → Option ρ) : Option ρ :=
 kr true
def Z16 N a b c d e f g kr := (Z17 N a b c d e f g (Z31 N kr) kr : Option ρ)
def Z14 N a b c h i d e f g j l kr := (Z15 N a b c h i d e f g j l (fun a b c d e f g => Z16 N a b c d e f g kr) kr : Option ρ)
def Z12 N a b c d e f g h i j kr := (Z13 N a b c d e f g h i j (fun l a b c d e f g h i j => Z14 N l a b c d e f g h i j kr) : Option ρ)
def Z10 N a b g c d e f kr := (Z11 N a b g c d e f (fun a b h i c d e f j l => Z12 N a b h i c d e f j l kr) : Option ρ)
def Z8 N a b c h d e f g kr := (Z9 N a b c h d e f g (fun a b c d e f g => Z10 N a b c d e f g kr) kr : Option ρ)
def Z6 N a b c d kr := (Z7 N a b c d (fun a e b f c d g h => Z8 N a e b f c d g h kr) : Option ρ)
def Z4 N a kr := (Z5 N a (fun b c d e => Z6 N b c d e kr) : Option ρ)
def Z2 N a kr := (Z3 N a (fun a => Z4 N a kr) kr : Option ρ)
def Z0 N a kr := (Z1 N a (fun a => Z2 N a kr) : Option ρ)
def Spec : Prop := ∀  (v0 : List Int), Ty.bd (.sl 0 (.int .u8)) v0 → ∃ N0, ∀ N, N0 ≤ N → Z0 N v0 (fun v2 => some ((), (v2, ()))) = some ((), ((g v0), ()))
theorem w64_neg (x : Int) : w64 (-x) = w64 (0 - w64 x) := by
 simp only [w64, IntKind.wrap, IntKind.bits, IntKind.signed]
 simp
 omega
theorem inner {ρ : Type} {N : Nat} {m : Int × Int × List Int} {k : Nat} (hd : dimK (mutK m k) = true) (k2 : List Int → List Int → List Int → Int → Int → Int → Int → Int → Option ρ) (kr : Bool → Option ρ) {d : List Int} (hl : d.length = m.1.toNat) (hg : Good m.1.toNat (ent (mutK m k)) fun i => d.getD i 0) (x0 x1 : Int) (xl : List Int) {i : Nat} (hi : i < m.1.toNat) :
  ∀ (M j : Nat), j ≤ m.1.toNat → m.1.toNat - j < M → Z28L N k2 kr M d xl (mutK m k).2.2 (i : Int) (j : Int) m.1 x1 m.1 (mutK m k).2.1 = k2 d xl (mutK m k).2.2 (i : Int) m.1 x1 m.1 (mutK m k).2.1 := by
 obtain ⟨n, r, hn, hr, hn1, hn5, hnr, hr8, _⟩ := dim_nat hd
 have hn' : m.1 = (n : Int) := hn
 intro M
 induction M with
 | zero => intro j _ h; omega
 | succ M ih =>
  intro j hj hM
  simp only [Z28L, Z29]
  by_cases h : j < m.1.toNat
  ·have g1 := hg i hi
   have g2 : d.getD i 0 * ent (mutK m k) i j = -(d.getD j 0 * ent (mutK m k) j i) := g1.2 j h
   have g0 : 0 < d.getD i 0 := g1.1
   have g3 : ¬ d.getD i 0 < 1 := by omega
   have em : ((m.1, ((mutK m k).2.1, (mutK m k).2.2)) : Int × Int × List Int) = mutK m k := rfl
   have p1 : laws_entry.P (mutK m k) (i : Int) (j : Int) = true := by
    simp only [laws_entry.P, Bool.and_eq_true, inK_iff]
    exact ⟨hd, by omega, by omega⟩
   have p2 : laws_entry.P (mutK m k) (j : Int) (i : Int) = true := by
    simp only [laws_entry.P, Bool.and_eq_true, inK_iff]
    exact ⟨hd, by omega, by omega⟩
   have e1 : laws_entry.g (mutK m k) (i : Int) (j : Int) = ent (mutK m k) i j := laws_entry.at_nat (by omega) i j
   have e2 : laws_entry.g (mutK m k) (j : Int) (i : Int) = ent (mutK m k) j i := laws_entry.at_nat (by omega) j i
   have b1 : inB (i : Int) d.length = true := inB_nat (by omega)
   have b2 : inB (j : Int) d.length = true := inB_nat (by omega)
   have hw : w64 (d.getD i 0 * ent (mutK m k) i j) = w64 (0 - w64 (d.getD j 0 * ent (mutK m k) j i)) := by
    rw [g2, w64_neg]
   have hw1 : w64 ((j : Int) + 1) = ((j + 1 : Nat) : Int) := w64_succ (by rw [maxLen_val]; omega)
   rw [ct (dt (by omega))]
   simp only [lk_eq, em, p1, p2, e1, e2, b1, b2, cond_true, Int.toNat_natCast, hw, decide_true, Bool.not_true, cond_false, df g3, hw1]
   exact ih (j + 1) h (by omega)
  ·rw [cf (df (by omega))]
theorem outer {ρ : Type} {N : Nat} (hN : 20 ≤ N) {m : Int × Int × List Int} {k : Nat} (hd : dimK (mutK m k) = true) (k0 : Option ρ) (kr : Bool → Option ρ) {d : List Int} (hl : d.length = m.1.toNat) (hg : Good m.1.toNat (ent (mutK m k)) fun i => d.getD i 0) (x1 : Int) (xl : List Int) :
  ∀ (M i : Nat), i ≤ m.1.toNat → m.1.toNat - i < M → Z20L N k0 kr M d xl (mutK m k).2.2 (i : Int) m.1 x1 m.1 (mutK m k).2.1 = k0 := by
 obtain ⟨n, r, hn, hr, hn1, hn5, hnr, hr8, _⟩ := dim_nat hd
 have hn' : m.1 = (n : Int) := hn
 intro M
 induction M with
 | zero => intro i _ h; omega
 | succ M ih =>
  intro i hi hM
  simp only [Z20L, Z21, Z22]
  by_cases h : i < m.1.toNat
  ·rw [ct (dt (by omega))]
   simp only [Z23, Z24, Z25, Z26, Z27, Z28]
   refine (inner hd _ kr hl hg 0 x1 xl h N 0 (Nat.zero_le _) (by omega)).trans ?_
   simp only [Z30]
   rw [w64_succ (by rw [maxLen_val]; omega)]
   exact ih (i + 1) h (by omega)
  ·rw [cf (df (by omega))]
theorem law {N : Nat} (hN : 20 ≤ N) (m : Int × Int × List Int) (k : Int) : Z6 N m.2.2 k m.1 m.2.1 (fun t2 => some ((), (t2, ()))) = some ((), (true, ())) := by
 have em : ((m.1, (m.2.1, m.2.2)) : Int × Int × List Int) = m := rfl
 simp only [Z6, Z7, Z8, Z9, em, lk_eq]
 cases hc : ((shapedK m && !decide (facK m = [])) && (inK k 0 (m.1 - 1) && (shapedK (mutK m k.toNat) && !decide (facK (mutK m k.toNat) = []))))
 ·have e1 : (impl_MutateMatrix.g m k).2 = false := by
   unfold impl_MutateMatrix.g
   rw [if_neg (by rw [hc]; simp)]
  have e2 : (spec_MutateMatrix.g m k).2 = false := by
   rw [impl_spec_mut] at hc
   unfold spec_MutateMatrix.g
   rw [if_neg (by rw [hc]; simp)]
  simp only [e1, e2, Bool.not_false, cond_true]
 ·have e1 : impl_MutateMatrix.g m k = (mutK m k.toNat, true) := if_pos hc
  rw [Bool.and_eq_true, Bool.and_eq_true, Bool.and_eq_true, Bool.and_eq_true] at hc
  obtain ⟨⟨s1, f1⟩, hk, s2, f2⟩ := hc
  have hk' := inK_iff.1 hk
  have hd := shaped_dim s1
  obtain ⟨n, r, hn, hr, hn1, hn5, hnr, hr8, _⟩ := dim_nat hd
  have hkn : k.toNat < m.1.toNat := by omega
  have hmm := mut_mut hd hkn
  have f1' : facK m ≠ [] := by simpa using f1
  have hfm := fac_mut hd hkn f1'
  have em2 : (((mutK m k.toNat).1, ((mutK m k.toNat).2.1, (mutK m k.toNat).2.2)) : Int × Int × List Int) = mutK m k.toNat := rfl
  have e2 : impl_MutateMatrix.g (mutK m k.toNat) k = (m, true) := by
   unfold impl_MutateMatrix.g
   rw [hmm, if_pos]
   simp only [Bool.and_eq_true]
   exact ⟨⟨s2, f2⟩, hk, s1, f1⟩
  have e3 : impl_SymmetrizerOf.g (mutK m k.toNat) = facK m := by
   unfold impl_SymmetrizerOf.g
   rw [if_pos s2, hfm]
  have e4 : impl_SymmetrizerOf.g m = facK m := by
   unfold impl_SymmetrizerOf.g
   rw [if_pos s1]
  have e5 : impl_MatrixOk.g (mutK m k.toNat) = true := by
   show (shapedK (mutK m k.toNat) && !decide (facK (mutK m k.toNat) = [])) = true
   rw [s2, f2]
   rfl
  obtain ⟨q1, q2, _⟩ := fac_good f1'
  have hl : ((facK m).length : Int) = m.1 := by omega
  simp only [e1, Bool.not_true, cond_false, Z10, Z11, Z12, Z13, em2, e2, e3, Z14, Z15, em, lk_eq, e4, e5, laws_matrices.g, laws_ints.g, decide_true, hl, Z16, Z17, Z18, Z19, Z20]
  exact outer hN (dim_mut hd _) _ _ q1 (good_mut hd hkn q2) _ _ N 0 (Nat.zero_le _) (by omega)
theorem ok : Spec := fun b hb => ⟨20, fun N hN => by
 simp only [Z0, Z1, Z2, Z3, lk_eq]
 cases laws_big.g b
 ·simp only [cond_false, Z4, Z5]
  exact law hN _ _
 ·rfl⟩
end laws_FnMutatesBack
end
end Go.Fw
