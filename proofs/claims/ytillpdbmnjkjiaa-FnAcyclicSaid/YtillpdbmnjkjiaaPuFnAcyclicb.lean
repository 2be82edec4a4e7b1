/- The plain part: what the functions compute, in lists and numbers. Nothing is assumed. -/
import Derived.Test.YtillpdbmnjkjiaaFwc
import Derived.Test.YtillpdbmnjkjiaaPuFnAcyclica
noncomputable section
set_option linter.unusedVariables false
set_option linter.unusedSimpArgs false
set_option maxRecDepth 100000
namespace Go.Fw
section
variable {ρ : Type}
namespace z0a
def P (m : Int × Int × List Int) (k : Int) : Bool := z1y m && (decide (0 ≤ k) && decide (k < m.1))
def g (m : Int × Int × List Int) (k : Int) : Int × Int × List Int := z7o m k.toNat
end z0a
namespace z0a
def Z1 {ρ : Type} (N : Nat) (a : MT) (b : Int) (kn : I3 (LI → I2 (Option ρ))) : Option ρ :=
 kn b a.1 a.2.1 a.2.2 0 0
def Z3 {ρ : Type} (N : Nat) (d a b : Int) (c : LI) (e f : Int) (kn : LI → I3 (LI → I4 (Option ρ))) : Option ρ :=
 cond (lk N (z10.P (a, (b, c)))) (
  kn (z10.g (a, (b, c))).2.2 d a b c e f (z10.g (a, (b, c))).1 (z10.g (a, (b, c))).2.1) none
def Z6 {ρ : Type} (N : Nat) (a : LI) (b c d : Int) (e : LI) (f g h i : Int) (kn : LI → I4 (LI → I4 (Option ρ))) : Option ρ :=
 kn a b 0 c d e f g h i
def Z10 {ρ : Type} (N : Nat) (a : LI) (h b i c : Int) (j : LI) (d e f g : Int) (kn : LI → I4 (LI → I4 (Option ρ))) (k0 : LI → I4 (Option ρ)) : Option ρ :=
 cond (lk N (decide (b < c)))
 (
  kn a h b i c j d e f g)
 (
  k0 a d e f g)
def Z14 {ρ : Type} (N : Nat) (a : LI) (b c d e : Int) (f : LI) (g h i j : Int) (kn : LI → I5 (LI → I4 (Option ρ))) : Option ρ :=
 kn a b c 0 d e f g h i j
def Z18 {ρ : Type} (N : Nat) (b : LI) (c d e a f : Int) (g : LI) (h i j l : Int) (kn : LI → I5 (LI → I4 (Option ρ))) (k2 : LI → I4 (LI → I4 (Option ρ))) : Option ρ :=
 cond (lk N (decide (e < a)))
 (
  kn b c d e a f g h i j l)
 (
  k2 b c d a f g h i j l)
def Z22 {ρ : Type} (N : Nat) (f : LI) (a b h c d : Int) (e : LI) (i j l m : Int) (kn : LI → I6 (LI → I4 (Option ρ))) : Option ρ :=
 cond (lk N (z0o.P (c, (d, e)) b a)) (
  kn f a b h (z0o.g (c, (d, e)) b a) c d e i j l m) none
def Z24 {ρ : Type} (N : Nat) (f : LI) (a h b i c d : Int) (e : LI) (j l m o : Int) (kn : LI → I7 (LI → I4 (Option ρ))) : Option ρ :=
 cond (lk N (z0o.P (c, (d, e)) a b)) (
  kn f a h b i (z0o.g (c, (d, e)) a b) c d e j l m o) none
def Z27 {ρ : Type} (N : Nat) (d : LI) (a b c e f g h : Int) (i : LI) (j l m o : Int) (kn : LI → I5 (Bool → I2 (LI → I4 (Option ρ)))) : Option ρ :=
 cond (lk N (decide (b = a)))
 (
  kn d a b c e f true g h i j l m o)
 (
  kn d a b c e f (lk N (decide (c = a))) g h i j l m o)
def Z28 {ρ : Type} (N : Nat) (f : LI) (h a b o p : Int) (q : Bool) (c d : Int) (e : LI) (i j l m : Int) (kn : LI → I5 (LI → I4 (Option ρ))) : Option ρ :=
 cond (q)
 (
  cond (lk N (z0o.P (c, (d, e)) a b)) (
   cond (lk N (inB (w64 ((w64 (a * c)) + b)) f.length)) (
    kn (f.set (w64 ((w64 (a * c)) + b)).toNat (w64 (0 - (z0o.g (c, (d, e)) a b)))) h a b c d e i j l m) none) none)
 (
  cond (lk N (decide (0 < o)))
  (
   cond (lk N (decide (0 < p)))
   (
    cond (lk N (z0o.P (c, (d, e)) a b)) (
     cond (lk N (inB (w64 ((w64 (a * c)) + b)) f.length)) (
      kn (f.set (w64 ((w64 (a * c)) + b)).toNat (w64 ((z0o.g (c, (d, e)) a b) + (w64 (o * p))))) h a b c d e i j l m) none) none)
   (
    cond (lk N (decide (o < 0)))
    (
     cond (lk N (decide (p < 0)))
     (
      cond (lk N (z0o.P (c, (d, e)) a b)) (
       cond (lk N (inB (w64 ((w64 (a * c)) + b)) f.length)) (
        kn (f.set (w64 ((w64 (a * c)) + b)).toNat (w64 ((z0o.g (c, (d, e)) a b) - (w64 (o * p))))) h a b c d e i j l m) none) none)
     (
      kn f h a b c d e i j l m))
    (
     kn f h a b c d e i j l m)))
  (
   cond (lk N (decide (o < 0)))
   (
    cond (lk N (decide (p < 0)))
    (
     cond (lk N (z0o.P (c, (d, e)) a b)) (
      cond (lk N (inB (w64 ((w64 (a * c)) + b)) f.length)) (
       kn (f.set (w64 ((w64 (a * c)) + b)).toNat (w64 ((z0o.g (c, (d, e)) a b) - (w64 (o * p))))) h a b c d e i j l m) none) none)
    (
     kn f h a b c d e i j l m))
   (
    kn f h a b c d e i j l m)))
def Z26 N a b c d e f g h i j l m o kn := (Z27 N a b c d e f g h i j l m o (fun a b c d e f p g h i j l m o => Z28 N a b c d e f p g h i j l m o kn) : Option ρ)
def Z25 N a b c d e f g h i j l m o kn := (Z26 N a b c d e f g h i j l m o kn : Option ρ)
def Z23 N a b c d e f g h i j l m kn := (Z24 N a b c d e f g h i j l m (fun a b c d e o f g h i j l m => Z25 N a b c d e o f g h i j l m kn) : Option ρ)
def Z21 N a b c d e f g h i j l kn := (Z22 N a b c d e f g h i j l (fun a b c d m e f g h i j l => Z23 N a b c d m e f g h i j l kn) : Option ρ)
def Z20 N a b c d e f g h i j l kn := (Z21 N a b c d e f g h i j l kn : Option ρ)
def Z29 {ρ : Type} (N : Nat) (a : LI) (b c d e f : Int) (g : LI) (h i j l : Int) (kn : LI → I5 (LI → I4 (Option ρ))) : Option ρ :=
 kn a b c (w64 (d + 1)) e f g h i j l
def Z19 N a b c d e f g h i j l kn := (Z20 N a b c d e f g h i j l (fun a b c d e f g h i j l => Z29 N a b c d e f g h i j l kn) : Option ρ)
def Z17 N a b c d e f g h i j l kn k2 := (Z18 N a b c d e f g h i j l (fun a b c d e f g h i j l => Z19 N a b c d e f g h i j l kn) k2 : Option ρ)
def Z16L {ρ : Type} (N : Nat) (k2 : LI → I4 (LI → I4 (Option ρ))) : Nat → LI → Int → Int → Int → Int → Int → LI → Int → Int → Int → Int → Option ρ
 | 0, _, _, _, _, _, _, _, _, _, _, _ => none
 | M + 1, a, b, c, d, e, f, g, h, i, j, l => Z17 N a b c d e f g h i j l (fun a b c d e f g h i j l => Z16L N k2 M a b c d e f g h i j l) k2
def Z16 N a b c d e f g h i j l k2 := (Z16L N k2 N a b c d e f g h i j l : Option ρ)
def Z15 N a b c d e f g h i j l kn := (Z16 N a b c d e f g h i j l kn : Option ρ)
def Z13 N a b c d e f g h i j kn := (Z14 N a b c d e f g h i j (fun a b c l d e f g h i j => Z15 N a b c l d e f g h i j kn) : Option ρ)
def Z12 N a b c d e f g h i j kn := (Z13 N a b c d e f g h i j kn : Option ρ)
def Z30 {ρ : Type} (N : Nat) (a : LI) (b c d e : Int) (f : LI) (g h i j : Int) (kn : LI → I4 (LI → I4 (Option ρ))) : Option ρ :=
 kn a b (w64 (c + 1)) d e f g h i j
def Z11 N a b c d e f g h i j kn := (Z12 N a b c d e f g h i j (fun a b c d e f g h i j => Z30 N a b c d e f g h i j kn) : Option ρ)
def Z9 N a b c d e f g h i j kn k0 := (Z10 N a b c d e f g h i j (fun a b c d e f g h i j => Z11 N a b c d e f g h i j kn) k0 : Option ρ)
def Z8L {ρ : Type} (N : Nat) (k0 : LI → I4 (Option ρ)) : Nat → LI → Int → Int → Int → Int → LI → Int → Int → Int → Int → Option ρ
 | 0, _, _, _, _, _, _, _, _, _, _ => none
 | M + 1, a, b, c, d, e, f, g, h, i, j => Z9 N a b c d e f g h i j (fun a b c d e f g h i j => Z8L N k0 M a b c d e f g h i j) k0
def Z8 N a b c d e f g h i j k0 := (Z8L N k0 N a b c d e f g h i j : Option ρ)
def Z7 N a b c d e f g h i j kn := (Z8 N a b c d e f g h i j kn : Option ρ)
def Z5 N a b c d e f g h i kn := (Z6 N a b c d e f g h i (fun a b j c d e f g h i => Z7 N a b j c d e f g h i kn) : Option ρ)
def Z31 {ρ : Type} (N : Nat) (a : LI) (d e b c : Int) (kr : LI → I2 (Option ρ)) : Option ρ :=
 kr a b c
def Z4 N a f g h i b c d e kr := (Z5 N a f g h i b c d e (fun a b c d e => Z31 N a b c d e kr) : Option ρ)
def Z2 N a b c d e f kr := (Z3 N a b c d e f (fun g a b c d e f h i => Z4 N g a b c d e f h i kr) : Option ρ)
def Z0 N b a kr := (Z1 N b a (fun a c d e f g => Z2 N a c d e f g kr) : Option ρ)
def Spec : Prop := ∀  (v0 : MT) (v1 : Int), Ty.bd (.pair (.int .i64) (.pair (.int .i64) (.sl 0 (.int .i64)))) v0 → P v0 v1 = true → ∃ N0, ∀ N, N0 ≤ N → Z0 N v0 v1 (fun v4_2 v4_0 v4_1 => some ((), ((v4_0, (v4_1, v4_2)), ()))) = some ((), ((g v0 v1), ()))
section
variable {ρ : Type} {N : Nat} {m : Int × Int × List Int} {k : Nat}
theorem at_g (hd : 0 ≤ m.1) (a b : Nat) : z0o.g (m.1, (m.2.1, m.2.2)) (a : Int) (b : Int) = ent m a b := z7m hd a b
theorem at_p (hd : z3s m = true) {a b : Nat} (ha : a < m.2.1.toNat) (hb : b < m.1.toNat) : z0o.P (m.1, (m.2.1, m.2.2)) (a : Int) (b : Int) = true := zju hd ha hb
def cur (m : Int × Int × List Int) (k p : Nat) : List Int := zn4 m.2.2.length p (zu5 m k) (fun p => m.2.2.getD p 0)
theorem inner (hs : z1y m = true) (hk : k < m.1.toNat) (k2 : List Int → Int → Int → Int → Int → List Int → Int → Int → Int → Int → Option ρ) (t0 t1 o0 o1 : Int) {i : Nat} (hi : i < m.2.1.toNat) : ∀ (M j : Nat), j ≤ m.1.toNat → m.1.toNat - j < M →
  Z16L N k2 M (cur m k (i * m.1.toNat + j)) (k : Int) (i : Int) (j : Int) m.1 m.2.1 m.2.2 t0 t1 o0 o1 = k2 (cur m k (i * m.1.toNat + m.1.toNat)) (k : Int) (i : Int) m.1 m.2.1 m.2.2 t0 t1 o0 o1 := by
 have hd := z23 hs
 obtain ⟨n, r, hn, hr, hn1, hn5, hnr, hr8, hl⟩ := z17 hd
 intro M
 induction M with
 | zero => intro j _ h; omega
 | succ M ih =>
  intro j hj hM
  simp only [Z16L, Z17, Z18]
  by_cases h : j < m.1.toNat
  ·have hlt : i * m.1.toNat + j < m.2.2.length := by
    have := z9b (n := n) (r := r) (i := i) (j := j) (by omega) (by omega)
    rw [hl, hn]; exact this
   have hidx : w64 (w64 ((i : Int) * m.1) + (j : Int)) = ((i * m.1.toNat + j : Nat) : Int) := by
    have e : (i : Int) * m.1 = ((i * m.1.toNat : Nat) : Int) := by rw [hn, Int.natCast_mul]; simp
    have hb : i * m.1.toNat ≤ 8 * 5 := Nat.mul_le_mul (by omega) (by omega)
    have e2 : w64 (((i * m.1.toNat : Nat) : Int)) = ((i * m.1.toNat : Nat) : Int) := z19 (by omega) (by omega)
    rw [e, e2, z19 (by omega) (by omega)]
    omega
   have b1 := z3e hs i j
   have b2 := z3e hs i k
   have b3 := z3e hs k j
   have hbc := zhr (f := false) b1 b2 b3
   have hF := znn (m := m) (k := k) (i := i) h
   have hcl : (cur m k (i * m.1.toNat + j)).length = m.2.2.length := zbg
   have hset : ∀ v, v = zu5 m k (i * m.1.toNat + j) → (cur m k (i * m.1.toNat + j)).set (i * m.1.toNat + j) v = cur m k (i * m.1.toNat + (j + 1)) := fun v hv => by
    subst hv
    exact zph hlt
   have hsame : zu5 m k (i * m.1.toNat + j) = ent m i j → cur m k (i * m.1.toNat + j) = cur m k (i * m.1.toNat + (j + 1)) := fun hv => (zka hv).symm
   have iB : inB (((i * m.1.toNat + j : Nat) : Int)) (cur m k (i * m.1.toNat + j)).length = true := z1b (by rw [hcl]; exact hlt)
   have pij := at_p hd hi h
   rw [ct (dt (by omega))]
   simp only [Z19, Z20, Z21, Z22, Z23, Z24, Z25]
   rw [ct (at_p hd hi hk), ct (at_p hd (show k < m.2.1.toNat by omega) h), at_g (by omega), at_g (by omega)]
   have fin : ∀ c, c = cur m k (i * m.1.toNat + (j + 1)) → Z29 N c (k : Int) (i : Int) (j : Int) m.1 m.2.1 m.2.2 t0 t1 o0 o1 (fun out5_2 k1 i6 j7 m2_0 m2_1 m2_2 t4_0 t4_1 out5_0 out5_1 => Z16L N k2 M out5_2 k1 i6 j7 m2_0 m2_1 m2_2 t4_0 t4_1 out5_0 out5_1) = k2 (cur m k (i * m.1.toNat + m.1.toNat)) (k : Int) (i : Int) m.1 m.2.1 m.2.2 t0 t1 o0 o1 := by
    intro c hc
    subst hc
    simp only [Z29]
    rw [z1a (by rw [z0s]; omega)]
    exact ih (j + 1) h (by omega)
   simp only [Z26, Z27, Z28, hidx, Int.toNat_natCast, at_g (show 0 ≤ m.1 by omega)]
   by_cases hik : i = k
   ·rw [ct (dt (by omega)), ct' rfl, ct pij, ct iB, z19 (by omega) (by omega)]
    refine fin _ (hset _ ?_)
    rw [hF, dt hik, Int.zero_sub]; rfl
   ·rw [cf (df (by omega))]
    by_cases hjk : j = k
    ·rw [ct' (by rw [z1t]; exact dt (by omega)), ct pij, ct iB, z19 (by omega) (by omega)]
     refine fin _ (hset _ ?_)
     rw [hF, df hik, dt hjk, Int.zero_sub]; rfl
    ·rw [cf' (by rw [z1t]; exact df (by omega))]
     rw [df hik, df hjk] at hF
     simp only [zt1, Bool.or_self, Bool.false_eq_true, if_false] at hF
     have wbc : w64 (ent m i k * ent m k j) = ent m i k * ent m k j := z19 (by omega) (by omega)
     rw [wbc]
     by_cases a1 : 0 < ent m i k
     ·rw [ct (dt a1)]
      by_cases a2 : 0 < ent m k j
      ·rw [ct (dt a2), ct pij, ct iB, z19 (by omega) (by omega)]
       refine fin _ (hset _ ?_)
       rw [hF, if_pos ⟨a1, a2⟩]
      ·rw [cf (df a2), cf (df (by omega))]
       refine fin _ (hsame ?_)
       rw [hF, if_neg (by omega), if_neg (by omega)]
     ·rw [cf (df a1)]
      by_cases a2 : ent m i k < 0
      ·rw [ct (dt a2)]
       by_cases a3 : ent m k j < 0
       ·rw [ct (dt a3), ct pij, ct iB, z19 (by omega) (by omega)]
        refine fin _ (hset _ ?_)
        rw [hF, if_neg (by omega), if_pos ⟨a2, a3⟩]
       ·rw [cf (df a3)]
        refine fin _ (hsame ?_)
        rw [hF, if_neg (by omega), if_neg (by omega)]
      ·rw [cf (df a2)]
       refine fin _ (hsame ?_)
       rw [hF, if_neg (by omega), if_neg (by omega)]
  ·rw [cf (df (by omega)), show j = m.1.toNat by omega]
theorem outer (hN : 10 ≤ N) (hs : z1y m = true) (hk : k < m.1.toNat) (k0 : List Int → Int → Int → Int → Int → Option ρ) (t0 t1 o0 o1 : Int) : ∀ (M i : Nat), i ≤ m.2.1.toNat → m.2.1.toNat - i < M →
  Z8L N k0 M (cur m k (i * m.1.toNat)) (k : Int) (i : Int) m.1 m.2.1 m.2.2 t0 t1 o0 o1 = k0 (cur m k (m.2.1.toNat * m.1.toNat)) t0 t1 o0 o1 := by
 have hd := z23 hs
 obtain ⟨n, r, hn, hr, hn1, hn5, hnr, hr8, hl⟩ := z17 hd
 intro M
 induction M with
 | zero => intro i _ h; omega
 | succ M ih =>
  intro i hi hM
  simp only [Z8L, Z9, Z10]
  by_cases h : i < m.2.1.toNat
  ·rw [ct (dt (by omega))]
   simp only [Z11, Z12, Z13, Z14, Z15, Z16]
   have hin := inner (ρ := ρ) (N := N) hs hk (fun out5_2 k1 i6 m2_0 m2_1 m2_2 t4_0 t4_1 out5_0 out5_1 => Z30 N out5_2 k1 i6 m2_0 m2_1 m2_2 t4_0 t4_1 out5_0 out5_1 (fun out5_2 k1 i6 m2_0 m2_1 m2_2 t4_0 t4_1 out5_0 out5_1 => Z8L N k0 M out5_2 k1 i6 m2_0 m2_1 m2_2 t4_0 t4_1 out5_0 out5_1)) t0 t1 o0 o1 h N 0 (by omega) (by omega)
   rw [show ((0 : Nat) : Int) = 0 from rfl, Nat.add_zero] at hin
   rw [hin]
   simp only [Z30]
   rw [z1a (by rw [z0s]; omega)]
   have := ih (i + 1) h (by omega)
   rw [Nat.add_mul, Nat.one_mul] at this
   exact this
  ·rw [cf (df (by omega)), show i = m.2.1.toNat by omega]
end
theorem ok : Spec := fun m k hb hp => ⟨10, fun N hN => by
 simp only [P, Bool.and_eq_true, decide_eq_true_eq] at hp
 obtain ⟨hs, h0, h1⟩ := hp
 obtain ⟨x, rfl⟩ := Int.eq_ofNat_of_zero_le h0
 have hd := z23 hs
 obtain ⟨n, r, hn, hr, hn1, hn5, hnr, hr8, hl⟩ := z17 hd
 have hlen : m.2.2.length ≤ 8 * 5 := by rw [hl]; exact Nat.mul_le_mul hr8 hn5
 simp only [Z0, Z1, Z2, Z3]
 rw [ct (show z10.P (m.1, (m.2.1, m.2.2)) = true from dt (show m.2.2.length < 1099511627776 by omega))]
 simp only [Z4, Z5, Z6, Z7, Z8]
 have hstart : cur m x 0 = m.2.2 := by
  unfold cur
  rw [zk9]
  exact zej 0 rfl
 have hend : cur m x (m.2.1.toNat * m.1.toNat) = (z7o m x).2.2 := by
  have e : m.2.1.toNat * m.1.toNat = m.2.2.length := by rw [hl, hn, hr]; simp
  rw [e]
  exact zkb
 have := outer (ρ := Unit × (Int × Int × List Int) × Unit) hN hs (show x < m.1.toNat by omega) (fun out5_2 t4_0 t4_1 out5_0 out5_1 => Z31 N out5_2 t4_0 t4_1 out5_0 out5_1 (fun t4_2 t4_0 t4_1 => some ((), ((t4_0, (t4_1, t4_2)), ())))) 0 0 m.1 m.2.1 N 0 (by omega) (by omega)
 rw [Nat.zero_mul, hstart, hend] at this
 exact this⟩
end z0a
end
end Go.Fw
namespace Go.Fw
section
variable {ρ : Type}
namespace z0y
def g (m : Int × Int × List Int) (k : Int) : (Int × Int × List Int) × Bool :=
 if ((z26 m && !decide (z73 m = [])) && (inK k 0 (m.1 - 1) && z26 (z7o m k.toNat))) = true then (z7o m k.toNat, true) else ((0, 0, []), false)
end z0y
namespace z0y
def Z0 {ρ : Type} (N : Nat) (a : MT) (b : Int) (kr : LI → Bool → I2 (Option ρ)) : Option ρ :=
 cond (!(lk N ((z24.g a))))
 (
  kr ([] : List Int) false 0 0)
 (
  cond (!(lk N ((z35.g b 0 (w64 (a.1 - 1))))))
  (
   kr ([] : List Int) false 0 0)
  (
   cond (lk N (z0a.P a b)) (
    cond (!(lk N ((z0i.g (z0a.g a b)))))
    (
     kr ([] : List Int) false 0 0)
    (
     kr (z0a.g a b).2.2 true (z0a.g a b).1 (z0a.g a b).2.1)) none))
def Spec : Prop := ∀  (v0 : MT) (v1 : Int), Ty.bd (.pair (.int .i64) (.pair (.int .i64) (.sl 0 (.int .i64)))) v0 → ∃ N0, ∀ N, N0 ≤ N → Z0 N v0 v1 (fun v4_2 v5 v4_0 v4_1 => some ((), ((v4_0, (v4_1, v4_2)), (v5, ())))) = some ((), ((g v0 v1).1, ((g v0 v1).2, ())))
theorem ok : Spec := fun m k hb => ⟨0, fun N hN => by
 simp only [Z0, z1t, g, z24.g, z35.g, z0i.g]
 cases h1 : (z26 m && !decide (z73 m = []))
 ·rfl
 have hs : z26 m = true := by
  simp only [Bool.and_eq_true] at h1
  exact h1.1
 have hd := z23 (z1q hs)
 obtain ⟨n, r, hn, hr, hn1, hn5, hnr, hr8, hl⟩ := z17 hd
 rw [z19 (by omega) (by omega)]
 cases h2 : inK k 0 (m.1 - 1)
 ·rfl
 have h3 := z2l.1 h2
 have hP : z0a.P m k = true := by
  simp only [z0a.P, Bool.and_eq_true, decide_eq_true_eq]
  exact ⟨z1q hs, by omega, by omega⟩
 rw [hP]
 have hg : z0a.g m k = z7o m k.toNat := rfl
 rw [hg]
 cases z26 (z7o m k.toNat) <;> rfl⟩
end z0y
end
end Go.Fw
namespace Go.Fw
section
variable {ρ : Type}
namespace z0q
def P (b : List Int) (r : Int × Int) (n : Int) : Bool := z28 b r && inK n 0 5
def stepN (b : List Int) (s : (Int × Int) × List Int) (k : Nat) : (Int × Int) × List Int :=
 ((z00.g b s.1 ((s.2.length : Int) + 1)).1, s.2.take (z00.g b s.1 ((s.2.length : Int) + 1)).2.toNat ++ [(k : Int)] ++ s.2.drop (z00.g b s.1 ((s.2.length : Int) + 1)).2.toNat)
def g (b : List Int) (r : Int × Int) (n : Int) : (Int × Int) × List Int := (List.range n.toNat).foldl (stepN b) (r, [])
end z0q
namespace z0q
def Z1 {ρ : Type} (N : Nat) (b0 : List Int) (r0 : Int × Int) (a : Int) (kn : Int → List Int → I2 (Option ρ)) : Option ρ :=
 kn a b0 r0.1 r0.2
def Z3 {ρ : Type} (N : Nat) (a : Int) (b : List Int) (c d : Int) (kn : LI → Int → List Int → I2 (Option ρ)) : Option ρ :=
 kn ([] : List Int) a b c d
def Z6 {ρ : Type} (N : Nat) (a : LI) (b : Int) (c : List Int) (d e : Int) (kn : LI → I2 (List Int → I2 (Option ρ))) : Option ρ :=
 kn a b 0 c d e
def Z9 {ρ : Type} (N : Nat) (a : LI) (f b : Int) (c : List Int) (d e : Int) (kn : LI → I2 (List Int → I2 (Option ρ))) (k0 : LI → List Int → I2 (Option ρ)) : Option ρ :=
 let x1_ := (z00.g c (d, e) (w64 ((a.length : Int) + 1)))
 let x4_ := (lk N (leB 0 x1_.2 && leB x1_.2 a.length))
 let x7_ := (lk N (Nat.blt (([] : List Int).length + ((a.drop 0).take x1_.2.toNat).length) 1099511627776))
 let x8_ := (([] : List Int) ++ ((a.drop 0).take x1_.2.toNat))
 let x0_ := (
   cond (lk N (Nat.blt ((x8_ ++ ([b] : List Int)).length + ((a.drop x1_.2.toNat).take (a.length - x1_.2).toNat).length) 1099511627776)) (
   kn ((x8_ ++ ([b] : List Int)) ++ ((a.drop x1_.2.toNat).take (a.length - x1_.2).toNat)) f (w64 (b + 1)) c x1_.1.1 x1_.1.2) none)
 let x5_ := (lk N (Nat.blt (x8_.length + ([b] : List Int).length) 1099511627776))
 let x9_ := (
   z7w (
   cond x5_ (
   cond x4_ x0_ none) none)
   (
   cond x4_ (
   cond x5_ x0_ none) none))
 let x2_ := (
   cond x7_ (
   cond x5_ x0_ none) none)
 let x3_ := (
   z7w (
   cond x7_ x9_ none)
   (
   cond x4_ x2_ none))
 let x6_ := (
   z7w (
   cond x7_ (
   z7w x9_
   (
   cond x4_ (
   cond x5_ x0_ none) none)) none)
   (
   z7w x3_
   (
   cond x4_ (
   bo x2_) none)))
 let x10_ := (
   z7w (
   cond x4_ x3_ none)
   (
   cond x4_ (
   cond x4_ x2_ none) none))
 let x11_ := (
   z7w (
   cond x4_ (
   bo x2_) none)
   (
   cond x4_ x2_ none))
 cond (lk N (decide (b < f)))
 (
 cond (lk N (z00.P c (d, e) (w64 ((a.length : Int) + 1)))) (
 z7w (
 z7w (
 cond x4_ x6_ none)
 (
 z7w x10_
 (
 cond x4_ x11_ none)))
 (
 z7w (
 cond x4_ (
 z7w x6_
 (
 z7w (
 z7w x3_
 (
 cond x4_ x2_ none))
 (
 cond x4_ (
 z7w (
 bo x2_)
 x2_) none))) none)
 (
 z7w (
 z7w x10_
 (
 z7w (
 cond x4_ (
 z7w x3_
 (
 cond x4_ x2_ none)) none)
 (
 cond x4_ (
 bo (
 cond x4_ x2_ none)) none)))
 (
 cond x4_ (
 z7w x11_
 (
 z7w (
 cond x4_ (
 z7w (
 bo x2_)
 x2_) none)
 (
 bo (
 cond x4_ x2_ none)))) none)))) none)
 (
 k0 a c d e)
def Z8L {ρ : Type} (N : Nat) (k0 : LI → List Int → I2 (Option ρ)) : Nat → LI → Int → Int → List Int → Int → Int → Option ρ
 | 0, _, _, _, _, _, _ => none
 | M + 1, a, b, c, d, e, f => Z9 N a b c d e f (fun a b c d e f => Z8L N k0 M a b c d e f) k0
def Z8 N a b c d e f k0 := (Z8L N k0 N a b c d e f : Option ρ)
def Z7 N a b c d e f kn := (Z8 N a b c d e f kn : Option ρ)
def Z5 N a b c d e kn := (Z6 N a b c d e (fun a b f c d e => Z7 N a b f c d e kn) : Option ρ)
def Z10 {ρ : Type} (N : Nat) (a : LI) (b : List Int) (c d : Int) (kr : LI → List Int → I2 (Option ρ)) : Option ρ :=
 kr a b c d
def Z4 N a e b c d kr := (Z5 N a e b c d (fun a b c d => Z10 N a b c d kr) : Option ρ)
def Z2 N a b c d kr := (Z3 N a b c d (fun e a b c d => Z4 N e a b c d kr) : Option ρ)
def Z0 N b0 r0 a kr := (Z1 N b0 r0 a (fun a b c d => Z2 N a b c d kr) : Option ρ)
def Spec : Prop := ∀ {U : Type} (u : U) (b0 : List Int) (r0 : Int × Int) (v1 : Int), Ty.bd (.sl 0 (.int .u8)) b0 → P b0 r0 v1 = true → ∃ N0, ∀ N, N0 ≤ N → Z0 N b0 r0 v1 (fun v4 w0_0 w0_1 w0_2 => some (u, ((w0_1, w0_2), ((), (v4, ()))))) = some (u, ((g b0 r0 v1).1, ((), ((g b0 r0 v1).2, ()))))
theorem zke (b : List Int) (s : (Int × Int) × List Int) (k : Nat) : (stepN b s k).2.Perm ((k : Int) :: s.2) := by
 unfold stepN
 generalize (z00.g b s.1 ((s.2.length : Int) + 1)).2.toNat = q
 simp only
 have h : (s.2.take q ++ [(k : Int)] ++ s.2.drop q).Perm ([(k : Int)] ++ s.2.take q ++ s.2.drop q) := List.Perm.append_right _ List.perm_append_comm
 rw [List.append_assoc [(k : Int)], List.take_append_drop] at h
 exact h
theorem zhd (b : List Int) : ∀ (l : List Nat) (s : (Int × Int) × List Int), (l.foldl (stepN b) s).2.Perm (z3t l ++ s.2)
 | [], s => List.Perm.refl _
 | k :: l, s => by
  rw [List.foldl_cons]
  refine (zhd b l (stepN b s k)).trans ?_
  show (z3t l ++ (stepN b s k).2).Perm ((k : Int) :: (z3t l ++ s.2))
  refine (List.Perm.append_left _ (zke b s k)).trans ?_
  exact List.perm_middle
theorem keeps (b : List Int) : ∀ (l : List Nat) (s : (Int × Int) × List Int), z28 b s.1 = true → z28 b (l.foldl (stepN b) s).1 = true
 | [], _, h => h
 | k :: l, s, h => keeps b l (stepN b s k) (z00.keep h)
theorem keep {b : List Int} {r : Int × Int} {n : Int} (h : z28 b r = true) : z28 b (g b r n).1 = true := keeps b _ _ h
theorem names_of {l : List Int} {n : Nat} (h : l.Perm (z3t (List.range n))) : zbw l (n : Int) = true := by
 have hl : l.length = n := by rw [h.length_eq, z1u, List.length_range]
 have hnd : l.Nodup := by
  refine h.nodup_iff.2 ?_
  unfold z3t
  refine List.Pairwise.map _ (fun a b hab => ?_) (List.nodup_range (n := n))
  show ((a : Nat) : Int) ≠ ((b : Nat) : Int)
  omega
 simp only [zbw, Bool.and_eq_true, decide_eq_true_eq]
 refine ⟨by omega, List.all_eq_true.2 fun i hi => ?_⟩
 have hi := List.mem_range.1 hi
 have hm := z1o (l := l) (j := i) 0 hi
 have hm2 := h.mem_iff.1 hm
 unfold z3t at hm2
 obtain ⟨x, hx, hxe⟩ := List.mem_map.1 hm2
 have hx := List.mem_range.1 hx
 simp only [znl, Bool.and_eq_true, z2l, Bool.not_eq_true', List.any_eq_false, decide_eq_true_eq]
 refine ⟨by omega, fun y hy e => ?_⟩
 obtain ⟨j, hj, hje⟩ := List.getElem_of_mem hy
 rw [List.length_take] at hj
 rw [List.getElem_take] at hje
 have : l[j]'(by omega) = l[i] := by
  rw [hje, e, List.getD_eq_getElem?_getD, List.getElem?_eq_getElem hi]
  rfl
 exact (List.pairwise_iff_getElem.1 hnd) j i (by omega) hi (by omega) this
theorem names {b : List Int} {r : Int × Int} (n : Nat) : zbw (g b r (n : Int)).2 (n : Int) = true := by
 have := zhd b (List.range n) (r, [])
 rw [List.append_nil] at this
 refine names_of ?_
 unfold g
 rw [Int.toNat_natCast]
 exact this
theorem loop {ρ : Type} {N : Nat} {b : List Int} (kk : List Int → List Int → Int → Int → Option ρ) {n : Nat} (hn : n ≤ 5) : ∀ (M k : Nat) (s : (Int × Int) × List Int), k ≤ n → z28 b s.1 = true → s.2.length = k → n - k < M →
  Z8L N kk M s.2 (n : Int) (k : Int) b s.1.1 s.1.2 = kk (((List.range n).drop k).foldl (stepN b) s).2 b (((List.range n).drop k).foldl (stepN b) s).1.1 (((List.range n).drop k).foldl (stepN b) s).1.2 := by
 intro M
 induction M with
 | zero => intro k s _ _ _ h; omega
 | succ M ih =>
  intro k s hk hs hl hM
  simp only [Z8L, Z9]
  by_cases h : k < n
  ·have es : ((s.1.1, s.1.2) : Int × Int) = s.1 := rfl
   have w0 : w64 ((s.2.length : Int) + 1) = (s.2.length : Int) + 1 := z19 (by omega) (by omega)
   have hr := z00.range (b := b) (r := s.1) (n := (s.2.length : Int) + 1) (by omega) (by omega)
   have hP : z00.P b s.1 ((s.2.length : Int) + 1) = true := hs
   have hst : stepN b s k = ((z00.g b s.1 ((s.2.length : Int) + 1)).1, s.2.take (z00.g b s.1 ((s.2.length : Int) + 1)).2.toNat ++ [(k : Int)] ++ s.2.drop (z00.g b s.1 ((s.2.length : Int) + 1)).2.toNat) := rfl
   have hstl : (stepN b s k).2.length = k + 1 := by
    have := (zke b s k).length_eq
    rw [List.length_cons] at this
    omega
   have hkeep : z28 b (stepN b s k).1 = true := z00.keep hs
   rw [ct (dt (by omega)), z2v h, List.foldl_cons]
   have nxt := ih (k + 1) (stepN b s k) h hkeep hstl (by omega)
   rw [hst] at nxt ⊢
   rw [← nxt]
   simp only [es, w0]
   generalize hx : z00.g b s.1 ((s.2.length : Int) + 1) = x at hr
   obtain ⟨q, hq⟩ := Int.eq_ofNat_of_zero_le hr.1
   have hq1 : q ≤ s.2.length := by omega
   have c1 : (leB 0 x.2 && leB x.2 s.2.length) = true := by rw [hq, zrz (by omega), zrz (by omega)]; rfl
   have c2 : ∀ l : List Int, l.length ≤ 20 → ∀ m : List Int, m.length ≤ 20 → Nat.blt (l.length + m.length) 1099511627776 = true := fun l h1 m h2 => Nat.ble_eq_true_of_le (by omega)
   have l1 : ((s.2.drop 0).take x.2.toNat).length ≤ 6 := by rw [List.length_take, List.length_drop]; omega
   have l2 : ((s.2.drop x.2.toNat).take ((s.2.length : Int) - x.2).toNat).length ≤ 6 := by rw [List.length_take, List.length_drop]; omega
   have e2 : (s.2.drop x.2.toNat).take ((s.2.length : Int) - x.2).toNat = s.2.drop x.2.toNat := List.take_of_length_le (by rw [List.length_drop]; omega)
   have w1 : w64 ((k : Int) + 1) = ((k + 1 : Nat) : Int) := z1a (by rw [z0s]; omega)
   have l3 : (s.2.take x.2.toNat).length ≤ 6 := by rw [List.length_take]; omega
   have l4 : (s.2.drop x.2.toNat).length ≤ 6 := by rw [List.length_drop]; omega
   have d1 := c2 [] (by simp) (s.2.take x.2.toNat) (by omega)
   have d2 := c2 (s.2.take x.2.toNat) (by omega) [(k : Int)] (by simp)
   have d3 := c2 (s.2.take x.2.toNat ++ [(k : Int)]) (by rw [List.length_append, List.length_singleton]; omega) (s.2.drop x.2.toNat) (by omega)
   simp only [z1t, hP, c1, d1, d2, d3, cond_true, z3f, w1, e2, List.nil_append, List.drop_zero, hx]
  ·rw [cf (df (by omega)), List.drop_of_length_le (by rw [List.length_range]; omega)]
   rfl
theorem ok : Spec := fun u b r n hb hp => ⟨10, fun N hN => by
 simp only [P, Bool.and_eq_true, z2l] at hp
 obtain ⟨h, h0, h5⟩ := hp
 obtain ⟨k, rfl⟩ := Int.eq_ofNat_of_zero_le h0
 simp only [Z0, Z1, Z2, Z3, Z4, Z5, Z6, Z7, Z8]
 refine (loop _ (by omega) N 0 (r, []) (Nat.zero_le _) h rfl (by omega)).trans ?_
 rw [List.drop_zero]
 rfl⟩
end z0q
end
end Go.Fw
namespace Go.Fw
section
variable {ρ : Type}
namespace z0h
def P (m : Int × Int × List Int) (names : List Int) : Bool := z3s m && zbw names m.1
def g (m : Int × Int × List Int) (names : List Int) : Int × Int × List Int := zth m names
end z0h
namespace z0h
def Z1 {ρ : Type} (N : Nat) (a : MT) (b : LI) (kn : LI → I2 (LI → I2 (Option ρ))) : Option ρ :=
 kn b a.1 a.2.1 a.2.2 0 0
def Z3 {ρ : Type} (N : Nat) (d : LI) (a b : Int) (c : LI) (e f : Int) (kn : LI → LI → I2 (LI → I4 (Option ρ))) : Option ρ :=
 cond (lk N (z10.P (a, (b, c)))) (
  kn (z10.g (a, (b, c))).2.2 d a b c e f (z10.g (a, (b, c))).1 (z10.g (a, (b, c))).2.1) none
def Z6 {ρ : Type} (N : Nat) (a b : LI) (c d : Int) (e : LI) (f g h i : Int) (kn : LI → LI → I3 (LI → I4 (Option ρ))) : Option ρ :=
 kn a b 0 c d e f g h i
def Z10 {ρ : Type} (N : Nat) (a h : LI) (b i c : Int) (j : LI) (d e f g : Int) (kn : LI → LI → I3 (LI → I4 (Option ρ))) (k0 : LI → I4 (Option ρ)) : Option ρ :=
 cond (lk N (decide (b < c)))
 (
  kn a h b i c j d e f g)
 (
  k0 a d e f g)
def Z14 {ρ : Type} (N : Nat) (b c : LI) (a d e : Int) (f : LI) (g h i j : Int) (kn : LI → LI → I4 (LI → I4 (Option ρ))) : Option ρ :=
 kn b c a a d e f g h i j
def Z16 {ρ : Type} (N : Nat) (d b : LI) (a l c e : Int) (f : LI) (g h i j : Int) (kn : LI → LI → I4 (LI → I4 (Option ρ))) : Option ρ :=
 cond (lk N (decide (a < c)))
 (
  cond (lk N (inB a b.length)) (
   kn d b a (b.getD a.toNat 0) c e f g h i j) none)
 (
  kn d b a l c e f g h i j)
def Z18 {ρ : Type} (N : Nat) (a b : LI) (c d e f : Int) (g : LI) (h i j l : Int) (kn : LI → LI → I5 (LI → I4 (Option ρ))) : Option ρ :=
 kn a b c d 0 e f g h i j l
def Z21 {ρ : Type} (N : Nat) (h c : LI) (d i a b e : Int) (f : LI) (j l m o : Int) (kn : LI → LI → I5 (LI → I4 (Option ρ))) (k2 : LI → LI → I3 (LI → I4 (Option ρ))) : Option ρ :=
 cond (lk N (decide (a < b)))
 (
  cond (lk N (inB a c.length)) (
   cond (lk N (z0o.P (b, (e, f)) d a)) (
    cond (lk N (inB (w64 ((w64 (i * b)) + (c.getD a.toNat 0))) h.length)) (
     kn (h.set (w64 ((w64 (i * b)) + (c.getD a.toNat 0))).toNat (z0o.g (b, (e, f)) d a)) c d i (w64 (a + 1)) b e f j l m o) none) none) none)
 (
  k2 h c d b e f j l m o)
def Z20L {ρ : Type} (N : Nat) (k2 : LI → LI → I3 (LI → I4 (Option ρ))) : Nat → LI → LI → Int → Int → Int → Int → Int → LI → Int → Int → Int → Int → Option ρ
 | 0, _, _, _, _, _, _, _, _, _, _, _, _ => none
 | M + 1, a, b, c, d, e, f, g, h, i, j, l, m => Z21 N a b c d e f g h i j l m (fun a b c d e f g h i j l m => Z20L N k2 M a b c d e f g h i j l m) k2
def Z20 N a b c d e f g h i j l m k2 := (Z20L N k2 N a b c d e f g h i j l m : Option ρ)
def Z19 N a b c d e f g h i j l m kn := (Z20 N a b c d e f g h i j l m kn : Option ρ)
def Z17 N a b c d e f g h i j l kn := (Z18 N a b c d e f g h i j l (fun a b c d m e f g h i j l => Z19 N a b c d m e f g h i j l kn) : Option ρ)
def Z15 N a b c d e f g h i j l kn := (Z16 N a b c d e f g h i j l (fun a b c d e f g h i j l => Z17 N a b c d e f g h i j l kn) : Option ρ)
def Z13 N a b c d e f g h i j kn := (Z14 N a b c d e f g h i j (fun a b c l d e f g h i j => Z15 N a b c l d e f g h i j kn) : Option ρ)
def Z12 N a b c d e f g h i j kn := (Z13 N a b c d e f g h i j kn : Option ρ)
def Z22 {ρ : Type} (N : Nat) (a b : LI) (c d e : Int) (f : LI) (g h i j : Int) (kn : LI → LI → I3 (LI → I4 (Option ρ))) : Option ρ :=
 kn a b (w64 (c + 1)) d e f g h i j
def Z11 N a b c d e f g h i j kn := (Z12 N a b c d e f g h i j (fun a b c d e f g h i j => Z22 N a b c d e f g h i j kn) : Option ρ)
def Z9 N a b c d e f g h i j kn k0 := (Z10 N a b c d e f g h i j (fun a b c d e f g h i j => Z11 N a b c d e f g h i j kn) k0 : Option ρ)
def Z8L {ρ : Type} (N : Nat) (k0 : LI → I4 (Option ρ)) : Nat → LI → LI → Int → Int → Int → LI → Int → Int → Int → Int → Option ρ
 | 0, _, _, _, _, _, _, _, _, _, _ => none
 | M + 1, a, b, c, d, e, f, g, h, i, j => Z9 N a b c d e f g h i j (fun a b c d e f g h i j => Z8L N k0 M a b c d e f g h i j) k0
def Z8 N a b c d e f g h i j k0 := (Z8L N k0 N a b c d e f g h i j : Option ρ)
def Z7 N a b c d e f g h i j kn := (Z8 N a b c d e f g h i j kn : Option ρ)
def Z5 N a b c d e f g h i kn := (Z6 N a b c d e f g h i (fun a b j c d e f g h i => Z7 N a b j c d e f g h i kn) : Option ρ)
def Z23 {ρ : Type} (N : Nat) (a : LI) (d e b c : Int) (kr : LI → I2 (Option ρ)) : Option ρ :=
 kr a b c
def Z4 N a f g h i b c d e kr := (Z5 N a f g h i b c d e (fun a b c d e => Z23 N a b c d e kr) : Option ρ)
def Z2 N a b c d e f kr := (Z3 N a b c d e f (fun g a b c d e f h i => Z4 N g a b c d e f h i kr) : Option ρ)
def Z0 N b a kr := (Z1 N b a (fun a c d e f g => Z2 N a c d e f g kr) : Option ρ)
def Spec : Prop := ∀  (v0 : MT) (v1 : LI), Ty.bd (.pair (.int .i64) (.pair (.int .i64) (.sl 0 (.int .i64)))) v0 → Ty.bd (.sl 0 (.int .i64)) v1 → P v0 v1 = true → ∃ N0, ∀ N, N0 ≤ N → Z0 N v0 v1 (fun v4_2 v4_0 v4_1 => some ((), ((v4_0, (v4_1, v4_2)), ()))) = some ((), ((g v0 v1), ()))
section
variable {ρ : Type} {N : Nat} {m : Int × Int × List Int} {L : List Nat}
theorem at_g (hd : 0 ≤ m.1) (a b : Nat) : z0o.g (m.1, (m.2.1, m.2.2)) (a : Int) (b : Int) = ent m a b := z7m hd a b
theorem at_p (hd : z3s m = true) {a b : Nat} (ha : a < m.2.1.toNat) (hb : b < m.1.toNat) : z0o.P (m.1, (m.2.1, m.2.2)) (a : Int) (b : Int) = true := zju hd ha hb
def cur (m : Int × Int × List Int) (L : List Nat) (st : List Int) (t : Nat) : List Int := ztd m.2.2.length t (zcj m.1.toNat L) (fun p => m.2.2.getD (zcj m.1.toNat L p) 0) (fun p => st.getD p 0)
theorem inner (hd : z3s m = true) (h1 : L.Nodup) (h2 : ∀ x ∈ L, x < m.1.toNat) (h3 : L.length = m.1.toNat) (st : List Int) (k2 : List Int → List Int → Int → Int → Int → List Int → Int → Int → Int → Int → Option ρ) (t0 t1 o0 o1 : Int) {i : Nat} (hi : i < m.2.1.toNat) : ∀ (M j : Nat), j ≤ m.1.toNat → m.1.toNat - j < M →
  Z20L N k2 M (cur m L st (i * m.1.toNat + j)) (z3t L) (i : Int) ((zey m.1.toNat L i : Nat) : Int) (j : Int) m.1 m.2.1 m.2.2 t0 t1 o0 o1 = k2 (cur m L st (i * m.1.toNat + m.1.toNat)) (z3t L) (i : Int) m.1 m.2.1 m.2.2 t0 t1 o0 o1 := by
 obtain ⟨n, r, hn, hr, hn1, hn5, hnr, hr8, hl⟩ := z17 hd
 have hnr' : m.1.toNat ≤ m.2.1.toNat := by omega
 intro M
 induction M with
 | zero => intro j _ h; omega
 | succ M ih =>
  intro j hj hM
  simp only [Z20L, Z21]
  by_cases h : j < m.1.toNat
  ·have hx := h2 _ (z1o (l := L) (j := j) 0 (by omega))
   have hrow := rowN_lt h1 h2 h3 hnr' hi
   have hlt : zey m.1.toNat L i * m.1.toNat + L.getD j 0 < m.2.2.length := by
    have := z9b (n := m.1.toNat) (r := m.2.1.toNat) hrow hx
    rw [hl]
    have e : m.2.1.toNat * m.1.toNat = r * n := by rw [hn, hr]; rfl
    omega
   have hidx : w64 (w64 (((zey m.1.toNat L i : Nat) : Int) * m.1) + ((L.getD j 0 : Nat) : Int)) = ((zey m.1.toNat L i * m.1.toNat + L.getD j 0 : Nat) : Int) := by
    have e : ((zey m.1.toNat L i : Nat) : Int) * m.1 = ((zey m.1.toNat L i * m.1.toNat : Nat) : Int) := by rw [hn, Int.natCast_mul]; simp
    have hb : zey m.1.toNat L i * m.1.toNat ≤ 8 * 5 := Nat.mul_le_mul (by omega) (by omega)
    have e2 : w64 (((zey m.1.toNat L i * m.1.toNat : Nat) : Int)) = ((zey m.1.toNat L i * m.1.toNat : Nat) : Int) := z19 (by omega) (by omega)
    rw [e, e2, z19 (by omega) (by omega)]
    omega
   have hset : (cur m L st (i * m.1.toNat + j)).set (zey m.1.toNat L i * m.1.toNat + L.getD j 0) (ent m i j) = cur m L st (i * m.1.toNat + (j + 1)) := by
    have e := scat_set (total := m.2.2.length) (t := i * m.1.toNat + j) (p := zey m.1.toNat L i * m.1.toNat + L.getD j 0) (back := zcj m.1.toNat L) (F := fun p => m.2.2.getD (zcj m.1.toNat L p) 0) (G := fun p => st.getD p 0) hlt (zr4 h1 h2 h3 hnr' h) (fun q _ hq => back_inj h1 h2 h3 hnr' h hq)
    simp only [zr4 h1 h2 h3 hnr' h] at e
    exact e
   rw [ct (dt (by omega)), ct (z1b (by rw [z1u]; omega)), ct (at_p hd hi h)]
   simp only [Int.toNat_natCast, z3u, hidx]
   rw [ct (z1b (by rw [cur, zeg]; exact hlt)), at_g (by omega), hset, z1a (by rw [z0s]; omega)]
   exact ih (j + 1) h (by omega)
  ·rw [cf (df (by omega)), show j = m.1.toNat by omega]
theorem outer (hN : 10 ≤ N) (hd : z3s m = true) (h1 : L.Nodup) (h2 : ∀ x ∈ L, x < m.1.toNat) (h3 : L.length = m.1.toNat) (st : List Int) (k0 : List Int → Int → Int → Int → Int → Option ρ) (t0 t1 o0 o1 : Int) : ∀ (M i : Nat), i ≤ m.2.1.toNat → m.2.1.toNat - i < M →
  Z8L N k0 M (cur m L st (i * m.1.toNat)) (z3t L) (i : Int) m.1 m.2.1 m.2.2 t0 t1 o0 o1 = k0 (cur m L st (m.2.1.toNat * m.1.toNat)) t0 t1 o0 o1 := by
 obtain ⟨n, r, hn, hr, hn1, hn5, hnr, hr8, hl⟩ := z17 hd
 intro M
 induction M with
 | zero => intro i _ h; omega
 | succ M ih =>
  intro i hi hM
  simp only [Z8L, Z9, Z10]
  by_cases h : i < m.2.1.toNat
  ·have hin := inner (ρ := ρ) (N := N) hd h1 h2 h3 st (fun out5_2 names1 i6 m2_0 m2_1 m2_2 t4_0 t4_1 out5_0 out5_1 => Z22 N out5_2 names1 i6 m2_0 m2_1 m2_2 t4_0 t4_1 out5_0 out5_1 (fun out5_2 names1 i6 m2_0 m2_1 m2_2 t4_0 t4_1 out5_0 out5_1 => Z8L N k0 M out5_2 names1 i6 m2_0 m2_1 m2_2 t4_0 t4_1 out5_0 out5_1)) t0 t1 o0 o1 h N 0 (by omega) (by omega)
   rw [show ((0 : Nat) : Int) = 0 from rfl, Nat.add_zero] at hin
   have hnext := ih (i + 1) h (by omega)
   rw [Nat.add_mul, Nat.one_mul] at hnext
   rw [ct (dt (by omega))]
   simp only [Z11, Z12, Z13, Z14, Z15, Z16]
   by_cases hin' : i < m.1.toNat
   ·rw [ct (dt (by omega)), ct (z1b (by rw [z1u]; omega)), Int.toNat_natCast, z3u]
    rw [zey, if_pos hin'] at hin
    simp only [Z17, Z18, Z19, Z20]
    rw [hin]
    simp only [Z22]
    rw [z1a (by rw [z0s]; omega)]
    exact hnext
   ·rw [cf (df (by omega))]
    rw [zey, if_neg hin'] at hin
    simp only [Z17, Z18, Z19, Z20]
    rw [hin]
    simp only [Z22]
    rw [z1a (by rw [z0s]; omega)]
    exact hnext
  ·rw [cf (df (by omega)), show i = m.2.1.toNat by omega]
theorem y1o (L : List Nat) : cur m L m.2.2 0 = m.2.2 := by
 unfold cur
 rw [ztb]
 exact zej 0 rfl
theorem cur_end (hd : z3s m = true) (h1 : L.Nodup) (h2 : ∀ x ∈ L, x < m.1.toNat) (h3 : L.length = m.1.toNat) (st : List Int) : cur m L st (m.2.1.toNat * m.1.toNat) = (zth m (z3t L)).2.2 := by
 obtain ⟨n, r, hn, hr, hn1, hn5, hnr, hr8, hl⟩ := z17 hd
 have e : m.2.1.toNat * m.1.toNat = m.2.2.length := by rw [hl, hn, hr]; simp
 rw [e]
 unfold cur zth
 rw [z9n]
 exact ztc (fun p hp => by
  have := back_lt h1 h2 h3 (r := m.2.1.toNat) (by omega) (by omega) (q := p) (by omega)
  omega)
end
theorem ok : Spec := fun m names hb hv hp => ⟨10, fun N hN => by
 simp only [P, Bool.and_eq_true] at hp
 obtain ⟨hd, hnm⟩ := hp
 obtain ⟨L, rfl, h1, h2, h3⟩ := zf8 hnm
 obtain ⟨n, r, hn, hr, hn1, hn5, hnr, hr8, hl⟩ := z17 hd
 have hlen : m.2.2.length ≤ 8 * 5 := by rw [hl]; exact Nat.mul_le_mul hr8 hn5
 simp only [Z0, Z1, Z2, Z3]
 rw [ct (show z10.P (m.1, (m.2.1, m.2.2)) = true from dt (show m.2.2.length < 1099511627776 by omega))]
 simp only [Z4, Z5, Z6, Z7, Z8]
 have := outer (ρ := Unit × (Int × Int × List Int) × Unit) hN hd h1 h2 h3 m.2.2 (fun out5_2 t4_0 t4_1 out5_0 out5_1 => Z23 N out5_2 t4_0 t4_1 out5_0 out5_1 (fun t4_2 t4_0 t4_1 => some ((), ((t4_0, (t4_1, t4_2)), ())))) 0 0 m.1 m.2.1 N 0 (by omega) (by omega)
 rw [Nat.zero_mul, y1o, cur_end hd h1 h2 h3] at this
 exact this⟩
end z0h
end
end Go.Fw
namespace Go.Fw
section
variable {ρ : Type}
namespace z0k
def P (b : List Int) (r : Int × Int) (m : Int × Int × List Int) : Bool := z28 b r && z3s m
abbrev S := (Int × Int) × (Int × Int × List Int)
def moveS (b : List Int) (s : S) : S :=
 ((z00.g b s.1 s.2.1).1, if (z0y.g s.2 (z00.g b s.1 s.2.1).2).2 = true then (z0y.g s.2 (z00.g b s.1 s.2.1).2).1 else s.2)
def walkS (b : List Int) : Nat → S → S
 | 0, s => s
 | n + 1, s => walkS b n (moveS b s)
def walked (b : List Int) (r : Int × Int) (m : Int × Int × List Int) : S := walkS b (z00.g b r 4).2.toNat ((z00.g b r 4).1, m)
def g (b : List Int) (r : Int × Int) (m : Int × Int × List Int) : (Int × Int) × (Int × Int × List Int) :=
 ((z0q.g b (walked b r m).1 (walked b r m).2.1).1, z0h.g (walked b r m).2 (z0q.g b (walked b r m).1 (walked b r m).2.1).2)
end z0k
namespace z0k
def Z1 {ρ : Type} (N : Nat) (b0 : List Int) (r0 : Int × Int) (a : MT) (kn : List Int → I4 (LI → I2 (Option ρ))) : Option ρ :=
 kn b0 r0.1 r0.2 a.1 a.2.1 a.2.2 0 0
def Z3 {ρ : Type} (N : Nat) (a : List Int) (b c d e : Int) (f : LI) (h i : Int) (kn : Int → List Int → I4 (LI → I2 (Option ρ))) : Option ρ :=
 cond (lk N (z00.P a (b, c) 4)) (
  kn (z00.g a (b, c) 4).2 a (z00.g a (b, c) 4).1.1 (z00.g a (b, c) 4).1.2 d e f h i) none
def Z6 {ρ : Type} (N : Nat) (a : Int) (b : List Int) (c d e f : Int) (g : LI) (h i : Int) (kn : I2 (List Int → I4 (LI → I2 (Option ρ)))) : Option ρ :=
 kn a 0 b c d e f g h i
def Z9 {ρ : Type} (N : Nat) (c d : Int) (a : List Int) (e f b h : Int) (i : LI) (j l : Int) (kn : I2 (List Int → I4 (LI → I2 (Option ρ)))) (k0 : List Int → I4 (LI → I2 (Option ρ))) : Option ρ :=
 let x1_ := (z00.g a (e, f) b)
 let x2_ := (z0y.g (b, (h, i)) x1_.2)
 let x3_ := (lk N (z00.P a (e, f) b))
 let x0_ := (
   cond (lk N (x2_.2))
   (
   kn c (w64 (d + 1)) a x1_.1.1 x1_.1.2 x2_.1.1 x2_.1.2.1 x2_.1.2.2 j l)
   (
   kn c (w64 (d + 1)) a x1_.1.1 x1_.1.2 b h i j l))
 cond (lk N (decide (d < c)))
 (
 z7w (
 z7w (
 cond x3_ (
 bo x0_) none)
 (
 cond x3_ x0_ none))
 (
 z7w (
 cond x3_ (
 z7w (
 bo x0_)
 x0_) none)
 (
 bo (
 cond x3_ x0_ none))))
 (
 k0 a e f b h i j l)
def Z8L {ρ : Type} (N : Nat) (k0 : List Int → I4 (LI → I2 (Option ρ))) : Nat → Int → Int → List Int → Int → Int → Int → Int → LI → Int → Int → Option ρ
 | 0, _, _, _, _, _, _, _, _, _, _ => none
 | M + 1, a, b, c, d, e, f, g, h, i, j => Z9 N a b c d e f g h i j (fun a b c d e f g h i j => Z8L N k0 M a b c d e f g h i j) k0
def Z8 N a b c d e f g h i j k0 := (Z8L N k0 N a b c d e f g h i j : Option ρ)
def Z7 N a b c d e f g h i j kn := (Z8 N a b c d e f g h i j kn : Option ρ)
def Z5 N a b c d e f g h i kn := (Z6 N a b c d e f g h i (fun a j b c d e f g h i => Z7 N a j b c d e f g h i kn) : Option ρ)
def Z10 {ρ : Type} (N : Nat) (b : List Int) (c d a e : Int) (f : LI) (h i : Int) (kr : LI → I2 (List Int → I2 (Option ρ))) : Option ρ :=
 bo (
  cond (lk N (z0q.P b (c, d) a)) (
   cond (lk N (z0h.P (a, (e, f)) (z0q.g b (c, d) a).2)) (
    kr (z0h.g (a, (e, f)) (z0q.g b (c, d) a).2).2.2 (z0h.g (a, (e, f)) (z0q.g b (c, d) a).2).1 (z0h.g (a, (e, f)) (z0q.g b (c, d) a).2).2.1 b (z0q.g b (c, d) a).1.1 (z0q.g b (c, d) a).1.2) none) none)
def Z4 N i a b c d e f g h kr := (Z5 N i a b c d e f g h (fun a b c d e f g h => Z10 N a b c d e f g h kr) : Option ρ)
def Z2 N a b c d e f g h kr := (Z3 N a b c d e f g h (fun i a b c d e f g h => Z4 N i a b c d e f g h kr) : Option ρ)
def Z0 N b0 r0 a kr := (Z1 N b0 r0 a (fun b c d e f g h i => Z2 N b c d e f g h i kr) : Option ρ)
def Spec : Prop := ∀ {U : Type} (u : U) (b0 : List Int) (r0 : Int × Int) (v1 : MT), Ty.bd (.sl 0 (.int .u8)) b0 → Ty.bd (.pair (.int .i64) (.pair (.int .i64) (.sl 0 (.int .i64)))) v1 → P b0 r0 v1 = true → ∃ N0, ∀ N, N0 ≤ N → Z0 N b0 r0 v1 (fun v4_2 v4_0 v4_1 w0_0 w0_1 w0_2 => some (u, ((w0_1, w0_2), ((), ((v4_0, (v4_1, v4_2)), ()))))) = some (u, ((g b0 r0 v1).1, ((), ((g b0 r0 v1).2, ()))))
theorem mut_step {m : Int × Int × List Int} {k : Int} (h : (z0y.g m k).2 = true) : (z0y.g m k).1 = z7o m k.toNat := by
 unfold z0y.g at h ⊢
 split at h
 ·rename_i hc
  rw [if_pos hc]
 ·cases h
structure J (b : List Int) (n q : Int) (s : S) : Prop where
 cur : z28 b s.1 = true
 dim : z3s s.2 = true
 hn : s.2.1 = n
 hr : s.2.2.1 = q
theorem J.move {b : List Int} {n q : Int} {s : S} (h : J b n q s) : J b n q (moveS b s) := by
 unfold moveS
 by_cases hc : (z0y.g s.2 (z00.g b s.1 s.2.1).2).2 = true
 ·rw [if_pos hc, mut_step hc]
  exact ⟨z00.keep h.cur, zge h.dim _, h.hn, h.hr⟩
 ·rw [if_neg hc]
  exact ⟨z00.keep h.cur, h.dim, h.hn, h.hr⟩
theorem J.walk {b : List Int} {n q : Int} : ∀ (c : Nat) {s : S}, J b n q s → J b n q (walkS b c s)
 | 0, _, h => h
 | c + 1, s, h => J.walk c h.move
theorem zij {b : List Int} {r : Int × Int} {m : Int × Int × List Int} (h : z28 b r = true) (hd : z3s m = true) : J b m.1 m.2.1 (walked b r m) :=
 J.walk _ ⟨z00.keep h, hd, rfl, rfl⟩
theorem keep {b : List Int} {r : Int × Int} {m : Int × Int × List Int} (h : z28 b r = true) (hd : z3s m = true) : z28 b (g b r m).1 = true := z0q.keep (zij h hd).cur
theorem dim {b : List Int} {r : Int × Int} {m : Int × Int × List Int} (h : z28 b r = true) (hd : z3s m = true) : z3s (g b r m).2 = true ∧ (g b r m).2.1 = m.1 ∧ (g b r m).2.2.1 = m.2.1 := by
 have hj := zij h hd
 refine ⟨?_, hj.hn, hj.hr⟩
 have := hj.dim
 simpa [z3s, g, z0h.g, zth] using this
theorem loop {ρ : Type} {N : Nat} {b : List Int} (kk : List Int → Int → Int → Int → Int → List Int → Int → Int → Option ρ) (t0 t1 n0 q0 : Int) {c : Nat} (hc : c ≤ 5) : ∀ (M i : Nat) (s : S), i ≤ c → J b n0 q0 s → c - i < M →
  Z8L N kk M (c : Int) (i : Int) b s.1.1 s.1.2 s.2.1 s.2.2.1 s.2.2.2 t0 t1 = kk b (walkS b (c - i) s).1.1 (walkS b (c - i) s).1.2 (walkS b (c - i) s).2.1 (walkS b (c - i) s).2.2.1 (walkS b (c - i) s).2.2.2 t0 t1 := by
 intro M
 induction M with
 | zero => intro i s _ _ h; omega
 | succ M ih =>
  intro i s hi hs hM
  simp only [Z8L, Z9]
  by_cases h : i < c
  ·have es : ((s.1.1, s.1.2) : Int × Int) = s.1 := rfl
   have em : ((s.2.1, (s.2.2.1, s.2.2.2)) : Int × Int × List Int) = s.2 := rfl
   have hP : z00.P b s.1 s.2.1 = true := hs.cur
   have w1 : w64 ((i : Int) + 1) = ((i + 1 : Nat) : Int) := z1a (by rw [z0s]; omega)
   rw [ct (dt (by omega))]
   have nxt := ih (i + 1) (moveS b s) h hs.move (by omega)
   have ec : c - i = (c - (i + 1)) + 1 := by omega
   rw [ec]
   show _ = kk b (walkS b (c - (i + 1)) (moveS b s)).1.1 (walkS b (c - (i + 1)) (moveS b s)).1.2 (walkS b (c - (i + 1)) (moveS b s)).2.1 (walkS b (c - (i + 1)) (moveS b s)).2.2.1 (walkS b (c - (i + 1)) (moveS b s)).2.2.2 t0 t1
   rw [← nxt]
   simp only [z1t, es, em, hP, cond_true, z3f, w1]
   unfold moveS
   cases hq : (z0y.g s.2 (z00.g b s.1 s.2.1).2).2
   ·rw [if_neg (by simp)]
    rfl
   ·rw [if_pos rfl]
    rfl
  ·rw [cf (df (by omega)), show c - i = 0 by omega]
   rfl
theorem ok : Spec := fun u b r m hb hbm hp => ⟨10, fun N hN => by
 simp only [P, Bool.and_eq_true] at hp
 obtain ⟨h, hd⟩ := hp
 have h0 := z00.keep (n := 4) h
 have p0 : z00.P b r 4 = true := h
 have er : ((r.1, r.2) : Int × Int) = r := rfl
 have hr := z00.range (b := b) (r := r) (n := 4) (by omega) (by omega)
 simp only [Z0, Z1, Z2, Z3, z1t, er, p0, cond_true, Z4, Z5, Z6, Z7, Z8]
 have hj := zij h hd
 obtain ⟨c, hc⟩ := Int.eq_ofNat_of_zero_le hr.1
 have hw : walked b r m = walkS b (c - 0) ((z00.g b r 4).1, m) := by
  unfold walked
  rw [hc]
  rfl
 rw [hc]
 refine (loop _ 0 0 m.1 m.2.1 (by omega) N 0 ((z00.g b r 4).1, m) (Nat.zero_le _) ⟨h0, hd, rfl, rfl⟩ (by omega)).trans ?_
 simp only [g]
 rw [← hw]
 have es : (((walked b r m).1.1, (walked b r m).1.2) : Int × Int) = (walked b r m).1 := rfl
 have em : (((walked b r m).2.1, ((walked b r m).2.2.1, (walked b r m).2.2.2)) : Int × Int × List Int) = (walked b r m).2 := rfl
 obtain ⟨n, q, hn, _, hn1, hn5, _⟩ := z17 hj.dim
 have pn : z0q.P b (walked b r m).1 (walked b r m).2.1 = true := by
  simp only [z0q.P, Bool.and_eq_true, z2l]
  exact ⟨hj.cur, by omega, by omega⟩
 have hnm : zbw (z0q.g b (walked b r m).1 (walked b r m).2.1).2 (walked b r m).2.1 = true := by
  rw [hn]
  exact z0q.names n
 have pr : z0h.P (walked b r m).2 (z0q.g b (walked b r m).1 (walked b r m).2.1).2 = true := by
  simp only [z0h.P, Bool.and_eq_true]
  exact ⟨hj.dim, hnm⟩
 simp only [Z10, z1t, es, em, pn, pr, cond_true, z3f]⟩
end z0k
end
end Go.Fw
namespace Go.Fw
section
variable {ρ : Type}
namespace z1d
def P (b : List Int) (r : Int × Int) (most : Int) : Bool := z28 b r && inK most 1 4
def g (b : List Int) (r : Int × Int) (most : Int) : (Int × Int) × (Int × Int × List Int) × ByteArray :=
 ((z0k.g b (spec_dTree.g b r most).1 (spec_dTree.g b r most).2.1).1, (z0k.g b (spec_dTree.g b r most).1 (spec_dTree.g b r most).2.1).2, (spec_dTree.g b r most).2.2)
end z1d
namespace z1d
def Z0 {ρ : Type} (N : Nat) (b0 : List Int) (r0 : Int × Int) (a : Int) (kr : LI → ByteArray → I2 (List Int → I2 (Option ρ))) : Option ρ :=
 cond (lk N (spec_dTree.P b0 r0 a)) (
  cond (lk N (z0k.P b0 (spec_dTree.g b0 r0 a).1 (spec_dTree.g b0 r0 a).2.1)) (
   kr (z0k.g b0 (spec_dTree.g b0 r0 a).1 (spec_dTree.g b0 r0 a).2.1).2.2.2 (spec_dTree.g b0 r0 a).2.2 (z0k.g b0 (spec_dTree.g b0 r0 a).1 (spec_dTree.g b0 r0 a).2.1).2.1 (z0k.g b0 (spec_dTree.g b0 r0 a).1 (spec_dTree.g b0 r0 a).2.1).2.2.1 b0 (z0k.g b0 (spec_dTree.g b0 r0 a).1 (spec_dTree.g b0 r0 a).2.1).1.1 (z0k.g b0 (spec_dTree.g b0 r0 a).1 (spec_dTree.g b0 r0 a).2.1).1.2) none) none
def Spec : Prop := ∀ {U : Type} (u : U) (b0 : List Int) (r0 : Int × Int) (v1 : Int), Ty.bd (.sl 0 (.int .u8)) b0 → P b0 r0 v1 = true → ∃ N0, ∀ N, N0 ≤ N → Z0 N b0 r0 v1 (fun v4_2 v5 v4_0 v4_1 w0_0 w0_1 w0_2 => some (u, ((w0_1, w0_2), ((), ((v4_0, (v4_1, v4_2)), (v5, ())))))) = some (u, ((g b0 r0 v1).1, ((), ((g b0 r0 v1).2.1, ((g b0 r0 v1).2.2, ())))))
theorem facts {b : List Int} {r : Int × Int} {most : Int} (h : z28 b r = true) (h1 : 1 ≤ most) (h4 : most ≤ 4) : z28 b (g b r most).1 = true ∧ z3s (g b r most).2.1 = true ∧ (g b r most).2.1.1 ≤ 4 ∧ (g b r most).2.1.2.1 = (g b r most).2.1.1 := by
 obtain ⟨q, q1, q4, hj⟩ := spec_dTree.facts h h1 h4
 obtain ⟨d1, d2, d3⟩ := z0k.dim hj.cur hj.dim
 have e1 := hj.hn
 have e2 := hj.hr
 exact ⟨z0k.keep hj.cur hj.dim, d1, by show (z0k.g b _ _).2.1 ≤ 4; rw [d2, e1]; exact q4, by show (z0k.g b _ _).2.2.1 = (z0k.g b _ _).2.1; rw [d2, d3, e1, e2]⟩
theorem ok : Spec := fun u b r most hb hp => ⟨0, fun N hN => by
 simp only [P, Bool.and_eq_true, z2l] at hp
 obtain ⟨q, q1, q4, hj⟩ := spec_dTree.facts hp.1 hp.2.1 hp.2.2
 have p1 : spec_dTree.P b r most = true := by
  simp only [spec_dTree.P, Bool.and_eq_true, z2l]
  exact ⟨hp.1, hp.2⟩
 have p2 : z0k.P b (spec_dTree.g b r most).1 (spec_dTree.g b r most).2.1 = true := by
  simp only [z0k.P, Bool.and_eq_true]
  exact ⟨hj.cur, hj.dim⟩
 simp only [Z0, z1t, p1, p2, cond_true]
 rfl⟩
end z1d
end
end Go.Fw
namespace Go.Fw
section
variable {ρ : Type}
namespace z13
def P (b : List Int) (r : Int × Int) : Bool := z28 b r
def g (b : List Int) (r : Int × Int) : (Int × Int) × (Int × Int × List Int) :=
 if (z0n.g b r 3).2 = true then z0f.g b (z0n.g b r 3).1 else ((z1d.g b (z0n.g b r 3).1 4).1, (z1d.g b (z0n.g b r 3).1 4).2.1)
end z13
namespace z13
def Z0 {ρ : Type} (N : Nat) (b0 : List Int) (r0 : Int × Int) (kr : LI → I2 (List Int → I2 (Option ρ))) : Option ρ :=
 cond (lk N (z0n.P b0 r0 3)) (
  cond (lk N ((z0n.g b0 r0 3).2))
  (
   cond (lk N (z0f.P b0 (z0n.g b0 r0 3).1)) (
    kr (z0f.g b0 (z0n.g b0 r0 3).1).2.2.2 (z0f.g b0 (z0n.g b0 r0 3).1).2.1 (z0f.g b0 (z0n.g b0 r0 3).1).2.2.1 b0 (z0f.g b0 (z0n.g b0 r0 3).1).1.1 (z0f.g b0 (z0n.g b0 r0 3).1).1.2) none)
  (
   cond (lk N (z1d.P b0 (z0n.g b0 r0 3).1 4)) (
    kr (z1d.g b0 (z0n.g b0 r0 3).1 4).2.1.2.2 (z1d.g b0 (z0n.g b0 r0 3).1 4).2.1.1 (z1d.g b0 (z0n.g b0 r0 3).1 4).2.1.2.1 b0 (z1d.g b0 (z0n.g b0 r0 3).1 4).1.1 (z1d.g b0 (z0n.g b0 r0 3).1 4).1.2) none)) none
def Spec : Prop := ∀ {U : Type} (u : U) (b0 : List Int) (r0 : Int × Int), Ty.bd (.sl 0 (.int .u8)) b0 → P b0 r0 = true → ∃ N0, ∀ N, N0 ≤ N → Z0 N b0 r0 (fun v2_2 v2_0 v2_1 w0_0 w0_1 w0_2 => some (u, ((w0_1, w0_2), ((), ((v2_0, (v2_1, v2_2)), ()))))) = some (u, ((g b0 r0).1, ((), ((g b0 r0).2, ()))))
theorem wild4 (b : List Int) (r : Int × Int) : (z0f.g b r).2.1 ≤ 4 := by
 unfold z0f.g
 split
 ·show (3 : Int) ≤ 4
  decide
 split
 ·show (2 : Int) ≤ 4
  decide
 split
 ·show (3 : Int) ≤ 4
  decide
 ·show (4 : Int) ≤ 4
  decide
theorem facts {b : List Int} {r : Int × Int} (h : z28 b r = true) : z28 b (g b r).1 = true ∧ z3s (g b r).2 = true ∧ (g b r).2.1 ≤ 4 ∧ (g b r).2.2.1 = (g b r).2.1 := by
 have h0 := z0n.keep (n := 3) h
 unfold g
 split
 ·have := z0f.dim h0
  exact ⟨z0f.keep h0, this.1, wild4 b _, this.2.symm⟩
 ·exact z1d.facts h0 (by omega) (by omega)
theorem ok : Spec := fun u b r hb hp => ⟨0, fun N hN => by
 have h0 := z0n.keep (n := 3) hp
 have p0 : z0n.P b r 3 = true := hp
 have p1 : z0f.P b (z0n.g b r 3).1 = true := h0
 have p2 : z1d.P b (z0n.g b r 3).1 4 = true := by
  simp only [z1d.P, Bool.and_eq_true, z2l]
  exact ⟨h0, by omega, by omega⟩
 simp only [Z0, z1t, p0, p1, p2, cond_true, g]
 cases (z0n.g b r 3).2
 ·rw [if_neg (by simp)]
  rfl
 ·rw [if_pos rfl]
  rfl⟩
end z13
end
end Go.Fw
namespace Go.Fw
def zgu (_ : Nat) : Int := 1
theorem z83 (i : Nat) : 0 < zgu i := by
 show (0 : Int) < 1
 decide
theorem zgh {b : List Int} {d : Nat → Int} : ∀ (l : List Nat) {s : spec_dTree.S}, (∀ i ∈ l, i + 1 < s.2.1.toNat ∧ d i = d (i + 1)) → z2j s.2 d → z2j (l.foldl (spec_dTree.chainS b) s).2 d ∧ (l.foldl (spec_dTree.chainS b) s).2.1 = s.2.1
 | [], _, _, h => ⟨h, rfl⟩
 | i :: l, s, hl, h => by
  obtain ⟨h1, h2⟩ := hl i List.mem_cons_self
  have g : z2j (spec_dTree.chainS b s i).2 d := z32 h rfl (show (i : Int) + 1 = ((i + 1 : Nat) : Int) by omega) (by omega) h1 (by omega) (by omega) (by omega) (by rw [h2])
  exact zgh l (s := spec_dTree.chainS b s i) (fun x hx => hl x (List.mem_cons_of_mem _ hx)) g
theorem zhe {b : List Int} : ∀ (l : List Nat) {s : spec_dTree.S}, (∀ i ∈ l, 0 < i ∧ i < s.2.1.toNat) → z2j s.2 zgu → z2j (l.foldl (spec_dTree.starS b) s).2 zgu
 | [], _, _, h => h
 | i :: l, s, hl, h => by
  obtain ⟨h1, h2⟩ := hl i List.mem_cons_self
  have g : z2j (spec_dTree.starS b s i).2 zgu := z32 (i := 0) (j := i) h rfl rfl (by omega) h2 (by omega) (by omega) (by omega) rfl
  exact zhe l (s := spec_dTree.starS b s i) (fun x hx => hl x (List.mem_cons_of_mem _ hx)) g
theorem zdr {b : List Int} {r : Int × Int} {n c : Nat} {d : Nat → Int} (hd : ∀ i, 0 < d i) (h1 : 1 ≤ n) (h4 : n ≤ 4) (hc : ∀ i, i < c → i + 1 < n ∧ d i = d (i + 1)) : z2j (spec_dTree.chainG b r n c).2 d ∧ (spec_dTree.chainG b r n c).2.1 = (n : Int) := by
 refine zgh (List.range c) (s := (r, z05.g (n : Int))) (fun i hi => ?_) (z49 (by omega) (by omega) hd)
 have := hc i (List.mem_range.1 hi)
 exact this
def lastD (n : Nat) (x y : Int) (i : Nat) : Int := if i + 1 < n then x else y
theorem zrf {b : List Int} {r : Int × Int} (k : Int) {n : Nat} (h1 : 1 ≤ n) (h4 : n ≤ 4) (hk : k = 4 ∨ k = 5 → 2 ≤ n) : ∃ d, z2j (spec_dTree.tree b r k n).1.2 d := by
 have big : ∀ (x y u v : Int), 2 ≤ n → 0 < u → 0 < v → -99 ≤ x ∧ x ≤ 99 → -99 ≤ y ∧ y ≤ 99 → u * x = v * y → ∃ d, z2j (spec_dTree.endB b (spec_dTree.chainG b r n (n - 2)) n x y).2 d := by
  intro x y u v h2 hu hv hx hy he
  obtain ⟨g1, g2⟩ := zdr (b := b) (r := r) (n := n) (c := n - 2) (d := lastD n u v) (fun i => by unfold lastD; split <;> omega) h1 h4 (fun i hi => ⟨by omega, by unfold lastD; rw [if_pos (by omega), if_pos (by omega)]⟩)
  refine ⟨_, z32 (i := n - 2) (j := n - 1) g1 (show (n : Int) - 2 = ((n - 2 : Nat) : Int) by omega) (show (n : Int) - 1 = ((n - 1 : Nat) : Int) by omega) (by omega) (by omega) (by omega) hx hy ?_⟩
  unfold lastD
  rw [if_pos (by omega), if_neg (by omega)]
  exact he
 unfold spec_dTree.tree
 split
 ·rename_i e
  exact big 2 1 1 2 (hk (.inl e)) (by omega) (by omega) (by omega) (by omega) (by omega)
 split
 ·rename_i e
  split
  ·exact big 2 1 1 2 (hk (.inr e)) (by omega) (by omega) (by omega) (by omega) (by omega)
  ·exact big 1 2 2 1 (hk (.inr e)) (by omega) (by omega) (by omega) (by omega) (by omega)
 split
 ·exact ⟨zgu, z49 (by omega) (by omega) z83⟩
 split
 ·exact ⟨fun i => if i = 0 then 1 else 3, z32 (i := 0) (j := 1) (z49 (n := 2) (by omega) (by omega) (fun i => by split <;> omega)) rfl rfl (by decide) (by decide) (by omega) (by omega) (by omega) (by decide)⟩
 split
 ·exact ⟨zgu, zhe _ (fun i hi => by
   have : i ∈ (List.range 4).drop 1 := hi
   have h : ∀ i ∈ (List.range 4).drop 1, 0 < i ∧ i < 4 := by decide
   exact h i this) (z49 (n := 4) (by omega) (by omega) z83)⟩
 split
 ·let d : Nat → Int := fun i => if i < 2 then 1 else 2
  have z : z2j (z05.g 4) d := z49 (by omega) (by omega) (fun i => by show 0 < (if i < 2 then (1 : Int) else 2); split <;> omega)
  have z1 : z2j (spec_dTree.f1 b r).2 d := z32 (i := 0) (j := 1) z rfl rfl (by decide) (by decide) (by omega) (by omega) (by omega) (by decide)
  have z2 : z2j (spec_dTree.f2 b r).2 d := z32 (i := 1) (j := 2) z1 rfl rfl (show 1 < 4 by decide) (show 2 < 4 by decide) (by omega) (by omega) (by omega) (by decide)
  exact ⟨d, z32 (i := 2) (j := 3) z2 rfl rfl (show 2 < 4 by decide) (show 3 < 4 by decide) (by omega) (by omega) (by omega) (by decide)⟩
 split
 ·exact ⟨zgu, z32 (i := 0) (j := 1) (z49 (n := 3) (by omega) (by omega) z83) rfl rfl (by decide) (by decide) (by omega) (by omega) (by omega) (by decide)⟩
 ·exact ⟨zgu, (zdr z83 h1 h4 (fun i hi => ⟨by omega, rfl⟩)).1⟩
theorem kinds {k n most : Int} (h : spec_dTree.k2 (spec_dTree.k1 k n most) most = 4 ∨ spec_dTree.k2 (spec_dTree.k1 k n most) most = 5) : 2 ≤ n := by
 unfold spec_dTree.k2 spec_dTree.k1 at h
 by_cases hn : n < 2
 ·exfalso
  rw [dt hn] at h
  by_cases h4 : 4 ≤ k <;> by_cases h6 : k ≤ 6 <;> by_cases h7 : k = 7 <;> by_cases hm : most < 2 <;> simp [h4, h6, h7, hm] at h <;> first | omega | (revert h; generalize (decide (k = 8) && decide (most < 4)) = b1; generalize (decide (k = 9) && decide (most < 4)) = b2; generalize (decide (k = 10) && decide (most < 3)) = b3; intro h; cases b1 <;> cases b2 <;> cases b3 <;> simp at h <;> omega) | skip
 ·omega
theorem treeD {b : List Int} {r : Int × Int} {most : Int} (h1 : 1 ≤ most) (h4 : most ≤ 4) : ∃ d, z2j (spec_dTree.g b r most).2.1 d := by
 have rn := z00.range (b := b) (r := (z00.g b r 11).1) (n := most) h1 (by omega)
 refine zrf (b := b) _ (n := (1 + (z00.g b (z00.g b r 11).1 most).2).toNat) (by omega) (by omega) fun h => ?_
 have := kinds h
 omega
theorem zrt {b : List Int} {d : Nat → Int} {s : z0k.S} (h : z2j s.2 d) (hc : z28 b s.1 = true) : z2j (z0k.moveS b s).2 d ∧ (z0k.moveS b s).2.1 = s.2.1 ∧ z28 b (z0k.moveS b s).1 = true := by
 unfold z0k.moveS
 refine ⟨?_, ?_, z00.keep hc⟩
 ·by_cases hq : (z0y.g s.2 (z00.g b s.1 s.2.1).2).2 = true
  ·simp only [hq, if_true]
   rw [z0k.mut_step hq]
   unfold z0y.g at hq
   split at hq
   ·rename_i h3
    simp only [Bool.and_eq_true] at h3
    have := z2l.1 h3.2.1
    exact h.mut (by omega) h3.2.2
   ·cases hq
  ·simp only [hq]
   exact h
 ·by_cases hq : (z0y.g s.2 (z00.g b s.1 s.2.1).2).2 = true
  ·simp only [hq, if_true]
   rw [z0k.mut_step hq]
   rfl
  ·simp only [hq]
   rfl
theorem zh9 {b : List Int} {d : Nat → Int} : ∀ (c : Nat) {s : z0k.S}, z2j s.2 d → z28 b s.1 = true → z2j (z0k.walkS b c s).2 d
 | 0, _, h, _ => h
 | c + 1, s, h, hc => by
  obtain ⟨h1, h2, h3⟩ := zrt h hc
  exact zh9 c h1 h3
theorem movedD {b : List Int} {r : Int × Int} {m : Int × Int × List Int} {d : Nat → Int} (h : z2j m d) (hc : z28 b r = true) : ∃ d', z2j (z0k.g b r m).2 d' := by
 have hw : z2j (z0k.walked b r m).2 d := zh9 _ h (z00.keep hc)
 obtain ⟨n, q, hn, _⟩ := z17 hw.dim
 refine ⟨_, z2j.ren hw ?_⟩
 rw [hn]
 exact z0q.names n
theorem finiteD {b : List Int} {r : Int × Int} {most : Int} (h : z28 b r = true) (h1 : 1 ≤ most) (h4 : most ≤ 4) : ∃ d, z2j (z1d.g b r most).2.1 d := by
 obtain ⟨d, hd⟩ := treeD (b := b) (r := r) h1 h4
 obtain ⟨q, _, _, hj⟩ := spec_dTree.facts h h1 h4
 exact movedD hd hj.cur
theorem zns {m : Int × Int × List Int} (h : ∀ u, u < m.1.toNat → ∀ v, v < m.1.toNat → ent m u v = -ent m v u) : z9u m.1.toNat (ent m) zgu := fun u hu => ⟨z83 u, fun v hv => by
 show 1 * ent m u v = -(1 * ent m v u)
 rw [h u hu v hv]; omega⟩
theorem zkx : z2j z0f.markov zgu := by
 refine ⟨by decide +kernel, zns ?_⟩
 show ∀ u, u < 3 → ∀ v, v < 3 → ent z0f.markov u v = -ent z0f.markov v u
 decide +kernel
theorem twoD {b : List Int} {r : Int × Int} : ∃ d, z2j (z0f.two b r).2 d := by
 have r1 := z00.range (b := b) (r := r) (n := 4) (by omega) (by omega)
 have r2 := z00.range (b := b) (r := (z00.g b r 4).1) (n := 4) (by omega) (by omega)
 let d : Nat → Int := fun i => if i = 0 then 1 + (z00.g b (z00.g b r 4).1 4).2 else 1 + (z00.g b r 4).2
 refine ⟨d, z32 (i := 0) (j := 1) (z49 (n := 2) (by omega) (by omega) (fun i => ?_)) rfl rfl (by decide) (by decide) (by omega) (by omega) (by omega) ?_⟩
 ·show 0 < (if i = 0 then 1 + (z00.g b (z00.g b r 4).1 4).2 else 1 + (z00.g b r 4).2)
  split <;> omega
 ·show (1 + (z00.g b (z00.g b r 4).1 4).2) * (1 + (z00.g b r 4).2) = (1 + (z00.g b r 4).2) * (1 + (z00.g b (z00.g b r 4).1 4).2)
  exact Int.mul_comm _ _
theorem threeD {b : List Int} {r : Int × Int} : z2j (z0f.three b r).2 zgu := by
 have z1 : z2j (z0f.j1 b r).2 zgu := z32 (i := 0) (j := 1) (z49 (n := 3) (by omega) (by omega) z83) rfl rfl (by decide) (by decide) (by omega) (by omega) (by omega) (by decide)
 have z2 : z2j (z0f.j2 b r).2 zgu := z32 (i := 1) (j := 2) z1 rfl rfl (show 1 < 3 by decide) (show 2 < 3 by decide) (by omega) (by omega) (by omega) (by decide)
 have rr := z00.range (b := b) (r := (z0f.j2 b r).1) (n := 2) (by omega) (by omega)
 let x : Int := 1 + (z00.g b (z0f.j2 b r).1 2).2
 have hx : 1 ≤ x ∧ x ≤ 2 := by show 1 ≤ 1 + _ ∧ 1 + _ ≤ (2 : Int); omega
 let s : Bool := (z0n.g b (z00.g b (z0f.j2 b r).1 2).1 2).2
 have z3 : z2j (z08.joinM s (z0f.j2 b r).2 0 2 x x) zgu := z32 (i := 0) (j := 2) z2 rfl rfl (show 0 < 3 by decide) (show 2 < 3 by decide) (by omega) (by omega) (by omega) rfl
 have hl : (z0f.j2 b r).2.2.2.length = 9 := by simp [z0f.j2, z0f.j1, z08.g, z08.joinM, z05.g]
 have e : (z0f.three b r).2 = z08.joinM s (z0f.j2 b r).2 0 2 x x := by
  have h1 : (z0f.j3 b r).2.2.2 = ((z0f.j2 b r).2.2.2.set 2 (if s = true then -x else x)).set 6 (if s = true then 1 else -1) := rfl
  have h2 : (((z0f.j2 b r).2.2.2.set 2 (if s = true then -x else x)).set 6 (if s = true then 1 else -1)).getD 2 0 = if s = true then -x else x := by
   rw [List.getD_eq_getElem?_getD, List.getElem?_set_ne (by decide), List.getElem?_set_self (by omega)]
   rfl
  have h3 : w64 (0 - (if s = true then -x else x)) = if s = true then x else -x := by
   split
   ·rw [z19 (by omega) (by omega)]; omega
   ·rw [z19 (by omega) (by omega)]; omega
  show ((3 : Int), (3 : Int), (z0f.j3 b r).2.2.2.set 6 (w64 (0 - (z0f.j3 b r).2.2.2.getD 2 0))) = (3, 3, ((z0f.j2 b r).2.2.2.set 2 (if s = true then -x else x)).set 6 (if s = true then x else -x))
  rw [h1, h2, h3, List.set_set]
 rw [e]
 exact z3
theorem zrg {b : List Int} {i j : Nat} {s : (Int × Int) × List Int} (hj : j < i) (hi : i < 4) (h : z2j (4, 4, s.2) zgu) : z2j (4, 4, (z0f.step4 b i s j).2) zgu := by
 have rr := z00.range (b := b) (r := s.1) (n := 5) (by omega) (by omega)
 have := z32 (s := false) (i := i) (j := j) (a := (z00.g b s.1 5).2 - 2) (c := (z00.g b s.1 5).2 - 2) h rfl rfl hi (show j < 4 by omega) (by omega) (by omega) (by omega) rfl
 have e1 : ((i : Int) * 4 + (j : Int)).toNat = i * 4 + j := by omega
 have e2 : ((j : Int) * 4 + (i : Int)).toNat = j * 4 + i := by omega
 have e3 : -((z00.g b s.1 5).2 - 2) = 2 - (z00.g b s.1 5).2 := by omega
 have e : z08.joinM false (4, 4, s.2) (i : Int) (j : Int) ((z00.g b s.1 5).2 - 2) ((z00.g b s.1 5).2 - 2) = (4, 4, (z0f.step4 b i s j).2) := by
  unfold z08.joinM z0f.step4
  simp only [e1, e2, e3, Bool.false_eq_true, if_false]
 rwa [e] at this
theorem zet {b : List Int} {i : Nat} (hi : i < 4) : ∀ (l : List Nat) {s : (Int × Int) × List Int}, (∀ j ∈ l, j < i) → z2j (4, 4, s.2) zgu → z2j (4, 4, (l.foldl (z0f.step4 b i) s).2) zgu
 | [], _, _, h => h
 | j :: l, _, hl, h => zet hi l (fun x hx => hl x (List.mem_cons_of_mem _ hx)) (zrg (hl j List.mem_cons_self) hi h)
theorem zhg {b : List Int} : ∀ (l : List Nat) {s : (Int × Int) × List Int}, (∀ i ∈ l, i < 4) → z2j (4, 4, s.2) zgu → z2j (4, 4, (l.foldl (z0f.row4 b) s).2) zgu
 | [], _, _, h => h
 | i :: l, _, hl, h => zhg l (fun x hx => hl x (List.mem_cons_of_mem _ hx)) (zet (hl i List.mem_cons_self) (List.range i) (fun j hj => List.mem_range.1 hj) h)
theorem wildD {b : List Int} {r : Int × Int} : ∃ d, z2j (z0f.g b r).2 d := by
 unfold z0f.g
 split
 ·exact ⟨_, zkx⟩
 split
 ·exact twoD
 split
 ·exact ⟨_, threeD⟩
 ·exact ⟨zgu, zhg (List.range 4) (s := ((z00.g b r 4).1, List.replicate 16 0)) (fun i hi => List.mem_range.1 hi) (z49 (n := 4) (by omega) (by omega) z83)⟩
theorem matrixD {b : List Int} {r : Int × Int} (h : z28 b r = true) : ∃ d, z2j (z13.g b r).2 d := by
 unfold z13.g
 split
 ·exact wildD
 ·exact finiteD (z0n.keep h) (by omega) (by omega)
end Go.Fw
namespace Go.Fw
theorem zuq {n : Nat} {A : Nat → Nat → Int} {d : Nat → Int} (h : z9u n A d) {u : Nat} (hu : u < n) : A u u = 0 := by
 have h1 := (h u hu).1
 have h2 := (h u hu).2 u hu
 have h3 : d u * A u u = 0 := by omega
 rcases Int.mul_eq_zero.1 h3 with h4 | h4
 ·omega
 ·exact h4
theorem good_neg {n : Nat} {A : Nat → Nat → Int} {d : Nat → Int} (h : z9u n A d) {u v : Nat} (hu : u < n) (hv : v < n) (hp : 0 < A u v) : A v u < 0 := by
 have h1 := (h u hu).1
 have h2 := (h u hu).2 v hv
 have h3 := (h v hv).1
 have h4 := Int.mul_pos h1 hp
 rcases Int.lt_or_le (A v u) 0 with h5 | h5
 ·exact h5
 ·have := Int.mul_nonneg (Int.le_of_lt h3) h5; omega
theorem zav {n : Nat} {A : Nat → Nat → Int} {d : Nat → Int} (h : z9u n A d) {u v : Nat} (hu : u < n) (hv : v < n) (hp : A u v ≤ 0) : 0 ≤ A v u := by
 rcases Int.lt_or_le (A v u) 0 with h5 | h5
 ·have h1 := (h u hu).1
  have h2 := (h u hu).2 v hv
  have h3 := (h v hv).1
  have h4 := Int.mul_neg_of_pos_of_neg h3 h5
  have := Int.mul_nonpos_of_nonneg_of_nonpos (Int.le_of_lt h1) hp
  omega
 ·exact h5
theorem y22 {m : Int × Int × List Int} {d : Nat → Int} (h : z2j m d) (hn : m.1.toNat ≤ 2) : Acy m.1.toNat (z6h m) := by
 refine ⟨fun x => if 0 < ent m 0 1 then x else 1 - x, fun u v hu hv he => ?_⟩
 have he : 0 < ent m u v := of_decide_eq_true he
 have hne : u ≠ v := fun e => by
  subst e
  have := zuq h.good hu
  omega
 have hu0 : u = 0 ∨ u = 1 := by omega
 show (if 0 < ent m 0 1 then u else 1 - u) < if 0 < ent m 0 1 then v else 1 - v
 rcases hu0 with rfl | rfl
 ·have : v = 1 := by omega
  subst this
  rw [if_pos he, if_pos he]; omega
 ·have : v = 0 := by omega
  subst this
  have := good_neg h.good hu hv he
  rw [if_neg (by omega), if_neg (by omega)]; omega
theorem acy_sink {m : Int × Int × List Int} (h : Acy m.1.toNat (z6h m)) (hn : 1 ≤ m.1.toNat) : ∃ k, k < m.1.toNat ∧ ∀ j, j < m.1.toNat → ent m k j ≤ 0 := by
 obtain ⟨f, hf⟩ := h.flip
 obtain ⟨k, h1, _, h3⟩ := zd4 (n := m.1.toNat) (p := fun _ => true) f (f 0) 0 (Nat.le_refl _) (by omega) rfl
 refine ⟨k, h1, fun j hj => ?_⟩
 rcases Int.lt_or_le 0 (ent m k j) with h4 | h4
 ·have := hf j k hj h1 (dt h4)
  have := h3 j hj rfl
  omega
 ·exact h4
theorem zmq {m : Int × Int × List Int} {d : Nat → Int} (h : z2j m d) {k : Nat} (hk : k < m.1.toNat) (hs : ∀ j, j < m.1.toNat → ent m k j ≤ 0) {i j : Nat} (hi : i < m.1.toNat) (hj : j < m.1.toNat) :
  ent (z7o m k) i j = if i = k ∨ j = k then -(ent m i j) else ent m i j := by
 obtain ⟨n, r, en, hr, hn1, hn5, hnr, hr8, hl⟩ := z17 h.dim
 rw [zb9 h.dim (by omega) hj]
 have hb := zav h.good hk hi (hs i hi)
 have hc := hs j hj
 by_cases e : i = k ∨ j = k
 ·rw [if_pos e]
  have : (decide (i = k) || decide (j = k)) = true := by simpa using e
  rw [this, zt1, if_pos rfl]
 ·rw [if_neg e]
  have : (decide (i = k) || decide (j = k)) = false := by
   rw [Bool.or_eq_false_iff]
   exact ⟨df fun q => e (.inl q), df fun q => e (.inr q)⟩
  rw [this, zt1, if_neg (by simp), if_neg (by omega), if_neg (by omega)]
theorem mut_sink {m : Int × Int × List Int} {d : Nat → Int} (h : z2j m d) (hsq : m.2.1 = m.1) {k : Nat} (hk : k < m.1.toNat) (hs : ∀ j, j < m.1.toNat → ent m k j ≤ 0) : z26 (z7o m k) = true := by
 obtain ⟨n, r, en, hr, hn1, hn5, hnr, hr8, hl⟩ := z17 h.dim
 refine z2j.sizes (d := d) ⟨z5m.2 ⟨zge h.dim k, fun x hx => ?_⟩, zc0 h.dim hk h.good⟩
 obtain ⟨p, hp, rfl⟩ := List.mem_map.1 hx
 have hp : p < m.2.2.length := List.mem_range.1 hp
 have e0 : m.1.toNat = n := by omega
 have hrn : r = n := by omega
 have hp2 : p < n * n := by rw [hl, hrn] at hp; exact hp
 have hi : p / n < n := Nat.div_lt_of_lt_mul hp2
 have hj : p % n < n := Nat.mod_lt _ (by omega)
 have hb := zav h.good hk (show p / n < m.1.toNat by omega) (hs _ (by omega))
 have hc := hs (p % n) (by omega)
 have ha : -99 ≤ m.2.2.getD p 0 ∧ m.2.2.getD p 0 ≤ 99 := by
  have := z5m.1 h.shaped
  exact this.2 _ (z1o 0 hp)
 unfold zu5 zt1
 rw [e0]
 split
 ·omega
 ·rw [if_neg (by omega), if_neg (by omega)]
  exact ha
theorem acy_mut {m : Int × Int × List Int} {d : Nat → Int} (h : z2j m d) {k : Nat} (hk : k < m.1.toNat) (hs : ∀ j, j < m.1.toNat → ent m k j ≤ 0) (ha : Acy m.1.toNat (z6h m)) : Acy m.1.toNat (z6h (z7o m k)) := by
 obtain ⟨f, hf⟩ := ha
 refine ⟨fun x => if x = k then 0 else f x + 1, fun u v hu hv he => ?_⟩
 have he : 0 < ent (z7o m k) u v := of_decide_eq_true he
 rw [zmq h hk hs hu hv] at he
 show (if u = k then 0 else f u + 1) < if v = k then 0 else f v + 1
 by_cases e2 : v = k
 ·subst e2
  rw [if_pos (.inr rfl)] at he
  have := zav h.good hv hu (hs u hu)
  omega
 ·rw [if_neg e2]
  by_cases e1 : u = k
  ·rw [if_pos e1]; omega
  ·rw [if_neg e1]
   rw [if_neg (by simp [e1, e2])] at he
   have := hf u v hu hv (dt he)
   omega
end Go.Fw
namespace Go.Fw
section
variable {ρ : Type}
namespace z2i
def g (n low high : Int) : Bool := inK n low high
end z2i
namespace z2i
def Z0 {ρ : Type} (N : Nat) (a b c : Int) (kr : Bool → Option ρ) : Option ρ :=
 cond (lk N (decide (b ≤ a)))
 (
  kr (lk N (decide (a ≤ c))))
 (
  kr false)
def Spec : Prop := ∀  (v0 v1 v2 : Int), ∃ N0, ∀ N, N0 ≤ N → Z0 N v0 v1 v2 (fun v6 => some ((), (v6, ()))) = some ((), ((g v0 v1 v2), ()))
theorem ok : Spec := fun n low high => ⟨0, fun N hN => by
 simp only [Z0, z1t, g, inK]
 cases decide (low ≤ n) <;> rfl⟩
end z2i
end
end Go.Fw
namespace Go.Fw
section
variable {ρ : Type}
namespace z1r
def g (x : Int) : Bool := !inK x (-99) 99
end z1r
namespace z1r
def Z0 {ρ : Type} (N : Nat) (a : Int) (kr : Bool → Option ρ) : Option ρ :=
 kr (!(lk N ((z2i.g a (-99) 99))))
def Spec : Prop := ∀  (v0 : Int), ∃ N0, ∀ N, N0 ≤ N → Z0 N v0 (fun v2 => some ((), (v2, ()))) = some ((), ((g v0), ()))
theorem ok : Spec := fun n => ⟨0, fun N hN => by
 simp only [Z0, g, z1t, z2i.g]⟩
end z1r
end
end Go.Fw
namespace Go.Fw
section
variable {ρ : Type}
namespace z09
def go (p : Int → Bool) : List Int → Nat → Int
 | [], _ => -1
 | x :: xs, j => if p x = true then (j : Int) else go p xs (j + 1)
def g (s : List Int) (_ : Unit) : Int := go z1r.g s 0
end z09
namespace z09
def Z1 {ρ : Type} (N : Nat) (a : LI) (b : Unit) (kn : LI → Option ρ) : Option ρ :=
 kn a
def Z4 {ρ : Type} (N : Nat) (a : LI) (kn : LI → I2 (Option ρ)) : Option ρ :=
 kn a (a.length : Int) 0
def Z7 {ρ : Type} (N : Nat) (b : LI) (c a : Int) (kn : LI → I2 (Option ρ)) (k0 : Option ρ) (kr : Int → Option ρ) : Option ρ :=
 cond (lk N (decide (a < c)))
 (
  cond (lk N (inB a b.length)) (
   cond (lk N ((z1r.g (b.getD a.toNat 0))))
   (
    kr a)
   (
    kn b c (w64 (a + 1)))) none)
 (
  k0)
def Z6L {ρ : Type} (N : Nat) (k0 : Option ρ) (kr : Int → Option ρ) : Nat → LI → Int → Int → Option ρ
 | 0, _, _, _ => none
 | M + 1, a, b, c => Z7 N a b c (fun a b c => Z6L N k0 kr M a b c) k0 kr
def Z6 N a b c k0 kr := (Z6L N k0 kr N a b c : Option ρ)
def Z5 N a b c kn kr := (Z6 N a b c kn kr : Option ρ)
def Z3 N a kn kr := (Z4 N a (fun a b c => Z5 N a b c kn kr) : Option ρ)
def Z8 {ρ : Type} (N : Nat)  (kr : Int → Option ρ) : Option ρ :=
 kr (-1)
def Z2 N a kr := (Z3 N a (Z8 N kr) kr : Option ρ)
def Z0 N a b kr := (Z1 N a b (fun a => Z2 N a kr) : Option ρ)
def Spec : Prop := ∀  (v0 : LI) (v1 : Unit), Ty.bd (.sl 0 (.int .i64)) v0 → ∃ N0, ∀ N, N0 ≤ N → Z0 N v0 v1 (fun v4 => some ((), (v4, ()))) = some ((), ((g v0 v1), ()))
theorem loop {ρ : Type} (N : Nat) (kr : Int → Option ρ) (a : List Int) (ha : a.length ≤ maxLen) : ∀ (M j : Nat), j ≤ a.length → a.length - j < M →
  Z6L N (kr (-1)) kr M a (a.length : Int) (j : Int) = kr (go z1r.g (a.drop j) j) := by
 intro M
 induction M with
 | zero => intro j _ h; omega
 | succ M ih =>
  intro j hj hM
  simp only [Z6L, Z7]
  by_cases h : j < a.length
  ·rw [ct (dt (by omega)), ct (z1b h), Int.toNat_natCast, z1a (by omega), ih (j + 1) h (by omega), z9c 0 h, go]
   cases e : z1r.g (a.getD j 0)
   ·rw [cf rfl, if_neg (by simp)]
   ·rw [ct rfl, if_pos rfl]
  ·rw [cf (df (by omega)), List.drop_of_length_le (by omega), go]
theorem ok : Spec := fun a _ ha => ⟨a.length + 1, fun N hN => by
 simp only [Z1, Z4, Z7, Z6, Z5, Z3, Z8, Z2, Z0]
 exact (loop N (fun t => some ((), (t, ()))) a ha.1 N 0 (by omega) (by omega)).trans rfl⟩
theorem go_pos (p : Int → Bool) : ∀ (l : List Int) (j : Nat), 0 ≤ go p l j ↔ ∃ x ∈ l, p x = true
 | [], j => by simp [go]
 | x :: xs, j => by
  rw [go]
  by_cases h : p x = true
  ·rw [if_pos h]; simp [h]
  ·rw [if_neg h, go_pos p xs]; simp [h]
end z09
end
end Go.Fw
namespace Go.Fw
section
variable {ρ : Type}
namespace z0r
def g (s : List Int) (_ : Unit) : Bool := s.any z1r.g
end z0r
namespace z0r
def Z0 {ρ : Type} (N : Nat) (a : LI) (b : Unit) (kr : Bool → Option ρ) : Option ρ :=
 kr (lk N (decide (0 ≤ (z09.g a ()))))
def Spec : Prop := ∀  (v0 : LI) (v1 : Unit), Ty.bd (.sl 0 (.int .i64)) v0 → ∃ N0, ∀ N, N0 ≤ N → Z0 N v0 v1 (fun v4 => some ((), (v4, ()))) = some ((), ((g v0 v1), ()))
theorem ok : Spec := fun a _ ha => ⟨0, fun N hN => by
 simp only [Z0, z1t, g]
 have := (show 0 ≤ z09.g a () ↔ ∃ x ∈ a, z1r.g x = true from z09.go_pos z1r.g a 0)
 cases e : a.any z1r.g
 ·rw [df (fun h => by have := this.1 h; rw [← List.any_eq_true, e] at this; cases this)]
 ·rw [dt (this.2 (List.any_eq_true.1 e))]⟩
end z0r
end
end Go.Fw
namespace Go.Fw
section
variable {ρ : Type}
namespace z3g
def g (m : Int × Int × List Int) : Bool := z1y m
end z3g
namespace z3g
def Z0 {ρ : Type} (N : Nat) (a : MT) (kr : Bool → Option ρ) : Option ρ :=
 cond (lk N ((z2i.g a.1 1 5)))
 (
  cond (lk N ((z2i.g a.2.1 a.1 8)))
  (
   cond (lk N (decide ((a.2.2.length : Int) = (w64 (a.1 * a.2.1)))))
   (
    kr (!(lk N ((z0r.g a.2.2 ())))))
   (
    kr false))
  (
   kr false))
 (
  kr false)
def Spec : Prop := ∀  (v0 : MT), Ty.bd (.pair (.int .i64) (.pair (.int .i64) (.sl 0 (.int .i64)))) v0 → ∃ N0, ∀ N, N0 ≤ N → Z0 N v0 (fun v2 => some ((), (v2, ()))) = some ((), ((g v0), ()))
theorem ok : Spec := fun m hb => ⟨0, fun N hN => by
 simp only [Z0, g, z1t, z2i.g, z1y, z3s, z0r.g, List.not_any_eq_all_not, entK]
 cases h1 : inK m.1 1 5
 ·rfl
 cases h2 : inK m.2.1 m.1 8
 ·rfl
 have e1 := z2l.1 h1
 have e2 := z2l.1 h2
 have e3 : 0 ≤ m.1 * m.2.1 := Int.mul_nonneg (by omega) (by omega)
 have e4 : m.1 * m.2.1 ≤ 5 * 8 := Int.mul_le_mul (by omega) (by omega) (by omega) (by omega)
 rw [z19 (by omega) (by omega)]
 cases h3 : decide ((m.2.2.length : Int) = m.1 * m.2.1)
 ·rfl
 simp [z1r.g]⟩
end z3g
end
end Go.Fw
namespace Go.Fw
section
variable {ρ : Type}
namespace z0z
def P (m : Int × Int × List Int) (i j : Int) : Bool := atP m i j
def g (m : Int × Int × List Int) (i j : Int) : Int := atK m i j
end z0z
namespace z0z
def Z0 {ρ : Type} (N : Nat) (a : MT) (b c : Int) (kr : Int → Option ρ) : Option ρ :=
 cond (lk N (inB (w64 ((w64 (b * a.1)) + c)) a.2.2.length)) (
  kr (a.2.2.getD (w64 ((w64 (b * a.1)) + c)).toNat 0)) none
def Spec : Prop := ∀  (v0 : MT) (v1 v2 : Int), Ty.bd (.pair (.int .i64) (.pair (.int .i64) (.sl 0 (.int .i64)))) v0 → P v0 v1 v2 = true → ∃ N0, ∀ N, N0 ≤ N → Z0 N v0 v1 v2 (fun v6 => some ((), (v6, ()))) = some ((), ((g v0 v1 v2), ()))
theorem ok : Spec := fun m i j hb hp => ⟨0, fun N hN => by
 obtain ⟨h1, h2, h3⟩ := zr5 hb.2.2.1 hp
 simp only [Z0, g, atK, h1]
 rw [ct (zun h2 h3)]⟩
end z0z
end
end Go.Fw
namespace Go.Fw
section
variable {ρ : Type}
namespace z1v
def P (a b : Int) : Bool := decide (0 ≤ a) && (decide (a < 9223372036854775808) && (decide (0 ≤ b) && decide (b < 9223372036854775808)))
def g (a b : Int) : Int := (Int.gcd a b : Int)
end z1v
namespace z1v
def Z1 {ρ : Type} (N : Nat) (a b : Int) (kn : I2 (Option ρ)) : Option ρ :=
 kn a b
def Z5 {ρ : Type} (N : Nat) (b a : Int) (kn : I2 (Option ρ)) (k0 : Int → Option ρ) : Option ρ :=
 cond (lk N (!(decide (a = 0))))
 (
  cond (lk N (!(decide (a = 0)))) (
   kn a (Int.tmod b a)) none)
 (
  k0 b)
def Z4L {ρ : Type} (N : Nat) (k0 : Int → Option ρ) : Nat → Int → Int → Option ρ
 | 0, _, _ => none
 | M + 1, a, b => Z5 N a b (fun a b => Z4L N k0 M a b) k0
def Z4 N a b k0 := (Z4L N k0 N a b : Option ρ)
def Z3 N a b kn := (Z4 N a b kn : Option ρ)
def Z6 {ρ : Type} (N : Nat) (a : Int) (kr : Int → Option ρ) : Option ρ :=
 kr (mx a (w64 (0 - a)))
def Z2 N a b kr := (Z3 N a b (fun a => Z6 N a kr) : Option ρ)
def Z0 N a b kr := (Z1 N a b (fun a b => Z2 N a b kr) : Option ρ)
def Spec : Prop := ∀  (v0 v1 : Int), P v0 v1 = true → ∃ N0, ∀ N, N0 ≤ N → Z0 N v0 v1 (fun v4 => some ((), (v4, ()))) = some ((), ((g v0 v1), ()))
theorem loop {ρ : Type} (N : Nat) (k0 : Int → Option ρ) : ∀ (M : Nat) (a b : Nat), b < M → Z4L N k0 M (a : Int) (b : Int) = k0 (Nat.gcd b a : Nat) := by
 intro M
 induction M with
 | zero => intro a b h; omega
 | succ M ih =>
  intro a b hM
  simp only [Z4L, Z5]
  by_cases h : b = 0
  ·subst h
   rw [cf (by simp), Nat.gcd_zero_left]
  ·rw [ct (nt (by omega)), ct (nt (by omega)), show Int.tmod (a : Int) (b : Int) = ((a % b : Nat) : Int) from rfl, ih _ _ (by have := Nat.mod_lt a (Nat.pos_of_ne_zero h); omega), ← Nat.gcd_rec]
theorem ok : Spec := fun a b hp => ⟨b.toNat + 1, fun N hN => by
 simp only [P, Bool.and_eq_true, decide_eq_true_eq] at hp
 obtain ⟨h1, h2, h3, h4⟩ := hp
 obtain ⟨x, rfl⟩ := Int.eq_ofNat_of_zero_le h1
 obtain ⟨y, rfl⟩ := Int.eq_ofNat_of_zero_le h3
 simp only [Z1, Z5, Z4, Z3, Z6, Z2, Z0, g]
 rw [loop N _ N x y (by omega), Nat.gcd_comm]
 have hl : Nat.gcd x y ≤ max x y := by
  rcases Nat.eq_zero_or_pos x with h | h
  ·subst h; rw [Nat.gcd_zero_left]; omega
  ·have := Nat.gcd_le_left y h; omega
 show some ((), (mx ((Nat.gcd x y : Nat) : Int) (w64 (0 - ((Nat.gcd x y : Nat) : Int))), ())) = some ((), (((Nat.gcd x y : Nat) : Int), ()))
 rw [z19 (by omega) (by omega), mx_eq]
 congr 3
 omega⟩
end z1v
end
end Go.Fw
namespace Go.Fw
section
variable {ρ : Type}
namespace z02
def P (m : Int × Int × List Int) : Bool := z1y m
abbrev g (m : Int × Int × List Int) : List Int := z73 m
end z02
namespace z02
def Z1 {ρ : Type} (N : Nat) (a : MT) (kn : I2 (LI → Option ρ)) : Option ρ :=
 kn a.1 a.2.1 a.2.2
def Z3 {ρ : Type} (N : Nat) (a b : Int) (c : LI) (kn : LI → LI → I2 (LI → Option ρ)) : Option ρ :=
 bo (
  cond (lk N (leB 0 a && decide (a < 1099511627776))) (
   cond (lk N (leB 0 a && decide (a < 1099511627776))) (
    kn (List.replicate a.toNat (0 : Int)) (List.replicate a.toNat (0 : Int)) a b c) none) none)
def Z5 {ρ : Type} (N : Nat) (b c : LI) (a d : Int) (e : LI) (kn : LI → LI → LI → I2 (LI → Option ρ)) : Option ρ :=
 cond (lk N (leB 0 a && decide (a < 1099511627776))) (
  kn b c (List.replicate a.toNat (0 : Int)) a d e) none
def Z8 {ρ : Type} (N : Nat) (a b c : LI) (d e : Int) (f : LI) (kn : LI → LI → LI → I4 (LI → Option ρ)) : Option ρ :=
 kn a b c (a.length : Int) 0 d e f
def Z12 {ρ : Type} (N : Nat) (c d e : LI) (a b f g : Int) (h : LI) (kn : LI → LI → LI → I2 (Bool → I2 (LI → Option ρ))) : Option ρ :=
 kn c d e a b (lk N (decide (b < a))) f g h
def Z14 {ρ : Type} (N : Nat) (b c a : LI) (d e : Int) (f : Bool) (g h : Int) (i : LI) (kn : LI → LI → LI → I4 (LI → Option ρ)) (k0 : LI → Option ρ) : Option ρ :=
 cond (f)
 (
  kn b c a d e g h i)
 (
  k0 a)
def Z18 {ρ : Type} (N : Nat) (b c d : LI) (e a f g : Int) (h : LI) (kn : LI → LI → LI → I5 (LI → Option ρ)) : Option ρ :=
 kn b c d a e a f g h
def Z20 {ρ : Type} (N : Nat) (a c d : LI) (b e f g h : Int) (i : LI) (kn : LI → LI → LI → I5 (LI → Option ρ)) (k1 : LI → LI → LI → I4 (LI → Option ρ)) : Option ρ :=
 cond (lk N (inB b a.length)) (
  cond (lk N (!(decide ((a.getD b.toNat 0) = 0))))
  (
   k1 a c d e f g h i)
  (
   kn a c d b e f g h i)) none
def Z22 {ρ : Type} (N : Nat) (b c d : LI) (a e f g h : Int) (i : LI) (kn : LI → LI → LI → I5 (LI → Option ρ)) : Option ρ :=
 cond (lk N (inB a b.length)) (
  cond (lk N (inB a c.length)) (
   kn (b.set a.toNat 1) (c.set a.toNat 1) d a e f g h i) none) none
def Z24 {ρ : Type} (N : Nat) (a b c : LI) (d e f g h : Int) (i : LI) (kn : LI → LI → LI → LI → I4 (LI → Option ρ)) : Option ρ :=
 kn a b c ([d] : List Int) e f g h i
def Z27 {ρ : Type} (N : Nat) (a b c d : LI) (e f g h : Int) (i : LI) (kn : LI → LI → LI → LI → I5 (LI → Option ρ)) : Option ρ :=
 kn a b c d 0 e f g h i
def Z31 {ρ : Type} (N : Nat) (b c d a : LI) (e f g h i : Int) (j : LI) (kn : LI → LI → LI → LI → I5 (LI → Option ρ)) (k2 : LI → LI → LI → LI → I4 (LI → Option ρ)) : Option ρ :=
 cond (lk N (decide (e < (a.length : Int))))
 (
  kn b c d a e f g h i j)
 (
  k2 b c d a f g h i j)
def Z35 {ρ : Type} (N : Nat) (c d e a : LI) (b f g h i : Int) (j : LI) (kn : LI → LI → LI → LI → I6 (LI → Option ρ)) : Option ρ :=
 cond (lk N (inB b a.length)) (
  kn c d e a b (a.getD b.toNat 0) f g h i j) none
def Z37 {ρ : Type} (N : Nat) (a b c d : LI) (e f g h i j : Int) (l : LI) (kn : LI → LI → LI → LI → I8 (LI → Option ρ)) : Option ρ :=
 kn a b c d e f g h (a.length : Int) 0 i j l
def Z41 {ρ : Type} (N : Nat) (c d e f : LI) (g h i j a b l m : Int) (o : LI) (kn : LI → LI → LI → LI → I6 (Bool → I2 (LI → Option ρ))) : Option ρ :=
 kn c d e f g h i j a b (lk N (decide (b < a))) l m o
def Z43 {ρ : Type} (N : Nat) (a b c d : LI) (e l f g m o : Int) (p : Bool) (h i : Int) (j : LI) (kn : LI → LI → LI → LI → I8 (LI → Option ρ)) (k4 : LI → LI → LI → LI → I5 (LI → Option ρ)) : Option ρ :=
 cond (p)
 (
  kn a b c d e l f g m o h i j)
 (
  k4 a b c d e f g h i j)
def Z47 {ρ : Type} (N : Nat) (b c d e : LI) (f g h i j a l m : Int) (o : LI) (kn : LI → LI → LI → LI → Int → I8 (LI → Option ρ)) : Option ρ :=
 kn b c d e f g a h i j a l m o
def Z49 {ρ : Type} (N : Nat) (f h i j : LI) (l a b m o p q c d : Int) (e : LI) (kn : LI → LI → LI → LI → I3 (I8 (LI → Option ρ))) : Option ρ :=
 cond (lk N (z0z.P (c, (d, e)) a b)) (
  cond (lk N (z0z.P (c, (d, e)) b a)) (
   kn f h i j l a b (z0z.g (c, (d, e)) a b) (w64 (0 - (z0z.g (c, (d, e)) b a))) m o p q c d e) none) none
def Z51 {ρ : Type} (N : Nat) (a b c d : LI) (e f r g h i j l m o p : Int) (q : LI) (kn : LI → LI → LI → LI → I3 (I8 (LI → Option ρ))) (k5 : LI → LI → LI → LI → I8 (LI → Option ρ)) : Option ρ :=
 cond (lk N (decide (g = 0)))
 (
  cond (lk N (decide (h = 0)))
  (
   k5 a b c d e f i j l m o p q)
  (
   kn a b c d e f r g h i j l m o p q))
 (
  kn a b c d e f r g h i j l m o p q)
def Z52 {ρ : Type} (N : Nat) (b c i h : LI) (j d a e f l m o p q r : Int) (s : LI) (kn : LI → LI → LI → LI → I8 (LI → Option ρ)) (kr : LI → Option ρ) : Option ρ :=
 let x1_ := (w64 ((b.getD d.toNat 0) * (mx e (w64 (0 - e)))))
 let x2_ := (w64 ((c.getD d.toNat 0) * (mx f (w64 (0 - f)))))
 let x0_ := (z1v.g x1_ x2_)
 cond (lk N (decide (e = 0)))
 (
 kr ([] : List Int))
 (
 cond (lk N (decide (f = 0)))
 (
 kr ([] : List Int))
 (
 cond (lk N (!(((lk N (decide (0 < e))) == (lk N (decide (0 < f)))))))
 (
 kr ([] : List Int))
 (
 cond (lk N (decide (d = a)))
 (
 kr ([] : List Int))
 (
 cond (lk N (inB d b.length)) (
 cond (lk N (inB d c.length)) (
 cond (lk N (z1v.P x1_ x2_)) (
 cond (lk N (!(decide (x0_ = 0)))) (
 cond (lk N (!(decide (x0_ = 0)))) (
 cond (lk N (inB a b.length)) (
 cond (lk N (decide ((b.getD a.toNat 0) = 0)))
 (
 cond (lk N (inB a b.length)) (
 cond (lk N (inB a c.length)) (
 cond (lk N (Nat.blt (h.length + ([a] : List Int).length) 1099511627776)) (
 kn (b.set a.toNat (w64 (Int.tdiv x1_ x0_))) (c.set a.toNat (w64 (Int.tdiv x2_ x0_))) i (h ++ ([a] : List Int)) j d l m o p q r s) none) none) none)
 (
 cond (lk N (inB a b.length)) (
 cond (lk N (!(decide ((b.getD a.toNat 0) = (w64 (Int.tdiv x1_ x0_))))))
 (
 kr ([] : List Int))
 (
 cond (lk N (inB a c.length)) (
 cond (lk N (!(decide ((c.getD a.toNat 0) = (w64 (Int.tdiv x2_ x0_))))))
 (
 kr ([] : List Int))
 (
 kn b c i h j d l m o p q r s)) none)) none)) none) none) none) none) none) none))))
def Z50 N a b c d e f g h i j l m o p q r kn k5 kr := (Z51 N a b c d e f g h i j l m o p q r (fun a b c d e f g h i j l m o p q r => Z52 N a b c d e f g h i j l m o p q r kn kr) k5 : Option ρ)
def Z48 N a b c d e f g h i j l m o p kn k5 kr := (Z49 N a b c d e f g h i j l m o p (fun a b c d e f g q r h i j l m o p => Z50 N a b c d e f g q r h i j l m o p kn k5 kr) : Option ρ)
def Z46 N a b c d e f g h i j l m o kn k5 kr := (Z47 N a b c d e f g h i j l m o (fun a b c d e f p g h i j l m o => Z48 N a b c d e f p g h i j l m o kn k5 kr) : Option ρ)
def Z45 N a b c d e f g h i j l m o kn kr := (Z46 N a b c d e f g h i j l m o kn kn kr : Option ρ)
def Z53 {ρ : Type} (N : Nat) (a b c d : LI) (e f g h i j l m : Int) (o : LI) (kn : LI → LI → LI → LI → I8 (LI → Option ρ)) : Option ρ :=
 kn a b c d e f g h i (w64 (j + 1)) l m o
def Z44 N a b c d e f g h i j l m o kn kr := (Z45 N a b c d e f g h i j l m o (fun a b c d e f g h i j l m o => Z53 N a b c d e f g h i j l m o kn) kr : Option ρ)
def Z42 N a b c d e f g h i j p l m o kn k4 kr := (Z43 N a b c d e f g h i j p l m o (fun a b c d e f g h i j l m o => Z44 N a b c d e f g h i j l m o kn kr) k4 : Option ρ)
def Z40 N a b c d e f g h i j l m o kn k4 kr := (Z41 N a b c d e f g h i j l m o (fun a b c d e f g h i j p l m o => Z42 N a b c d e f g h i j p l m o kn k4 kr) : Option ρ)
def Z39L {ρ : Type} (N : Nat) (k4 : LI → LI → LI → LI → I5 (LI → Option ρ)) (kr : LI → Option ρ) : Nat → LI → LI → LI → LI → Int → Int → Int → Int → Int → Int → Int → Int → LI → Option ρ
 | 0, _, _, _, _, _, _, _, _, _, _, _, _, _ => none
 | M + 1, a, b, c, d, e, f, g, h, i, j, l, m, o => Z40 N a b c d e f g h i j l m o (fun a b c d e f g h i j l m o => Z39L N k4 kr M a b c d e f g h i j l m o) k4 kr
def Z39 N a b c d e f g h i j l m o k4 kr := (Z39L N k4 kr N a b c d e f g h i j l m o : Option ρ)
def Z38 N a b c d e f g h i j l m o kn kr := (Z39 N a b c d e f g h i j l m o kn kr : Option ρ)
def Z36 N a b c d e f g h i j l kn kr := (Z37 N a b c d e f g h i j l (fun a b c d e f g h m o i j l => Z38 N a b c d e f g h m o i j l kn kr) : Option ρ)
def Z34 N a b c d e f g h i j kn kr := (Z35 N a b c d e f g h i j (fun a b c d e l f g h i j => Z36 N a b c d e l f g h i j kn kr) : Option ρ)
def Z33 N a b c d e f g h i j kn kr := (Z34 N a b c d e f g h i j kn kr : Option ρ)
def Z54 {ρ : Type} (N : Nat) (a b c d : LI) (e f g h i : Int) (j : LI) (kn : LI → LI → LI → LI → I5 (LI → Option ρ)) : Option ρ :=
 kn a b c d (w64 (e + 1)) f g h i j
def Z32 N a b c d e f g h i j kn kr := (Z33 N a b c d e f g h i j (fun a b c d e f g h i j => Z54 N a b c d e f g h i j kn) kr : Option ρ)
def Z30 N a b c d e f g h i j kn k2 kr := (Z31 N a b c d e f g h i j (fun a b c d e f g h i j => Z32 N a b c d e f g h i j kn kr) k2 : Option ρ)
def Z29L {ρ : Type} (N : Nat) (k2 : LI → LI → LI → LI → I4 (LI → Option ρ)) (kr : LI → Option ρ) : Nat → LI → LI → LI → LI → Int → Int → Int → Int → Int → LI → Option ρ
 | 0, _, _, _, _, _, _, _, _, _, _ => none
 | M + 1, a, b, c, d, e, f, g, h, i, j => Z30 N a b c d e f g h i j (fun a b c d e f g h i j => Z29L N k2 kr M a b c d e f g h i j) k2 kr
def Z29 N a b c d e f g h i j k2 kr := (Z29L N k2 kr N a b c d e f g h i j : Option ρ)
def Z28 N a b c d e f g h i j kn kr := (Z29 N a b c d e f g h i j kn kr : Option ρ)
def Z26 N a b c d e f g h i kn kr := (Z27 N a b c d e f g h i (fun a b c d j e f g h i => Z28 N a b c d j e f g h i kn kr) : Option ρ)
def Z56 {ρ : Type} (N : Nat) (a b c d : LI) (e f g h : Int) (i : LI) (kn : LI → LI → LI → LI → I5 (LI → Option ρ)) : Option ρ :=
 kn a b c d 1 e f g h i
def Z59 {ρ : Type} (N : Nat) (b c d a : LI) (e f g h i : Int) (j : LI) (kn : LI → LI → LI → LI → I7 (LI → Option ρ)) : Option ρ :=
 kn b c d a e f g (a.length : Int) 0 h i j
def Z62 {ρ : Type} (N : Nat) (e c f a : LI) (d h i j b l m : Int) (o : LI) (kn : LI → LI → LI → LI → I7 (LI → Option ρ)) (k6 : LI → LI → LI → LI → I5 (LI → Option ρ)) : Option ρ :=
 cond (lk N (decide (b < j)))
 (
  cond (lk N (inB b a.length)) (
   cond (lk N (inB (a.getD b.toNat 0) c.length)) (
    cond (lk N (inB (a.getD b.toNat 0) c.length)) (
     cond (lk N (z1v.P d (c.getD (a.getD b.toNat 0).toNat 0))) (
      cond (lk N (!(decide ((z1v.g d (c.getD (a.getD b.toNat 0).toNat 0)) = 0)))) (
       kn e c f a (w64 ((w64 (Int.tdiv d (z1v.g d (c.getD (a.getD b.toNat 0).toNat 0)))) * (c.getD (a.getD b.toNat 0).toNat 0))) h i j (w64 (b + 1)) l m o) none) none) none) none) none)
 (
  k6 e c f a d h i l m o)
def Z61L {ρ : Type} (N : Nat) (k6 : LI → LI → LI → LI → I5 (LI → Option ρ)) : Nat → LI → LI → LI → LI → Int → Int → Int → Int → Int → Int → Int → LI → Option ρ
 | 0, _, _, _, _, _, _, _, _, _, _, _, _ => none
 | M + 1, a, b, c, d, e, f, g, h, i, j, l, m => Z62 N a b c d e f g h i j l m (fun a b c d e f g h i j l m => Z61L N k6 M a b c d e f g h i j l m) k6
def Z61 N a b c d e f g h i j l m k6 := (Z61L N k6 N a b c d e f g h i j l m : Option ρ)
def Z60 N a b c d e f g h i j l m kn := (Z61 N a b c d e f g h i j l m kn : Option ρ)
def Z58 N a b c d e f g h i j kn := (Z59 N a b c d e f g h i j (fun a b c d e f g l m h i j => Z60 N a b c d e f g l m h i j kn) : Option ρ)
def Z64 {ρ : Type} (N : Nat) (a b c d : LI) (e f g h i : Int) (j : LI) (kn : LI → LI → LI → LI → I6 (LI → Option ρ)) : Option ρ :=
 kn a b c d e 0 f g h i j
def Z67 {ρ : Type} (N : Nat) (b c d a : LI) (e f g h i j : Int) (l : LI) (kn : LI → LI → LI → LI → I8 (LI → Option ρ)) : Option ρ :=
 kn b c d a e f g h (a.length : Int) 0 i j l
def Z70 {ρ : Type} (N : Nat) (d c e a : LI) (f h i j l b m o : Int) (p : LI) (kn : LI → LI → LI → LI → I8 (LI → Option ρ)) (k8 : LI → LI → LI → LI → I5 (LI → Option ρ)) : Option ρ :=
 cond (lk N (decide (b < l)))
 (
  cond (lk N (inB b a.length)) (
   cond (lk N (inB (a.getD b.toNat 0) c.length)) (
    cond (lk N (!(decide ((c.getD (a.getD b.toNat 0).toNat 0) = 0)))) (
     cond (lk N (inB (a.getD b.toNat 0) d.length)) (
      cond (lk N (inB (a.getD b.toNat 0) e.length)) (
       cond (lk N (inB (a.getD b.toNat 0) (e.set (a.getD b.toNat 0).toNat (w64 ((w64 (Int.tdiv f (c.getD (a.getD b.toNat 0).toNat 0))) * (d.getD (a.getD b.toNat 0).toNat 0)))).length)) (
        cond (lk N (z1v.P h ((e.set (a.getD b.toNat 0).toNat (w64 ((w64 (Int.tdiv f (c.getD (a.getD b.toNat 0).toNat 0))) * (d.getD (a.getD b.toNat 0).toNat 0)))).getD (a.getD b.toNat 0).toNat 0))) (
         kn d c (e.set (a.getD b.toNat 0).toNat (w64 ((w64 (Int.tdiv f (c.getD (a.getD b.toNat 0).toNat 0))) * (d.getD (a.getD b.toNat 0).toNat 0)))) a f (z1v.g h ((e.set (a.getD b.toNat 0).toNat (w64 ((w64 (Int.tdiv f (c.getD (a.getD b.toNat 0).toNat 0))) * (d.getD (a.getD b.toNat 0).toNat 0)))).getD (a.getD b.toNat 0).toNat 0)) i j l (w64 (b + 1)) m o p) none) none) none) none) none) none) none)
 (
  k8 d c e a h i j m o p)
def Z69L {ρ : Type} (N : Nat) (k8 : LI → LI → LI → LI → I5 (LI → Option ρ)) : Nat → LI → LI → LI → LI → Int → Int → Int → Int → Int → Int → Int → Int → LI → Option ρ
 | 0, _, _, _, _, _, _, _, _, _, _, _, _, _ => none
 | M + 1, a, b, c, d, e, f, g, h, i, j, l, m, o => Z70 N a b c d e f g h i j l m o (fun a b c d e f g h i j l m o => Z69L N k8 M a b c d e f g h i j l m o) k8
def Z69 N a b c d e f g h i j l m o k8 := (Z69L N k8 N a b c d e f g h i j l m o : Option ρ)
def Z68 N a b c d e f g h i j l m o kn := (Z69 N a b c d e f g h i j l m o kn : Option ρ)
def Z66 N a b c d e f g h i j l kn := (Z67 N a b c d e f g h i j l (fun a b c d e f g h m o i j l => Z68 N a b c d e f g h m o i j l kn) : Option ρ)
def Z72 {ρ : Type} (N : Nat) (b c d a : LI) (e f g h i : Int) (j : LI) (kn : LI → LI → LI → LI → I7 (LI → Option ρ)) : Option ρ :=
 kn b c d a e f g (a.length : Int) 0 h i j
def Z75 {ρ : Type} (N : Nat) (e f c b : LI) (d g h i a j l : Int) (m : LI) (kn : LI → LI → LI → LI → I7 (LI → Option ρ)) (k10 : LI → LI → LI → I4 (LI → Option ρ)) : Option ρ :=
 cond (lk N (decide (a < i)))
 (
  cond (lk N (inB a b.length)) (
   cond (lk N (inB (b.getD a.toNat 0) c.length)) (
    cond (lk N (!(decide (d = 0)))) (
     cond (lk N (inB (b.getD a.toNat 0) c.length)) (
      kn e f (c.set (b.getD a.toNat 0).toNat (w64 (Int.tdiv (c.getD (b.getD a.toNat 0).toNat 0) d))) b d g h i (w64 (a + 1)) j l m) none) none) none) none)
 (
  k10 e f c g h j l m)
def Z74L {ρ : Type} (N : Nat) (k10 : LI → LI → LI → I4 (LI → Option ρ)) : Nat → LI → LI → LI → LI → Int → Int → Int → Int → Int → Int → Int → LI → Option ρ
 | 0, _, _, _, _, _, _, _, _, _, _, _, _ => none
 | M + 1, a, b, c, d, e, f, g, h, i, j, l, m => Z75 N a b c d e f g h i j l m (fun a b c d e f g h i j l m => Z74L N k10 M a b c d e f g h i j l m) k10
def Z74 N a b c d e f g h i j l m k10 := (Z74L N k10 N a b c d e f g h i j l m : Option ρ)
def Z73 N a b c d e f g h i j l m kn := (Z74 N a b c d e f g h i j l m kn : Option ρ)
def Z71 N a b c j d e f g h i kn := (Z72 N a b c j d e f g h i (fun a b c l d e f m o g h i => Z73 N a b c l d e f m o g h i kn) : Option ρ)
def Z65 N a b c d l e f g h i j kn := (Z66 N a b c d l e f g h i j (fun a b c d e f g h i j => Z71 N a b c d e f g h i j kn) : Option ρ)
def Z63 N a b c d e f g h i j kn := (Z64 N a b c d e f g h i j (fun a b c d e l f g h i j => Z65 N a b c d e l f g h i j kn) : Option ρ)
def Z57 N a b c d e f g h i j kn := (Z58 N a b c d e f g h i j (fun a b c d e f g h i j => Z63 N a b c d e f g h i j kn) : Option ρ)
def Z55 N a b c d e f g h i kn := (Z56 N a b c d e f g h i (fun a b c d j e f g h i => Z57 N a b c d j e f g h i kn) : Option ρ)
def Z25 N a b c d e f g h i kn kr := (Z26 N a b c d e f g h i (fun a b c d e f g h i => Z55 N a b c d e f g h i kn) kr : Option ρ)
def Z23 N a b c i d e f g h kn kr := (Z24 N a b c i d e f g h (fun a b c j d e f g h => Z25 N a b c j d e f g h kn kr) : Option ρ)
def Z21 N a b c d e f g h i kn kr := (Z22 N a b c d e f g h i (fun a b c d e f g h i => Z23 N a b c d e f g h i kn kr) : Option ρ)
def Z19 N a b c d e f g h i kn k1 kr := (Z20 N a b c d e f g h i (fun a b c d e f g h i => Z21 N a b c d e f g h i kn kr) k1 : Option ρ)
def Z17 N a b c d e f g h kn k1 kr := (Z18 N a b c d e f g h (fun a b c i d e f g h => Z19 N a b c i d e f g h kn k1 kr) : Option ρ)
def Z16 N a b c d e f g h kn kr := (Z17 N a b c d e f g h kn kn kr : Option ρ)
def Z76 {ρ : Type} (N : Nat) (a b c : LI) (d e f g : Int) (h : LI) (kn : LI → LI → LI → I4 (LI → Option ρ)) : Option ρ :=
 kn a b c d (w64 (e + 1)) f g h
def Z15 N a b c d e f g h kn kr := (Z16 N a b c d e f g h (fun a b c d e f g h => Z76 N a b c d e f g h kn) kr : Option ρ)
def Z13 N a b c d e i f g h kn k0 kr := (Z14 N a b c d e i f g h (fun a b c d e f g h => Z15 N a b c d e f g h kn kr) k0 : Option ρ)
def Z11 N a b c d e f g h kn k0 kr := (Z12 N a b c d e f g h (fun a b c d e i f g h => Z13 N a b c d e i f g h kn k0 kr) : Option ρ)
def Z10L {ρ : Type} (N : Nat) (k0 kr : LI → Option ρ) : Nat → LI → LI → LI → Int → Int → Int → Int → LI → Option ρ
 | 0, _, _, _, _, _, _, _, _ => none
 | M + 1, a, b, c, d, e, f, g, h => Z11 N a b c d e f g h (fun a b c d e f g h => Z10L N k0 kr M a b c d e f g h) k0 kr
def Z10 N a b c d e f g h k0 kr := (Z10L N k0 kr N a b c d e f g h : Option ρ)
def Z9 N a b c d e f g h kn kr := (Z10 N a b c d e f g h kn kr : Option ρ)
def Z7 N a b c d e f kn kr := (Z8 N a b c d e f (fun a b c g h d e f => Z9 N a b c g h d e f kn kr) : Option ρ)
def Z77 {ρ : Type} (N : Nat) (a : LI) (kr : LI → Option ρ) : Option ρ :=
 cond (Nat.blt 0 a.length) (
  kr a) none
def Z6 N b c a d e f kr := (Z7 N b c a d e f (fun a => Z77 N a kr) kr : Option ρ)
def Z4 N a b c d e kr := (Z5 N a b c d e (fun a b f c d e => Z6 N a b f c d e kr) : Option ρ)
def Z2 N a b c kr := (Z3 N a b c (fun d e a b c => Z4 N d e a b c kr) : Option ρ)
def Z0 N a kr := (Z1 N a (fun b c d => Z2 N b c d kr) : Option ρ)
def Spec : Prop := ∀  (v0 : MT), Ty.bd (.pair (.int .i64) (.pair (.int .i64) (.sl 0 (.int .i64)))) v0 → P v0 = true → ∃ N0, ∀ N, N0 ≤ N → Z0 N v0 (fun v2 => some ((), (v2, ()))) = some ((), ((g v0), ()))
theorem mx_abs {a : Int} (h : -99 ≤ a ∧ a ≤ 99) : mx a (w64 (0 - a)) = z6i a := by
 rw [z19 (by omega) (by omega), mx_eq]
 unfold z6i
 omega
theorem absK_neg (a : Int) : z6i (-a) = z6i a := by unfold z6i; omega
theorem pow4 {k : Nat} (h : k ≤ 4) : (99 : Int) ^ k ≤ 96059601 := by
 have h1 : 99 ^ k ≤ 99 ^ 4 := Nat.pow_le_pow_right (by omega) h
 have h2 : (99 : Int) ^ k = ((99 ^ k : Nat) : Int) := by rw [Int.natCast_pow]; rfl
 rw [h2]
 omega
theorem zu2 {n : Nat} {A : Nat → Nat → Int} {x j : Nat} (hx : x < n) (hj : j < n) (h : ¬ (A x j = 0 ∧ A j x = 0)) (h' : A x j = 0 ∨ A j x = 0) : ¬ ∃ e, z9u n A e := by
 rintro ⟨e, he⟩
 rcases h' with z | z
 ·exact h ⟨z, zbz he hx hj z⟩
 ·exact h ⟨zbz he hj hx z, z⟩
section
variable {ρ : Type} {N : Nat} {m : Int × Int × List Int} {s p x j : Nat} {num0 num den out : List Int} {L : List Nat}
theorem core (hm : z1y m = true) (hn : m.1.toNat ≤ 5) (hcl : zre m.1.toNat (ent m) num0) (hf : zk6 m.1.toNat (ent m) s num0 L num den) (hp : p < L.length) (hx : L.getD p 0 = x) (hj : j < m.1.toNat) (h0 : ¬ (ent m x j = 0 ∧ ent m j x = 0))
  (kn : List Int → List Int → List Int → List Int → Int → Int → Int → Int → Int → Int → Int → Int → List Int → Option ρ) (kr : List Int → Option ρ) (t34 t35 t62 t63 : Int) :
  (Z52 N num den out (z3t L) (p : Int) (x : Int) (j : Int) (ent m x j) (-(ent m j x)) t34 t35 t62 t63 m.1 m.2.1 m.2.2 kn kr = kr [] ∧ ¬ ∃ e, z9u m.1.toNat (ent m) e) ∨
  (∃ L' num' den', zk6 m.1.toNat (ent m) s num0 L' num' den' ∧ (∃ u, L' = L ++ u) ∧ (∀ y ∈ L, ∀ k, zn6 (ent m) L num den y k → zn6 (ent m) L' num' den' y k) ∧ zn6 (ent m) L' num' den' x j ∧
   Z52 N num den out (z3t L) (p : Int) (x : Int) (j : Int) (ent m x j) (-(ent m j x)) t34 t35 t62 t63 m.1 m.2.1 m.2.2 kn kr = kn num' den' out (z3t L') (p : Int) (x : Int) t34 t35 t62 t63 m.1 m.2.1 m.2.2) := by
 have hxm : x ∈ L := by rw [← hx]; exact z1o 0 hp
 have hxn := hf.lt x hxm
 have hle := hf.le
 simp only [Z52]
 by_cases z1 : ent m x j = 0
 ·rw [ct (dt z1)]
  exact Or.inl ⟨rfl, zu2 hxn hj h0 (Or.inl z1)⟩
 rw [cf (df z1)]
 by_cases z2 : ent m j x = 0
 ·rw [ct (dt (by omega))]
  exact Or.inl ⟨rfl, zu2 hxn hj h0 (Or.inr z2)⟩
 rw [cf (df (by omega))]
 by_cases sg : (0 < ent m x j ↔ 0 < -(ent m j x))
 ·have sgb : (!(((lk N (decide (0 < ent m x j))) == (lk N (decide (0 < -(ent m j x))))))) = false := by
   rw [z1t, z1t]
   by_cases h1 : 0 < ent m x j
   ·rw [dt h1, dt (sg.1 h1)]; rfl
   ·rw [df h1, df (fun h => h1 (sg.2 h))]; rfl
  rw [cf sgb]
  have hne : ¬ ((x : Int) = (j : Int)) := fun e => by
   have e' : x = j := by omega
   subst e'
   omega
  rw [cf (df hne)]
  obtain ⟨Q, q1, q2, q3⟩ := hf.frac
  obtain ⟨c1, c2, c3, c4, c5⟩ := q3 x hxm
  have st := stepN (A := ent m) (num := num) (den := den) x j c1 c3 z1 z2
  have sk := skew_of z1 z2 sg
  have hb := z3e hm
  have e1 := mx_abs (hb x j)
  have e2 : mx (-(ent m j x)) (w64 (0 - -(ent m j x))) = z6i (ent m j x) := by
   rw [mx_abs (by have := hb j x; omega), absK_neg]
  have pw := pow4 (k := L.length - 1) (by omega)
  have hdQ := Int.le_of_dvd q1 c4
  have a1 := zgo (hb x j)
  have a2 := zgo (hb j x)
  have a1' := z9t z1
  have a2' := z9t z2
  have b1 : num.getD x 0 * z6i (ent m x j) ≤ 96059601 * 99 := Int.mul_le_mul (by omega) a1 (by omega) (by omega)
  have b2 : den.getD x 0 * z6i (ent m j x) ≤ 96059601 * 99 := Int.mul_le_mul (by omega) a2 (by omega) (by omega)
  have hA := st.a0p
  have hB := st.b0p
  simp only [e1, e2, Int.toNat_natCast, z19 (show -9223372036854775808 ≤ num.getD x 0 * z6i (ent m x j) by omega) (by omega), z19 (show -9223372036854775808 ≤ den.getD x 0 * z6i (ent m j x) by omega) (by omega), z1v.g]
  generalize hA0 : num.getD x 0 * z6i (ent m x j) = A0 at *
  generalize hB0 : den.getD x 0 * z6i (ent m j x) = B0 at *
  generalize hG : (Int.gcd A0 B0 : Int) = G at *
  generalize ha : Int.tdiv A0 G = a at *
  generalize hb' : Int.tdiv B0 G = b at *
  have gp := st.gp
  have ap := st.ap
  have bp := st.bp
  have al : a ≤ A0 := by
   have h1 := Int.mul_le_mul_of_nonneg_left (show (1 : Int) ≤ G by omega) (Int.le_of_lt ap)
   have h2 := st.ea
   omega
  have bl : b ≤ B0 := by
   have h1 := Int.mul_le_mul_of_nonneg_left (show (1 : Int) ≤ G by omega) (Int.le_of_lt bp)
   have h2 := st.eb
   omega
  have i1 : inB (x : Int) num.length = true := z1b (by rw [hf.nl]; exact hxn)
  have i2 : inB (x : Int) den.length = true := z1b (by rw [hf.dl]; exact hxn)
  have i3 : inB (j : Int) num.length = true := z1b (by rw [hf.nl]; exact hj)
  have i4 : inB (j : Int) den.length = true := z1b (by rw [hf.dl]; exact hj)
  have hP : z1v.P A0 B0 = true := by
   simp only [z1v.P, Bool.and_eq_true, decide_eq_true_eq]
   omega
  rw [ct i1, ct i2, ct hP, ct (nt (by omega)), ct (nt (by omega)), ct i3]
  simp only [z19 (show -9223372036854775808 ≤ a by omega) (by omega), z19 (show -9223372036854775808 ≤ b by omega) (by omega)]
  by_cases hz : num.getD j 0 = 0
  ·obtain ⟨hg, hnj⟩ := hf.grow hp hj hz (by rw [hx]; exact st) (fun y k => zgo (hb y k))
   have hxj : ∀ y ∈ L, j ≠ y := fun y hy e => hnj (e ▸ hy)
   have hnl : j < num.length := by rw [hf.nl]; exact hj
   have hdl : j < den.length := by rw [hf.dl]; exact hj
   rw [ct (dt hz), ct i3, ct i4, ct (show Nat.blt ((z3t L).length + ([(j : Int)]).length) 1099511627776 = true by simp [z1u, Nat.blt_eq]; omega), zas]
   refine Or.inr ⟨L ++ [j], num.set j a, den.set j b, hg, ⟨_, rfl⟩, fun y hy k he => he.grow hxj hnl hdl hy, Or.inr ⟨by simp, ?_⟩, rfl⟩
   have := zkg st sk
   rw [z1w hnl, if_neg (hxj x hxm), z1w hdl, if_pos rfl, z1w hnl, if_pos rfl, z1w hdl, if_neg (hxj x hxm)]
   exact this
  ·have hjm : j ∈ L := Classical.byContradiction fun hc => by
    have h1 : num0.getD j 0 ≠ 0 := by rw [← hf.out j hj hc]; exact hz
    exact hcl j hj h1 x hxn (Or.inr z1) (hf.new x hxm)
   obtain ⟨d1, d2, d3, d4, d5⟩ := q3 j hjm
   have hgood : (∃ e, z9u m.1.toNat (ent m) e) → num.getD j 0 = a ∧ den.getD j 0 = b := by
    rintro ⟨e, he⟩
    have g1 := zkf st hxn hj he (hf.good e he x hxm)
    have g2 := hf.good e he j hjm
    have p1 := (he j hj).1
    have p2 : 0 < e s := (he s (by rw [← hf.hd]; exact hf.lt _ (z1o 0 hf.pos))).1
    have g3 : (e s * e j) * (num.getD j 0 * b) = (e s * e j) * (a * den.getD j 0) := by grind
    have p3 := Int.mul_pos p2 p1
    exact frac_eq d1 d3 ap bp d5 st.co (Int.eq_of_mul_eq_mul_left (by omega) g3)
   rw [cf (df hz), ct i3]
   by_cases ea : num.getD j 0 = a
   ·rw [cf (nf ea), ct i4]
    by_cases eb : den.getD j 0 = b
    ·rw [cf (nf eb)]
     refine Or.inr ⟨L, num, den, hf, ⟨[], by simp⟩, fun _ _ _ h => h, Or.inr ⟨hjm, ?_⟩, rfl⟩
     rw [ea, eb]
     exact zkg st sk
    ·rw [ct (nt eb)]
     exact Or.inl ⟨rfl, fun h => eb (hgood h).2⟩
   ·rw [ct (nt ea)]
    exact Or.inl ⟨rfl, fun h => ea (hgood h).1⟩
 ·have sgb : (!(((lk N (decide (0 < ent m x j))) == (lk N (decide (0 < -(ent m j x))))))) = true := by
   rw [z1t, z1t]
   by_cases h1 : 0 < ent m x j
   ·rw [dt h1, df (fun h2 => sg ⟨fun _ => h2, fun _ => h1⟩)]; rfl
   ·rw [df h1, dt (Classical.byContradiction fun h2 => sg ⟨fun h => absurd h h1, fun h => absurd h h2⟩)]; rfl
  rw [ct sgb]
  refine Or.inl ⟨rfl, ?_⟩
  rintro ⟨e, he⟩
  have h1 := z96 he hxn hj
  rw [zdx, Bool.and_eq_true, beq_iff_eq, decide_eq_decide] at h1
  have := h1.1
  omega
theorem at_g (hd : 0 ≤ m.1) (a b : Nat) : z0z.g (m.1, (m.2.1, m.2.2)) (a : Int) (b : Int) = ent m a b := z7m hd a b
theorem at_p (hd : z3s m = true) {a b : Nat} (ha : a < m.1.toNat) (hb : b < m.1.toNat) : z0z.P (m.1, (m.2.1, m.2.2)) (a : Int) (b : Int) = true := by
 obtain ⟨n, r, hn, hr, hn1, hn5, hnr, hr8, hl⟩ := z17 hd
 exact zju hd (by omega) hb
theorem inner (hm : z1y m = true) (hcl : zre m.1.toNat (ent m) num0) (k4 : List Int → List Int → List Int → List Int → Int → Int → Int → Int → Int → List Int → Option ρ) (kr : List Int → Option ρ) (t34 t35 : Int) : ∀ (M j : Nat) (L : List Nat) (num den : List Int), zk6 m.1.toNat (ent m) s num0 L num den → p < L.length → L.getD p 0 = x → j ≤ m.1.toNat → m.1.toNat - j < M →
  (∀ k', k' < p → ∀ k, k < m.1.toNat → zn6 (ent m) L num den (L.getD k' 0) k) → (∀ k, k < j → zn6 (ent m) L num den x k) →
  (Z39L N k4 kr M num den out (z3t L) (p : Int) (x : Int) t34 t35 (m.1.toNat : Int) (j : Int) m.1 m.2.1 m.2.2 = kr [] ∧ ¬ ∃ e, z9u m.1.toNat (ent m) e) ∨
  (∃ L' num' den', zk6 m.1.toNat (ent m) s num0 L' num' den' ∧ p < L'.length ∧ (∀ k', k' < p + 1 → ∀ k, k < m.1.toNat → zn6 (ent m) L' num' den' (L'.getD k' 0) k) ∧
   Z39L N k4 kr M num den out (z3t L) (p : Int) (x : Int) t34 t35 (m.1.toNat : Int) (j : Int) m.1 m.2.1 m.2.2 = k4 num' den' out (z3t L') (p : Int) t34 t35 m.1 m.2.1 m.2.2) := by
 have hdim := z23 hm
 obtain ⟨n, r, hn, hr, hn1, hn5, hnr, hr8, hl⟩ := z17 hdim
 intro M
 induction M with
 | zero => intro j _ _ _ _ _ _ _ h; omega
 | succ M ih =>
  intro j L num den hf hp hx hj hM hE1 hE2
  have hxm : x ∈ L := by rw [← hx]; exact z1o 0 hp
  have hxn := hf.lt x hxm
  simp only [Z39L, Z40, Z41, Z42, Z43]
  by_cases hlt : j < m.1.toNat
  ·rw [ct' (by rw [z1t]; exact dt (by omega))]
   simp only [Z44, Z45, Z46, Z47, Z48, Z49]
   rw [ct (at_p hdim hxn hlt), ct (at_p hdim hlt hxn), at_g (by omega), at_g (by omega)]
   have hb := z3e hm j x
   rw [show w64 (0 - ent m j x) = -(ent m j x) by rw [z19 (by omega) (by omega)]; omega]
   simp only [Z50, Z51]
   have next : ∀ (L' : List Nat) (num' den' : List Int), zk6 m.1.toNat (ent m) s num0 L' num' den' → (∃ u, L' = L ++ u) → (∀ y ∈ L, ∀ k, zn6 (ent m) L num den y k → zn6 (ent m) L' num' den' y k) → zn6 (ent m) L' num' den' x j →
     (Z39L N k4 kr M num' den' out (z3t L') (p : Int) (x : Int) t34 t35 (m.1.toNat : Int) ((j + 1 : Nat) : Int) m.1 m.2.1 m.2.2 = kr [] ∧ ¬ ∃ e, z9u m.1.toNat (ent m) e) ∨
     (∃ L'' num'' den'', zk6 m.1.toNat (ent m) s num0 L'' num'' den'' ∧ p < L''.length ∧ (∀ k', k' < p + 1 → ∀ k, k < m.1.toNat → zn6 (ent m) L'' num'' den'' (L''.getD k' 0) k) ∧
      Z39L N k4 kr M num' den' out (z3t L') (p : Int) (x : Int) t34 t35 (m.1.toNat : Int) ((j + 1 : Nat) : Int) m.1 m.2.1 m.2.2 = k4 num'' den'' out (z3t L'') (p : Int) t34 t35 m.1 m.2.1 m.2.2) := by
    intro L' num' den' hf' hu hk he
    obtain ⟨u, hu⟩ := hu
    have hget : ∀ k', k' < L.length → L'.getD k' 0 = L.getD k' 0 := fun k' hk' => by rw [hu, z2f hk']
    refine ih (j + 1) L' num' den' hf' (by rw [hu]; simp; omega) (by rw [hget p hp]; exact hx) hlt (by omega) (fun k' hk' k hkn => ?_) (fun k hk' => ?_)
    ·rw [hget k' (by omega)]
     exact hk _ (z1o 0 (by omega)) k (hE1 k' hk' k hkn)
    ·by_cases e : k = j
     ·subst e; exact he
     ·exact hk x hxm k (hE2 k (by omega))
   by_cases h0 : ent m x j = 0 ∧ ent m j x = 0
   ·rw [ct (dt h0.1), ct (dt (by omega))]
    simp only [Z53]
    rw [z1a (by rw [z0s]; omega)]
    exact next L num den hf ⟨[], by simp⟩ (fun _ _ _ h => h) (Or.inl h0)
   ·have hz : ∀ (X Y : Option ρ), (cond (lk N (decide (ent m x j = 0))) (cond (lk N (decide (-(ent m j x) = 0))) X Y) Y) = Y := by
     intro X Y
     by_cases z1 : ent m x j = 0
     ·rw [ct (dt z1), cf (df (fun z2 => h0 ⟨z1, by omega⟩))]
     ·rw [cf (df z1)]
    rw [hz]
    rcases core (N := N) (out := out) hm (by omega) hcl hf hp hx hlt h0 (fun num3 den4 out5 piece7 at8 i9 t34 t35 t62 t63 m1_0 m1_1 m1_2 => Z53 N num3 den4 out5 piece7 at8 i9 t34 t35 t62 t63 m1_0 m1_1 m1_2 (fun num3 den4 out5 piece7 at8 i9 t34 t35 t62 t63 m1_0 m1_1 m1_2 => Z39L N k4 kr M num3 den4 out5 piece7 at8 i9 t34 t35 t62 t63 m1_0 m1_1 m1_2)) kr t34 t35 (m.1.toNat : Int) (j : Int) with hc | ⟨L', num', den', h1, h2, h3, h4, h5⟩
    ·exact Or.inl hc
    ·rw [h5]
     simp only [Z53]
     rw [z1a (by rw [z0s]; omega)]
     exact next L' num' den' h1 h2 h3 h4
  ·rw [cf' (by rw [z1t]; exact df (by omega))]
   refine Or.inr ⟨L, num, den, hf, hp, fun k' hk' k hk => ?_, rfl⟩
   by_cases e : k' = p
   ·subst e; rw [hx]; exact hE2 k (by omega)
   ·exact hE1 k' (by omega) k hk
theorem middle (hN : 10 ≤ N) (hm : z1y m = true) (hcl : zre m.1.toNat (ent m) num0) (k2 : List Int → List Int → List Int → List Int → Int → Int → Int → Int → List Int → Option ρ) (kr : List Int → Option ρ) (t34 t35 : Int) : ∀ (M p : Nat) (L : List Nat) (num den : List Int), zk6 m.1.toNat (ent m) s num0 L num den → p ≤ L.length → m.1.toNat - p < M →
  (∀ k', k' < p → ∀ k, k < m.1.toNat → zn6 (ent m) L num den (L.getD k' 0) k) →
  (Z29L N k2 kr M num den out (z3t L) (p : Int) t34 t35 m.1 m.2.1 m.2.2 = kr [] ∧ ¬ ∃ e, z9u m.1.toNat (ent m) e) ∨
  (∃ L' num' den', zk6 m.1.toNat (ent m) s num0 L' num' den' ∧ (∀ x ∈ L', ∀ k, k < m.1.toNat → zn6 (ent m) L' num' den' x k) ∧
   Z29L N k2 kr M num den out (z3t L) (p : Int) t34 t35 m.1 m.2.1 m.2.2 = k2 num' den' out (z3t L') t34 t35 m.1 m.2.1 m.2.2) := by
 have hdim := z23 hm
 obtain ⟨n, r, hn, hr, hn1, hn5, hnr, hr8, hl⟩ := z17 hdim
 intro M
 induction M with
 | zero => intro p _ _ _ _ _ h; omega
 | succ M ih =>
  intro p L num den hf hp hM hE
  have hle := hf.le
  simp only [Z29L, Z30, Z31]
  by_cases hlt : p < L.length
  ·rw [ct (dt (by rw [z1u]; omega))]
   simp only [Z32, Z33, Z34, Z35]
   rw [ct (z1b (by rw [z1u]; exact hlt))]
   simp only [Z36, Z37, Z38, Z39, Int.toNat_natCast, z3u, hf.nl]
   have hin := inner (ρ := ρ) (N := N) (out := out) hm hcl (fun num3 den4 out5 piece7 at8 t34 t35 m1_0 m1_1 m1_2 => Z54 N num3 den4 out5 piece7 at8 t34 t35 m1_0 m1_1 m1_2 (fun num3 den4 out5 piece7 at8 t34 t35 m1_0 m1_1 m1_2 => Z29L N k2 kr M num3 den4 out5 piece7 at8 t34 t35 m1_0 m1_1 m1_2)) kr t34 t35 N 0 L num den hf hlt rfl (by omega) (by omega) hE (fun k hk => by omega)
   rw [show ((0 : Nat) : Int) = 0 from rfl] at hin
   rcases hin with hc | ⟨L', num', den', h1, h2, h3, h4⟩
   ·exact Or.inl hc
   ·rw [h4]
    simp only [Z54]
    rw [z1a (by rw [z0s]; omega)]
    exact ih (p + 1) L' num' den' h1 h2 (by omega) h3
  ·rw [cf (df (by rw [z1u]; omega))]
   refine Or.inr ⟨L, num, den, hf, fun x hx k hk => ?_, rfl⟩
   obtain ⟨k', hk', e⟩ := z84 hx
   rw [← e]
   exact hE k' (by omega) k hk
theorem common (hf : zk6 m.1.toNat (ent m) s num0 L num den) (h5 : m.1.toNat ≤ 5) {Q : Int} (q1 : 0 < Q) (q2 : Q ≤ 96059601) (q3 : ∀ x ∈ L, 0 < den.getD x 0 ∧ den.getD x 0 ∣ Q) (k6 : List Int → List Int → List Int → List Int → Int → Int → Int → Int → Int → List Int → Option ρ) (t34 t35 : Int) : ∀ (M k : Nat) (c : Int), k ≤ L.length → L.length - k < M → 0 < c → c ∣ Q → (∀ k', k' < k → den.getD (L.getD k' 0) 0 ∣ c) →
  ∃ c', 0 < c' ∧ c' ∣ Q ∧ (∀ x ∈ L, den.getD x 0 ∣ c') ∧
   Z61L N k6 M num den out (z3t L) c t34 t35 ((z3t L).length : Int) (k : Int) m.1 m.2.1 m.2.2 = k6 num den out (z3t L) c' t34 t35 m.1 m.2.1 m.2.2 := by
 have hle := hf.le
 intro M
 induction M with
 | zero => intro k _ _ h; omega
 | succ M ih =>
  intro k c hk hM hc hcQ hd
  simp only [Z61L, Z62]
  by_cases hlt : k < L.length
  ·have hxm : L.getD k 0 ∈ L := z1o 0 hlt
   obtain ⟨d1, d2⟩ := q3 _ hxm
   have i1 : inB (k : Int) (z3t L).length = true := z1b (by rw [z1u]; exact hlt)
   have i2 : inB ((L.getD k 0 : Nat) : Int) den.length = true := z1b (by rw [hf.dl]; exact hf.lt _ hxm)
   obtain ⟨g1, g2, g3, g4, g5, g6, g7⟩ := lcm_step hc d1 hcQ d2 q1
   have b1 := Int.le_of_dvd q1 hcQ
   have b2 := Int.le_of_dvd q1 d2
   have b3 := Int.le_of_dvd q1 g5
   rw [ct (dt (by rw [z1u]; omega)), ct i1]
   simp only [Int.toNat_natCast, z3u]
   rw [ct i2, ct i2, ct (show z1v.P c (den.getD (L.getD k 0) 0) = true by
    simp only [z1v.P, Bool.and_eq_true, decide_eq_true_eq]
    omega)]
   have eg : z1v.g c (den.getD (L.getD k 0) 0) = (Int.gcd c (den.getD (L.getD k 0) 0) : Int) := rfl
   rw [ct (nt (by rw [eg]; omega)), eg, z19 (n := Int.tdiv c _) (by omega) (by omega), z19 (by omega) (by omega), z1a (by rw [z0s]; omega)]
   refine ih (k + 1) _ hlt (by omega) g4 g5 (fun k' hk' => ?_)
   by_cases e : k' = k
   ·subst e; exact g7
   ·exact Int.dvd_trans (hd k' (by omega)) g6
  ·rw [cf (df (by rw [z1u]; omega))]
   refine ⟨c, hc, hcQ, fun x hx => ?_, rfl⟩
   obtain ⟨k', hk', e⟩ := z84 hx
   rw [← e]
   exact hd k' (by omega)
structure O2 (n : Nat) (L : List Nat) (num den out0 : List Int) (c : Int) (k : Nat) (out : List Int) (g : Int) : Prop where
 len : out.length = n
 old : ∀ x, x < n → (∀ k', k' < k → x ≠ L.getD k' 0) → out.getD x 0 = out0.getD x 0
 val : ∀ k', k' < k → out.getD (L.getD k' 0) 0 * den.getD (L.getD k' 0) 0 = c * num.getD (L.getD k' 0) 0 ∧ 0 < out.getD (L.getD k' 0) 0 ∧ out.getD (L.getD k' 0) 0 ≤ 9227446944279201
 gcd : g = ((z8j ((List.range k).map fun t => out.getD (L.getD t 0) 0) : Nat) : Int)
theorem O2.g_range {n : Nat} {out0 : List Int} {c g : Int} {k : Nat} (h : O2 n L num den out0 c k out g) : 0 ≤ g ∧ g ≤ 9227446944279201 ∧ (0 < k → 0 < g) := by
 have h0 : 0 ≤ g := by rw [h.gcd]; omega
 by_cases e : k = 0
 ·subst e
  have := h.gcd
  simp [z8j] at this
  omega
 ·obtain ⟨_, a1, a2⟩ := h.val 0 (by omega)
  have hd : g ∣ out.getD (L.getD 0 0) 0 := by
   rw [h.gcd]
   exact zem (List.mem_map.2 ⟨0, List.mem_range.2 (by omega), rfl⟩)
  have := Int.le_of_dvd a1 hd
  refine ⟨h0, by omega, fun _ => ?_⟩
  rcases Int.lt_or_le 0 g with h' | h'
  ·exact h'
  ·have e : g = 0 := by omega
   rw [e] at hd
   have := Int.zero_dvd.1 hd
   omega
theorem outs (hf : zk6 m.1.toNat (ent m) s num0 L num den) (h5 : m.1.toNat ≤ 5) {c : Int} (c1 : 0 < c) (c2 : c ≤ 96059601) (q3 : ∀ x ∈ L, 0 < num.getD x 0 ∧ num.getD x 0 ≤ 96059601 ∧ 0 < den.getD x 0 ∧ den.getD x 0 ∣ c) (out0 : List Int) (k8 : List Int → List Int → List Int → List Int → Int → Int → Int → Int → Int → List Int → Option ρ) (t34 t35 : Int) : ∀ (M k : Nat) (out : List Int) (g : Int), k ≤ L.length → L.length - k < M → O2 m.1.toNat L num den out0 c k out g →
  ∃ out' g', O2 m.1.toNat L num den out0 c L.length out' g' ∧
   Z69L N k8 M num den out (z3t L) c g t34 t35 ((z3t L).length : Int) (k : Int) m.1 m.2.1 m.2.2 = k8 num den out' (z3t L) g' t34 t35 m.1 m.2.1 m.2.2 := by
 have hle := hf.le
 intro M
 induction M with
 | zero => intro k _ _ _ h; omega
 | succ M ih =>
  intro k out g hk hM ho
  simp only [Z69L, Z70]
  by_cases hlt : k < L.length
  ·have hxm : L.getD k 0 ∈ L := z1o 0 hlt
   have hxn := hf.lt _ hxm
   obtain ⟨d1, d2, d3, d4⟩ := q3 _ hxm
   have i1 : inB (k : Int) (z3t L).length = true := z1b (by rw [z1u]; exact hlt)
   have i2 : inB ((L.getD k 0 : Nat) : Int) den.length = true := z1b (by rw [hf.dl]; exact hxn)
   have i3 : inB ((L.getD k 0 : Nat) : Int) num.length = true := z1b (by rw [hf.nl]; exact hxn)
   have i4 : inB ((L.getD k 0 : Nat) : Int) out.length = true := z1b (by rw [ho.len]; exact hxn)
   have hxo : L.getD k 0 < out.length := by rw [ho.len]; exact hxn
   have hg := ho.g_range
   have t1 : Int.tdiv c (den.getD (L.getD k 0) 0) * den.getD (L.getD k 0) 0 = c := Int.tdiv_mul_cancel d4
   have t2 : 0 < Int.tdiv c (den.getD (L.getD k 0) 0) ∧ Int.tdiv c (den.getD (L.getD k 0) 0) ≤ c := by
    generalize Int.tdiv c (den.getD (L.getD k 0) 0) = t at t1 ⊢
    have : 0 < t := by
     rcases Int.lt_or_le 0 t with h' | h'
     ·exact h'
     ·have := Int.mul_nonpos_of_nonpos_of_nonneg h' (Int.le_of_lt d3); omega
    have := Int.mul_le_mul_of_nonneg_left (show (1 : Int) ≤ den.getD (L.getD k 0) 0 by omega) (Int.le_of_lt this)
    exact ⟨by omega, by omega⟩
   have t3 : 0 < Int.tdiv c (den.getD (L.getD k 0) 0) * num.getD (L.getD k 0) 0 := Int.mul_pos t2.1 d1
   have t4 : Int.tdiv c (den.getD (L.getD k 0) 0) * num.getD (L.getD k 0) 0 ≤ 96059601 * 96059601 := Int.mul_le_mul (by omega) d2 (by omega) (by omega)
   rw [ct (dt (by rw [z1u]; omega)), ct i1]
   simp only [Int.toNat_natCast, z3u]
   rw [ct i2, ct (nt (by omega)), ct i3, ct i4]
   simp only [z19 (show -9223372036854775808 ≤ Int.tdiv c (den.getD (L.getD k 0) 0) by omega) (by omega)]
   simp only [z19 (show -9223372036854775808 ≤ Int.tdiv c (den.getD (L.getD k 0) 0) * num.getD (L.getD k 0) 0 by omega) (by omega)]
   generalize hv : Int.tdiv c (den.getD (L.getD k 0) 0) * num.getD (L.getD k 0) 0 = v at t3 t4 ⊢
   have hself : (out.set (L.getD k 0) v).getD (L.getD k 0) 0 = v := by rw [z1w hxo, if_pos rfl]
   have hget : ∀ t, t < k → (out.set (L.getD k 0) v).getD (L.getD t 0) 0 = out.getD (L.getD t 0) 0 := fun t ht' => by
    rw [z1w hxo, if_neg (fun e => by have := z7r hf.nd hlt (by omega) e; omega)]
   rw [ct (z1b (by rw [List.length_set]; exact hxo)), hself, ct (show z1v.P g v = true by
    simp only [z1v.P, Bool.and_eq_true, decide_eq_true_eq]
    omega), z1a (by rw [z0s]; omega)]
   refine ih (k + 1) _ _ hlt (by omega) ⟨by rw [List.length_set]; exact ho.len, ?_, ?_, ?_⟩
   ·intro x hx hall
    rw [z1w hxo, if_neg (fun e => hall k (by omega) e.symm)]
    exact ho.old x hx (fun t ht' => hall t (by omega))
   ·intro t ht'
    by_cases e : t = k
    ·subst e
     rw [hself]
     refine ⟨?_, t3, by omega⟩
     rw [← hv]
     have e1 := t1
     grind
    ·rw [hget t (by omega)]
     exact ho.val t (by omega)
   ·rw [List.range_succ, List.map_append, List.map_cons, List.map_nil, hself]
    rw [show (List.range k).map (fun t => (out.set (L.getD k 0) v).getD (L.getD t 0) 0) = (List.range k).map (fun t => out.getD (L.getD t 0) 0) from List.map_congr_left (fun t ht' => hget t (List.mem_range.1 ht'))]
    rw [ho.gcd]
    exact zpz _ _ v (by omega) rfl
  ·have e : k = L.length := by omega
   subst e
   exact ⟨out, g, ho, by rw [cf (df (by rw [z1u]; omega))]⟩
theorem divs (hf : zk6 m.1.toNat (ent m) s num0 L num den) (h5 : m.1.toNat ≤ 5) {out2 : List Int} {g : Int} (hg : 0 < g) (hv : ∀ x ∈ L, 0 < out2.getD x 0 ∧ out2.getD x 0 ≤ 9227446944279201) (k10 : List Int → List Int → List Int → Int → Int → Int → Int → List Int → Option ρ) (t34 t35 : Int) : ∀ (M k : Nat) (d : List Int), k ≤ L.length → L.length - k < M → T3 m (L, []) out2 g k d →
  ∃ d', T3 m (L, []) out2 g L.length d' ∧ Z74L N k10 M num den d (z3t L) g t34 t35 ((z3t L).length : Int) (k : Int) m.1 m.2.1 m.2.2 = k10 num den d' t34 t35 m.1 m.2.1 m.2.2 := by
 have hle := hf.le
 intro M
 induction M with
 | zero => intro k _ _ h; omega
 | succ M ih =>
  intro k d hk hM ht
  simp only [Z74L, Z75]
  by_cases hlt : k < L.length
  ·have hxm : L.getD k 0 ∈ L := z1o 0 hlt
   have hxn := hf.lt _ hxm
   obtain ⟨v1, v2⟩ := hv _ hxm
   have hcur := ht.cur hf.nd hf.lt hlt
   have hdv : 0 ≤ Int.tdiv (out2.getD (L.getD k 0) 0) g ∧ Int.tdiv (out2.getD (L.getD k 0) 0) g ≤ 9227446944279201 := by
    rw [Int.tdiv_eq_ediv_of_nonneg (by omega)]
    refine ⟨Int.ediv_nonneg (by omega) (by omega), ?_⟩
    have := Int.ediv_le_self (a := out2.getD (L.getD k 0) 0) g (by omega)
    omega
   have i4 : inB ((L.getD k 0 : Nat) : Int) d.length = true := z1b (by rw [ht.len]; exact hxn)
   have hcur' : d.getD (L.getD k 0) 0 = out2.getD (L.getD k 0) 0 := hcur
   rw [ct (dt (by rw [z1u]; omega)), ct (z1b (by rw [z1u]; exact hlt))]
   simp only [Int.toNat_natCast, z3u]
   rw [ct i4, ct (nt (by omega)), ct i4, hcur', z19 (by omega) (by omega), z1a (by rw [z0s]; omega)]
   exact ih (k + 1) _ hlt (by omega) (ht.step hf.nd hf.lt hlt)
  ·have e : k = L.length := by omega
   subst e
   exact ⟨d, ht, by rw [cf (df (by rw [z1u]; omega))]⟩
theorem outer (hN : 10 ≤ N) (hm : z1y m = true) (kr : List Int → Option ρ) : ∀ (M i : Nat) (num den out : List Int), OInv m.1.toNat (ent m) num out → den.length = m.1.toNat → i ≤ m.1.toNat → (∀ x, x < i → num.getD x 0 ≠ 0) → m.1.toNat - i < M →
  Z10L N (fun out5 => Z77 N out5 kr) kr M num den out (m.1.toNat : Int) (i : Int) m.1 m.2.1 m.2.2 = kr (z73 m) := by
 have hdim := z23 hm
 obtain ⟨n, r, hn, hr, hn1, hn5, hnr, hr8, hl⟩ := z17 hdim
 intro M
 induction M with
 | zero => intro i _ _ _ _ _ _ _ h; omega
 | succ M ih =>
  intro i num den out hO hdl hi hpos hM
  simp only [Z10L, Z11, Z12, Z13, Z14]
  by_cases hlt : i < m.1.toNat
  ·rw [ct' (by rw [z1t]; exact dt (by omega))]
   simp only [Z15, Z16, Z17, Z18, Z19, Z20]
   rw [ct (z1b (by rw [hO.nl]; exact hlt)), Int.toNat_natCast]
   by_cases hz : num.getD i 0 = 0
   ·rw [cf (nf hz)]
    simp only [Z21, Z22]
    rw [ct (z1b (by rw [hO.nl]; exact hlt)), ct (z1b (by rw [hdl]; exact hlt)), Int.toNat_natCast]
    simp only [Z23, Z24, Z25, Z26, Z27, Z28, Z29]
    have hnl : i < num.length := by rw [hO.nl]; exact hlt
    have hdl' : i < den.length := by rw [hdl]; exact hlt
    have f0 : zk6 m.1.toNat (ent m) i num [i] (num.set i 1) (den.set i 1) := by
     refine ⟨by rw [List.length_set]; exact hO.nl, by rw [List.length_set]; exact hdl, by simp, fun x hx => by rw [List.mem_singleton] at hx; omega, rfl, by simp, ?_, ?_, ?_, ?_⟩
     ·intro x hx hni
      rw [z1w hnl, if_neg (fun e => hni (by simp [e]))]
     ·intro x hx
      rw [List.mem_singleton] at hx; subst hx; exact hz
     ·refine ⟨1, by omega, by simp, fun x hx => ?_⟩
      rw [List.mem_singleton] at hx
      subst hx
      rw [z1w hnl, if_pos rfl, z1w hdl', if_pos rfl]
      exact ⟨by omega, by simp, by omega, Int.dvd_refl _, by decide⟩
     ·intro e he x hx
      rw [List.mem_singleton] at hx
      subst hx
      rw [z1w hnl, if_pos rfl, z1w hdl', if_pos rfl]
    have hmid := middle (ρ := ρ) (out := out) hN hm hO.closed (fun num3 den4 out5 piece7 t34 t35 m1_0 m1_1 m1_2 => Z55 N num3 den4 out5 piece7 t34 t35 m1_0 m1_1 m1_2 (fun num3 den4 out5 t34 t35 m1_0 m1_1 m1_2 => Z76 N num3 den4 out5 t34 t35 m1_0 m1_1 m1_2 (fun num3 den4 out5 t34 t35 m1_0 m1_1 m1_2 => Z10L N (fun out5 => Z77 N out5 kr) kr M num3 den4 out5 t34 t35 m1_0 m1_1 m1_2))) kr (m.1.toNat : Int) (i : Int) N 0 [i] (num.set i 1) (den.set i 1) f0 (by omega) (by omega) (fun k' hk' => by omega)
    rw [show ((0 : Nat) : Int) = 0 from rfl, show z3t [i] = [(i : Int)] from rfl] at hmid
    rcases hmid with ⟨h1, h2⟩ | ⟨L, num', den', hf, hE, h1⟩
    ·rw [h1, zq4 h2]
    ·rw [h1]
     have hle := hf.le
     obtain ⟨Q, q1, q2, q3⟩ := hf.frac
     have pw := pow4 (k := L.length - 1) (by omega)
     simp only [Z55, Z56, Z57, Z58, Z59, Z60, Z61]
     obtain ⟨c, c1, c2, c3, c4⟩ := common (ρ := ρ) (N := N) (out := out) (num := num') (m := m) hf (by omega) q1 (by omega) (fun x hx => ⟨(q3 x hx).2.2.1, (q3 x hx).2.2.2.1⟩) (fun num3 den4 out5 piece7 common16 t34 t35 m1_0 m1_1 m1_2 => Z63 N num3 den4 out5 piece7 common16 t34 t35 m1_0 m1_1 m1_2 (fun num3 den4 out5 t34 t35 m1_0 m1_1 m1_2 => Z76 N num3 den4 out5 t34 t35 m1_0 m1_1 m1_2 (fun num3 den4 out5 t34 t35 m1_0 m1_1 m1_2 => Z10L N (fun out5 => Z77 N out5 kr) kr M num3 den4 out5 t34 t35 m1_0 m1_1 m1_2))) (m.1.toNat : Int) (i : Int) N 0 1 (by omega) (by omega) (by omega) (Int.one_dvd _) (fun k' hk' => by omega)
     rw [show ((0 : Nat) : Int) = 0 from rfl] at c4
     rw [c4]
     have cQ := Int.le_of_dvd q1 c2
     simp only [Z63, Z64, Z65, Z66, Z67, Z68, Z69]
     obtain ⟨out2, g2, o1, o2⟩ := outs (ρ := ρ) (N := N) (num := num') (m := m) hf (by omega) c1 (by omega) (fun x hx => ⟨(q3 x hx).1, by have := (q3 x hx).2.1; omega, (q3 x hx).2.2.1, c3 x hx⟩) out (fun num3 den4 out5 piece7 g19 t34 t35 m1_0 m1_1 m1_2 => Z71 N num3 den4 out5 piece7 g19 t34 t35 m1_0 m1_1 m1_2 (fun num3 den4 out5 t34 t35 m1_0 m1_1 m1_2 => Z76 N num3 den4 out5 t34 t35 m1_0 m1_1 m1_2 (fun num3 den4 out5 t34 t35 m1_0 m1_1 m1_2 => Z10L N (fun out5 => Z77 N out5 kr) kr M num3 den4 out5 t34 t35 m1_0 m1_1 m1_2))) (m.1.toNat : Int) (i : Int) N 0 out 0 (by omega) (by omega) ⟨hO.ol, fun _ _ _ => rfl, fun k hk => by omega, rfl⟩
     rw [show ((0 : Nat) : Int) = 0 from rfl] at o2
     rw [o2]
     have hg2 := o1.g_range.2.2 hf.pos
     have hval : ∀ x ∈ L, out2.getD x 0 * den'.getD x 0 = c * num'.getD x 0 ∧ 0 < out2.getD x 0 ∧ out2.getD x 0 ≤ 9227446944279201 := by
      intro x hx
      obtain ⟨k, hk, e⟩ := z84 hx
      rw [← e]
      exact o1.val k hk
     simp only [Z71, Z72, Z73, Z74]
     obtain ⟨out3, p1, p2⟩ := divs (ρ := ρ) (N := N) (num := num') (m := m) hf (by omega) hg2 (fun x hx => (hval x hx).2) (fun num3 den4 out5 t34 t35 m1_0 m1_1 m1_2 => Z76 N num3 den4 out5 t34 t35 m1_0 m1_1 m1_2 (fun num3 den4 out5 t34 t35 m1_0 m1_1 m1_2 => Z10L N (fun out5 => Z77 N out5 kr) kr M num3 den4 out5 t34 t35 m1_0 m1_1 m1_2)) (m.1.toNat : Int) (i : Int) N 0 out2 (by omega) (by omega) ⟨o1.len, fun _ _ _ => rfl, fun k hk => by omega⟩
     rw [show ((0 : Nat) : Int) = 0 from rfl] at p2
     rw [p2]
     have hgl : g2 = ((z8j (L.map fun x => out2.getD x 0) : Nat) : Int) := by
      rw [← zhl L (fun x => out2.getD x 0)]
      exact o1.gcd
     obtain ⟨r1, r2, r3⟩ := hO.piece (out3 := out3) hf hE c1 hg2 (fun x hx => (hval x hx).1) hgl (fun x hx => by
      obtain ⟨k, hk, e⟩ := z84 hx
      have := p1.val k hk
      rw [← e]
      rw [show out3.getD (L.getD k 0) 0 = _ from this]
      refine Int.tdiv_mul_cancel ?_
      rw [hgl]
      exact zem (List.mem_map.2 ⟨L.getD k 0, z1o 0 hk, rfl⟩)) (fun x hx hni => by
      have hne : ∀ k', k' < L.length → x ≠ L.getD k' 0 := fun k' hk' e => hni (by rw [e]; exact z1o 0 hk')
      rw [p1.out x hx hne, o1.old x hx hne]) p1.len
     simp only [Z76]
     rw [z1a (by rw [z0s]; omega)]
     exact ih (i + 1) num' den' out3 r1 hf.dl hlt (fun x hx => by
      by_cases e : x = i
      ·subst e; exact r2
      ·exact r3 x (by omega) (hpos x (by omega))) (by omega)
   ·rw [ct (nt hz)]
    simp only [Z76]
    rw [z1a (by rw [z0s]; omega)]
    exact ih (i + 1) num den out hO hdl hlt (fun x hx => by
     by_cases e : x = i
     ·subst e; exact hz
     ·exact hpos x (by omega)) (by omega)
  ·rw [cf' (by rw [z1t]; exact df (by omega))]
   simp only [Z77]
   rw [hO.fac (fun x hx => hpos x (by omega)), ct' (by rw [hO.ol, Nat.blt_eq]; omega)]
end
theorem ok : Spec := fun m hb hp => ⟨10, fun N hN => by
 have hm : z1y m = true := hp
 have hdim := z23 hm
 obtain ⟨n, r, hn, hr, hn1, hn5, hnr, hr8, hl⟩ := z17 hdim
 have hz : ∀ x, (List.replicate m.1.toNat (0 : Int)).getD x 0 = 0 := fun x => by
  rw [List.getD_eq_getElem?_getD, List.getElem?_replicate]
  split <;> rfl
 have hc : (leB 0 m.1 && decide (m.1 < 1099511627776)) = true := by rw [zrz (by omega), dt (by omega)]; rfl
 simp only [Z0, Z1, Z2, Z3]
 rw [ct hc, ct hc]
 have key : Z4 N (List.replicate m.1.toNat 0) (List.replicate m.1.toNat 0) m.1 m.2.1 m.2.2 (fun t2 => some ((), (t2, ()))) = some ((), (g m, ())) := by
  simp only [Z4, Z5]
  rw [ct hc]
  simp only [Z6, Z7, Z8, Z9, Z10, List.length_replicate]
  have := outer (ρ := Unit × List Int × Unit) hN hm (fun t2 => some ((), (t2, ()))) N 0 (List.replicate m.1.toNat 0) (List.replicate m.1.toNat 0) (List.replicate m.1.toNat 0) ⟨by simp, by simp, fun y hy h => absurd (hz y) h, fun j hj h => absurd (hz j) h⟩ (by simp) (by omega) (fun x hx => by omega) (by omega)
  exact this
 rw [key]
 simp only [bo, z3f]⟩
end z02
end
end Go.Fw
namespace Go.Fw
section
variable {ρ : Type}
namespace z1s
def g (m : Int × Int × List Int) : Bool := z1y m && !decide (z73 m = [])
end z1s
namespace z1s
def Z0 {ρ : Type} (N : Nat) (a : MT) (kr : Bool → Option ρ) : Option ρ :=
 cond (lk N ((z3g.g a)))
 (
  cond (lk N (z02.P a)) (
   kr (lk N (!(decide ((z02.g a).length = 0))))) none)
 (
  kr false)
def Spec : Prop := ∀  (v0 : MT), Ty.bd (.pair (.int .i64) (.pair (.int .i64) (.sl 0 (.int .i64)))) v0 → ∃ N0, ∀ N, N0 ≤ N → Z0 N v0 (fun v2 => some ((), (v2, ()))) = some ((), ((g v0), ()))
theorem ok : Spec := fun m hb => ⟨0, fun N hN => by
 simp only [Z0, z1t, g, z3g.g, z02.P, z02.g]
 cases z1y m
 ·rfl
 ·by_cases h : z73 m = []
  ·rw [dt h, dt (by rw [h]; rfl)]; rfl
  ·rw [df h, df (fun e => h (List.length_eq_zero_iff.1 e))]; rfl⟩
end z1s
end
end Go.Fw
namespace Go.Fw
section
variable {ρ : Type}
namespace z04
def g (m : Int × Int × List Int) : Bool := z1s.g m && decide (zgv m = [])
end z04
namespace z04
def Z1 {ρ : Type} (N : Nat) (a : MT) (kn : I2 (LI → Option ρ)) : Option ρ :=
 kn a.1 a.2.1 a.2.2
def Z3 {ρ : Type} (N : Nat) (a b : Int) (c : LI) (kn : I2 (LI → Option ρ)) (kr : Bool → Option ρ) : Option ρ :=
 cond (!(lk N ((z1s.g (a, (b, c))))))
 (
  kr false)
 (
  kn a b c)
def Z5 {ρ : Type} (N : Nat) (a b : Int) (c : LI) (kn : I2 (LI → LI → Option ρ)) : Option ρ :=
 kn a b c ([] : List Int)
def Z8 {ρ : Type} (N : Nat) (a b : Int) (c d : LI) (kn : I3 (LI → LI → Option ρ)) : Option ρ :=
 kn 0 a b c d
def Z11 {ρ : Type} (N : Nat) (a b c : Int) (d e : LI) (kn : I3 (LI → LI → Option ρ)) (k0 : I2 (LI → LI → Option ρ)) : Option ρ :=
 cond (lk N (decide (a < b)))
 (
  kn (w64 (a + 1)) b c d (mAdd e a))
 (
  k0 b c d e)
def Z10L {ρ : Type} (N : Nat) (k0 : I2 (LI → LI → Option ρ)) : Nat → Int → Int → Int → LI → LI → Option ρ
 | 0, _, _, _, _, _ => none
 | M + 1, a, b, c, d, e => Z11 N a b c d e (fun a b c d e => Z10L N k0 M a b c d e) k0
def Z10 N a b c d e k0 := (Z10L N k0 N a b c d e : Option ρ)
def Z9 N a b c d e kn := (Z10 N a b c d e kn : Option ρ)
def Z7 N a b c d kn := (Z8 N a b c d (fun e a b c d => Z9 N e a b c d kn) : Option ρ)
def Z14 {ρ : Type} (N : Nat) (a b : Int) (c d : LI) (kn : I4 (LI → LI → Option ρ)) : Option ρ :=
 kn a 0 a b c d
def Z18 {ρ : Type} (N : Nat) (a b c d : Int) (e f : LI) (kn : I2 (Bool → I2 (LI → LI → Option ρ))) : Option ρ :=
 kn a b (lk N (decide (b < a))) c d e f
def Z20 {ρ : Type} (N : Nat) (b c : Int) (d : Bool) (e f : Int) (g a : LI) (kn : I4 (LI → LI → Option ρ)) (k2 : LI → Option ρ) : Option ρ :=
 cond (d)
 (
  kn b c e f g a)
 (
  k2 a)
def Z24 {ρ : Type} (N : Nat) (b c a d : Int) (e f : LI) (kn : I6 (LI → LI → Option ρ)) : Option ρ :=
 kn b c a 0 a d e f
def Z28 {ρ : Type} (N : Nat) (c d a b e f : Int) (g h : LI) (kn : I4 (Bool → I2 (LI → LI → Option ρ))) : Option ρ :=
 kn c d a b (lk N (decide (b < a))) e f g h
def Z30 {ρ : Type} (N : Nat) (a b g h : Int) (i : Bool) (c d : Int) (e f : LI) (kn : I6 (LI → LI → Option ρ)) (k4 : I4 (LI → LI → Option ρ)) : Option ρ :=
 cond (i)
 (
  kn a b g h c d e f)
 (
  k4 a b c d e f)
def Z34 {ρ : Type} (N : Nat) (b c d a e f : Int) (g h : LI) (kn : I7 (LI → LI → Option ρ)) : Option ρ :=
 kn a b c d a e f g h
def Z36 {ρ : Type} (N : Nat) (a b c d e f g : Int) (h i : LI) (kn : Int → Bool → I6 (LI → LI → Option ρ)) : Option ρ :=
 kn a false b c d e f g h i
def Z39 {ρ : Type} (N : Nat) (b : Int) (c : Bool) (d e f g a h : Int) (i j : LI) (kn : Int → Bool → I8 (LI → LI → Option ρ)) : Option ρ :=
 kn b c d e f g a 0 a h i j
def Z42 {ρ : Type} (N : Nat) (b : Int) (o : Bool) (h i j l m a c d : Int) (e f : LI) (kn : Int → Bool → I8 (LI → LI → Option ρ)) (k6 : Int → Bool → I6 (LI → LI → Option ρ)) : Option ρ :=
 cond (lk N (decide (a < m)))
 (
  cond (o)
  (
   kn b true h i j l m (w64 (a + 1)) c d e f)
  (
   cond (lk N (zei f a))
   (
    cond (lk N (z0z.P (c, (d, e)) a b)) (
     kn b (lk N (decide (0 < (z0z.g (c, (d, e)) a b)))) h i j l m (w64 (a + 1)) c d e f) none)
   (
    kn b false h i j l m (w64 (a + 1)) c d e f)))
 (
  k6 b o h i j l c d e f)
def Z41L {ρ : Type} (N : Nat) (k6 : Int → Bool → I6 (LI → LI → Option ρ)) : Nat → Int → Bool → Int → Int → Int → Int → Int → Int → Int → Int → LI → LI → Option ρ
 | 0, _, _, _, _, _, _, _, _, _, _, _, _ => none
 | M + 1, a, b, c, d, e, f, g, h, i, j, l, m => Z42 N a b c d e f g h i j l m (fun a b c d e f g h i j l m => Z41L N k6 M a b c d e f g h i j l m) k6
def Z41 N a b c d e f g h i j l m k6 := (Z41L N k6 N a b c d e f g h i j l m : Option ρ)
def Z40 N a b c d e f g h i j l m kn := (Z41 N a b c d e f g h i j l m kn : Option ρ)
def Z38 N a b c d e f g h i j kn := (Z39 N a b c d e f g h i j (fun a b c d e f l m g h i j => Z40 N a b c d e f l m g h i j kn) : Option ρ)
def Z43 {ρ : Type} (N : Nat) (i : Int) (j : Bool) (a b c d e f : Int) (g h : LI) (kn : I6 (LI → LI → Option ρ)) : Option ρ :=
 cond (!(j))
 (
  kn a b c d e f g (zpv h i))
 (
  kn a b c d e f g h)
def Z37 N a b c d e f g h i j kn := (Z38 N a b c d e f g h i j (fun a b c d e f g h i j => Z43 N a b c d e f g h i j kn) : Option ρ)
def Z35 N a b c d e f g h i kn := (Z36 N a b c d e f g h i (fun a j b c d e f g h i => Z37 N a j b c d e f g h i kn) : Option ρ)
def Z33 N a b c d e f g h kn := (Z34 N a b c d e f g h (fun i a b c d e f g h => Z35 N i a b c d e f g h kn) : Option ρ)
def Z32 N a b c d e f g h kn := (Z33 N a b c d e f g h kn : Option ρ)
def Z44 {ρ : Type} (N : Nat) (a b c d e f : Int) (g h : LI) (kn : I6 (LI → LI → Option ρ)) : Option ρ :=
 kn a b c (w64 (d + 1)) e f g h
def Z31 N a b c d e f g h kn := (Z32 N a b c d e f g h (fun a b c d e f g h => Z44 N a b c d e f g h kn) : Option ρ)
def Z29 N a b c d i e f g h kn k4 := (Z30 N a b c d i e f g h (fun a b c d e f g h => Z31 N a b c d e f g h kn) k4 : Option ρ)
def Z27 N a b c d e f g h kn k4 := (Z28 N a b c d e f g h (fun a b c d i e f g h => Z29 N a b c d i e f g h kn k4) : Option ρ)
def Z26L {ρ : Type} (N : Nat) (k4 : I4 (LI → LI → Option ρ)) : Nat → Int → Int → Int → Int → Int → Int → LI → LI → Option ρ
 | 0, _, _, _, _, _, _, _, _ => none
 | M + 1, a, b, c, d, e, f, g, h => Z27 N a b c d e f g h (fun a b c d e f g h => Z26L N k4 M a b c d e f g h) k4
def Z26 N a b c d e f g h k4 := (Z26L N k4 N a b c d e f g h : Option ρ)
def Z25 N a b c d e f g h kn := (Z26 N a b c d e f g h kn : Option ρ)
def Z23 N a b c d e f kn := (Z24 N a b c d e f (fun a b g h c d e f => Z25 N a b g h c d e f kn) : Option ρ)
def Z22 N a b c d e f kn := (Z23 N a b c d e f kn : Option ρ)
def Z45 {ρ : Type} (N : Nat) (a b c d : Int) (e f : LI) (kn : I4 (LI → LI → Option ρ)) : Option ρ :=
 kn a (w64 (b + 1)) c d e f
def Z21 N a b c d e f kn := (Z22 N a b c d e f (fun a b c d e f => Z45 N a b c d e f kn) : Option ρ)
def Z19 N a b g c d e f kn k2 := (Z20 N a b g c d e f (fun a b c d e f => Z21 N a b c d e f kn) k2 : Option ρ)
def Z17 N a b c d e f kn k2 := (Z18 N a b c d e f (fun a b g c d e f => Z19 N a b g c d e f kn k2) : Option ρ)
def Z16L {ρ : Type} (N : Nat) (k2 : LI → Option ρ) : Nat → Int → Int → Int → Int → LI → LI → Option ρ
 | 0, _, _, _, _, _, _ => none
 | M + 1, a, b, c, d, e, f => Z17 N a b c d e f (fun a b c d e f => Z16L N k2 M a b c d e f) k2
def Z16 N a b c d e f k2 := (Z16L N k2 N a b c d e f : Option ρ)
def Z15 N a b c d e f kn := (Z16 N a b c d e f kn : Option ρ)
def Z13 N a b c d kn := (Z14 N a b c d (fun e f a b c d => Z15 N e f a b c d kn) : Option ρ)
def Z46 {ρ : Type} (N : Nat) (a : LI) (kr : Bool → Option ρ) : Option ρ :=
 kr (lk N (decide ((a.length : Int) = 0)))
def Z12 N b c d a kr := (Z13 N b c d a (fun a => Z46 N a kr) : Option ρ)
def Z6 N a b c d kr := (Z7 N a b c d (fun a b c d => Z12 N a b c d kr) : Option ρ)
def Z4 N a b c kr := (Z5 N a b c (fun a b c d => Z6 N a b c d kr) : Option ρ)
def Z2 N a b c kr := (Z3 N a b c (fun a b c => Z4 N a b c kr) kr : Option ρ)
def Z0 N a kr := (Z1 N a (fun b c d => Z2 N b c d kr) : Option ρ)
def Spec : Prop := ∀  (v0 : MT), Ty.bd (.pair (.int .i64) (.pair (.int .i64) (.sl 0 (.int .i64)))) v0 → ∃ N0, ∀ N, N0 ≤ N → Z0 N v0 (fun v2 => some ((), (v2, ()))) = some ((), ((g v0), ()))
section
variable {ρ : Type} {N : Nat} {m : Int × Int × List Int}
theorem inner (hd : z3s m = true) {v : Nat} (hv : v < m.1.toNat) (a b c d : Int) (L : List Int) (k6 : Int → Bool → Int → Int → Int → Int → Int → Int → List Int → List Int → Option ρ) : ∀ (M j : Nat) (led : Bool), j ≤ m.1.toNat → m.1.toNat - j < M →
  Z41L N k6 M (v : Int) led a b c d m.1 (j : Int) m.1 m.2.1 m.2.2 L = k6 (v : Int) (led || ((List.range m.1.toNat).drop j).any fun i => zei L (i : Int) && z6h m i v) a b c d m.1 m.2.1 m.2.2 L := by
 obtain ⟨n, r, hn, hr, _, hn5, hnr, _, _⟩ := z17 hd
 intro M
 induction M with
 | zero => intro j _ _ h; omega
 | succ M ih =>
  intro j led hj hM
  simp only [Z41L, Z1, Z3, Z5, Z8, Z11, Z10, Z9, Z7, Z14, Z18, Z20, Z24, Z28, Z30, Z34, Z36, Z39, Z42, Z41, Z40, Z38, Z43, Z37, Z35, Z33, Z32, Z44, Z31, Z29, Z27, Z26, Z25, Z23, Z22, Z45, Z21, Z19, Z17, Z16, Z15, Z13, Z46, Z12, Z6, Z4, Z2, Z0]
  by_cases h : j < m.1.toNat
  ·have e1 : z0z.P (m.1, (m.2.1, m.2.2)) (j : Int) (v : Int) = true := zju hd (by omega) hv
   have e2 : z0z.g (m.1, (m.2.1, m.2.2)) (j : Int) (v : Int) = ent m j v := z7m (by omega) j v
   rw [ct (dt (by omega)), ct e1, e2, z1a (by rw [z0s]; omega), ih (j + 1) _ h (by omega), ih (j + 1) _ h (by omega), ih (j + 1) _ h (by omega), z2v h, List.any_cons]
   simp only [z1t]
   show _ = k6 (v : Int) (led || (zei L (j : Int) && decide (0 < ent m j v) || _)) a b c d m.1 m.2.1 m.2.2 L
   cases led
   ·cases zei L (j : Int)
    ·rfl
    ·simp
   ·rfl
  ·rw [cf (df (by omega)), List.drop_of_length_le (by simp; omega)]
   simp
theorem row (hd : z3s m = true) (a b : Int) (k4 : Int → Int → Int → Int → List Int → List Int → Option ρ) (hN : m.1.toNat < N) : ∀ (M j : Nat) (L : List Int), j ≤ m.1.toNat → m.1.toNat - j < M →
  Z26L N k4 M a b m.1 (j : Int) m.1 m.2.1 m.2.2 L = k4 a b m.1 m.2.1 m.2.2 (((List.range m.1.toNat).drop j).foldl (visL m) L) := by
 obtain ⟨n, r, hn, hr, _, hn5, hnr, _, _⟩ := z17 hd
 intro M
 induction M with
 | zero => intro j _ _ h; omega
 | succ M ih =>
  intro j L hj hM
  simp only [Z26L, Z1, Z3, Z5, Z8, Z11, Z10, Z9, Z7, Z14, Z18, Z20, Z24, Z28, Z30, Z34, Z36, Z39, Z42, Z41, Z40, Z38, Z43, Z37, Z35, Z33, Z32, Z44, Z31, Z29, Z27, Z26, Z25, Z23, Z22, Z45, Z21, Z19, Z17, Z16, Z15, Z13, Z46, Z12, Z6, Z4, Z2, Z0]
  by_cases h : j < m.1.toNat
  ·have hin := fun (k : Int → Bool → Int → Int → Int → Int → Int → Int → List Int → List Int → Option ρ) => inner (N := N) hd h a b m.1 (j : Int) L k N 0 false (by omega) (by omega)
   simp only [show ((0 : Nat) : Int) = 0 from rfl, List.drop_zero, Bool.false_or] at hin
   rw [ct' (by rw [z1t]; exact dt (by omega)), hin, z1a (by rw [z0s]; omega), ih (j + 1) _ h (by omega), ih (j + 1) _ h (by omega), z2v h, List.foldl_cons]
   show _ = k4 a b m.1 m.2.1 m.2.2 (((List.range m.1.toNat).drop (j + 1)).foldl (visL m) (cond (ledL m L j) L (zpv L (j : Int))))
   show cond (!(ledL m L j)) _ _ = _
   cases ledL m L j <;> rfl
  ·rw [cf' (by rw [z1t]; exact df (by omega)), List.drop_of_length_le (by simp; omega)]; rfl
theorem rounds (hd : z3s m = true) (k2 : List Int → Option ρ) (hN : m.1.toNat < N) : ∀ (M j : Nat) (L : List Int), j ≤ m.1.toNat → m.1.toNat - j < M →
  Z16L N k2 M m.1 (j : Int) m.1 m.2.1 m.2.2 L = k2 (zbi (fun L => (List.range m.1.toNat).foldl (visL m) L) (m.1.toNat - j) L) := by
 obtain ⟨n, r, hn, hr, _, hn5, hnr, _, _⟩ := z17 hd
 intro M
 induction M with
 | zero => intro j _ _ h; omega
 | succ M ih =>
  intro j L hj hM
  simp only [Z16L, Z1, Z3, Z5, Z8, Z11, Z10, Z9, Z7, Z14, Z18, Z20, Z24, Z28, Z30, Z34, Z36, Z39, Z42, Z41, Z40, Z38, Z43, Z37, Z35, Z33, Z32, Z44, Z31, Z29, Z27, Z26, Z25, Z23, Z22, Z45, Z21, Z19, Z17, Z16, Z15, Z13, Z46, Z12, Z6, Z4, Z2, Z0]
  by_cases h : j < m.1.toNat
  ·have hin := fun (k : Int → Int → Int → Int → List Int → List Int → Option ρ) => row (N := N) hd m.1 (j : Int) k hN N 0 L (by omega) (by omega)
   simp only [show ((0 : Nat) : Int) = 0 from rfl, List.drop_zero] at hin
   rw [ct' (by rw [z1t]; exact dt (by omega)), hin, z1a (by rw [z0s]; omega), ih (j + 1) _ h (by omega), show m.1.toNat - j = (m.1.toNat - (j + 1)) + 1 by omega]
   rfl
  ·rw [cf' (by rw [z1t]; exact df (by omega)), show m.1.toNat - j = 0 by omega]; rfl
theorem fill (hd : z3s m = true) (k0 : Int → Int → List Int → List Int → Option ρ) : ∀ (M j : Nat), j ≤ m.1.toNat → m.1.toNat - j < M →
  Z10L N k0 M (j : Int) m.1 m.2.1 m.2.2 ((List.range j).map fun (i : Nat) => (i : Int)) = k0 m.1 m.2.1 m.2.2 ((List.range m.1.toNat).map fun (i : Nat) => (i : Int)) := by
 obtain ⟨n, r, hn, hr, _, hn5, hnr, _, _⟩ := z17 hd
 intro M
 induction M with
 | zero => intro j _ h; omega
 | succ M ih =>
  intro j hj hM
  simp only [Z10L, Z1, Z3, Z5, Z8, Z11, Z10, Z9, Z7, Z14, Z18, Z20, Z24, Z28, Z30, Z34, Z36, Z39, Z42, Z41, Z40, Z38, Z43, Z37, Z35, Z33, Z32, Z44, Z31, Z29, Z27, Z26, Z25, Z23, Z22, Z45, Z21, Z19, Z17, Z16, Z15, Z13, Z46, Z12, Z6, Z4, Z2, Z0]
  by_cases h : j < m.1.toNat
  ·have e1 : mAdd ((List.range j).map fun (i : Nat) => (i : Int)) (j : Int) = (List.range (j + 1)).map fun (i : Nat) => (i : Int) := by
    have : zei ((List.range j).map fun (i : Nat) => (i : Int)) (j : Int) = false := by
     unfold zei
     refine df fun hm => ?_
     obtain ⟨x, hx, e⟩ := List.mem_map.1 hm
     have := List.mem_range.1 hx
     omega
    unfold mAdd
    rw [this, List.range_succ, List.map_append]
    rfl
   rw [ct (dt (by omega)), e1, z1a (by rw [z0s]; omega), ih (j + 1) h (by omega)]
  ·rw [cf (df (by omega)), show j = m.1.toNat by omega]
end
theorem ok : Spec := fun m hb => ⟨6, fun N hN => by
 simp only [Z1, Z3, Z5, Z8, Z11, Z10, Z9, Z7, Z14, Z18, Z20, Z24, Z28, Z30, Z34, Z36, Z39, Z42, Z41, Z40, Z38, Z43, Z37, Z35, Z33, Z32, Z44, Z31, Z29, Z27, Z26, Z25, Z23, Z22, Z45, Z21, Z19, Z17, Z16, Z15, Z13, Z46, Z12, Z6, Z4, Z2, Z0, z1t, g]
 cases h : z1s.g m
 ·rfl
 have hd : z3s m = true := by
  simp only [z1s.g, z1y, Bool.and_eq_true] at h
  exact h.1.1
 obtain ⟨n, r, hn, hr, _, hn5, hnr, _, _⟩ := z17 hd
 have h1 := fun (k0 : Int → Int → List Int → List Int → Option (Unit × Bool × Unit)) => fill (N := N) hd k0 N 0 (by omega) (by omega)
 have h2 := fun (k2 : List Int → Option (Unit × Bool × Unit)) (L : List Int) => rounds (N := N) hd k2 (by omega) N 0 L (by omega) (by omega)
 simp only [show ((0 : Nat) : Int) = 0 from rfl, List.range_zero, List.map_nil, Nat.sub_zero] at h1 h2
 rw [h1, h2]
 show some ((), (decide (((zgv m).length : Int) = 0), ())) = _
 have : decide (((zgv m).length : Int) = 0) = decide (zgv m = []) := by
  by_cases e : zgv m = []
  ·rw [dt e, e]; rfl
  ·rw [df e, df (fun h => e (List.length_eq_zero_iff.1 (by omega)))]
 rw [this]
 rfl⟩
end z04
end
end Go.Fw
namespace Go.Fw
section
variable {ρ : Type}
namespace z14
def P (a : List Int) : Bool := decide (a.length < 1099511627776)
abbrev g (a : List Int) : List Int := a
end z14
namespace z14
def Z0 {ρ : Type} (N : Nat) (a : LI) (kr : LI → Option ρ) : Option ρ :=
 cond (lk N (decide (0 < a.length)))
 (
  cond (lk N (Nat.blt (([] : List Int).length + a.length) 1099511627776)) (
   kr (([] : List Int) ++ a)) none)
 (
  z7w (
   kr ([] : List Int))
  (
   cond (lk N (Nat.blt (([] : List Int).length + a.length) 1099511627776)) (
    kr (([] : List Int) ++ a)) none))
def Spec : Prop := ∀  (v0 : LI), Ty.bd (.sl 0 (.int .i64)) v0 → P v0 = true → ∃ N0, ∀ N, N0 ≤ N → Z0 N v0 (fun v2 => some ((), (v2, ()))) = some ((), ((g v0), ()))
theorem ok : Spec := fun a hb hp => ⟨0, fun N hN => by
 have hl : a.length < 1099511627776 := by simpa [P] using hp
 have hc : Nat.blt (([] : List Int).length + a.length) 1099511627776 = true := by simpa using hl
 simp only [Z0, z1t, g, hc, cond_true, List.nil_append]
 by_cases h : 0 < a.length
 ·simp [h]
 ·have : a = [] := List.eq_nil_of_length_eq_zero (by omega)
  subst this
  simp [z3f]⟩
end z14
end
end Go.Fw
namespace Go.Fw
section
variable {ρ : Type}
namespace z0g
def P (m : Int × Int × List Int) (k : Int) : Bool := z1y m && (decide (0 ≤ k) && decide (k < m.1))
def g (m : Int × Int × List Int) (k : Int) : Int × Int × List Int := z7o m k.toNat
end z0g
namespace z0g
def Z1 {ρ : Type} (N : Nat) (a : MT) (b : Int) (kn : I3 (LI → I2 (Option ρ))) : Option ρ :=
 kn b a.1 a.2.1 a.2.2 0 0
def Z3 {ρ : Type} (N : Nat) (d b c : Int) (a : LI) (e f : Int) (kn : LI → I3 (LI → I4 (Option ρ))) : Option ρ :=
 z7w (
  cond (lk N (z14.P a)) (
   bo (
    kn (z14.g a) d b c a e f b c)) none)
 (
  cond (lk N (z14.P a)) (
   kn (z14.g a) d b c a e f b c) none)
def Z6 {ρ : Type} (N : Nat) (a : LI) (b c d : Int) (e : LI) (f g h i : Int) (kn : LI → I4 (LI → I4 (Option ρ))) : Option ρ :=
 kn a b 0 c d e f g h i
def Z10 {ρ : Type} (N : Nat) (a : LI) (h b i c : Int) (j : LI) (d e f g : Int) (kn : LI → I4 (LI → I4 (Option ρ))) (k0 : LI → I4 (Option ρ)) : Option ρ :=
 cond (lk N (decide (b < c)))
 (
  kn a h b i c j d e f g)
 (
  k0 a d e f g)
def Z14 {ρ : Type} (N : Nat) (a : LI) (b c d e : Int) (f : LI) (g h i j : Int) (kn : LI → I5 (LI → I4 (Option ρ))) : Option ρ :=
 kn a b c 0 d e f g h i j
def Z18 {ρ : Type} (N : Nat) (b : LI) (c d e a f : Int) (g : LI) (h i j l : Int) (kn : LI → I5 (LI → I4 (Option ρ))) (k2 : LI → I4 (LI → I4 (Option ρ))) : Option ρ :=
 cond (lk N (decide (e < a)))
 (
  kn b c d e a f g h i j l)
 (
  k2 b c d a f g h i j l)
def Z22 {ρ : Type} (N : Nat) (d : LI) (e a b c f : Int) (g : LI) (h i j l : Int) (kn : LI → I6 (LI → I4 (Option ρ))) : Option ρ :=
 cond (lk N (inB (w64 ((w64 (a * c)) + b)) d.length)) (
  kn d e a b (w64 ((w64 (a * c)) + b)) c f g h i j l) none
def Z24 {ρ : Type} (N : Nat) (h : LI) (a e f i b c : Int) (d : LI) (j l m o : Int) (kn : LI → I8 (LI → I4 (Option ρ))) : Option ρ :=
 cond (lk N (z0z.P (b, (c, d)) e a)) (
  cond (lk N (z0z.P (b, (c, d)) a f)) (
   kn h a e f i (z0z.g (b, (c, d)) e a) (z0z.g (b, (c, d)) a f) b c d j l m o) none) none
def Z27 {ρ : Type} (N : Nat) (d : LI) (a b c e f g h i : Int) (j : LI) (l m o p : Int) (kn : LI → I6 (Bool → I2 (LI → I4 (Option ρ)))) : Option ρ :=
 cond (lk N (decide (b = a)))
 (
  kn d a b c e f g true h i j l m o p)
 (
  kn d a b c e f g (lk N (decide (c = a))) h i j l m o p)
def Z28 {ρ : Type} (N : Nat) (a : LI) (b c d e o p : Int) (q : Bool) (f g : Int) (h : LI) (i j l m : Int) (kn : LI → I5 (LI → I4 (Option ρ))) : Option ρ :=
 cond (q)
 (
  kn (a.set e.toNat (w64 (0 - (a.getD e.toNat 0)))) b c d f g h i j l m)
 (
  cond (lk N (decide (0 < o)))
  (
   cond (lk N (decide (0 < p)))
   (
    kn (a.set e.toNat (w64 ((a.getD e.toNat 0) + (w64 (o * p))))) b c d f g h i j l m)
   (
    cond (lk N (decide (o < 0)))
    (
     cond (lk N (decide (p < 0)))
     (
      kn (a.set e.toNat (w64 ((a.getD e.toNat 0) - (w64 (o * p))))) b c d f g h i j l m)
     (
      kn a b c d f g h i j l m))
    (
     kn a b c d f g h i j l m)))
  (
   cond (lk N (decide (o < 0)))
   (
    cond (lk N (decide (p < 0)))
    (
     kn (a.set e.toNat (w64 ((a.getD e.toNat 0) - (w64 (o * p))))) b c d f g h i j l m)
    (
     kn a b c d f g h i j l m))
   (
    kn a b c d f g h i j l m)))
def Z26 N a b c d e f g h i j l m o p kn := (Z27 N a b c d e f g h i j l m o p (fun a b c d e f g q h i j l m o p => Z28 N a b c d e f g q h i j l m o p kn) : Option ρ)
def Z25 N a b c d e f g h i j l m o p kn := (Z26 N a b c d e f g h i j l m o p kn : Option ρ)
def Z23 N a b c d e f g h i j l m kn := (Z24 N a b c d e f g h i j l m (fun a b c d e o p f g h i j l m => Z25 N a b c d e o p f g h i j l m kn) : Option ρ)
def Z21 N a b c d e f g h i j l kn := (Z22 N a b c d e f g h i j l (fun a b c d m e f g h i j l => Z23 N a b c d m e f g h i j l kn) : Option ρ)
def Z20 N a b c d e f g h i j l kn := (Z21 N a b c d e f g h i j l kn : Option ρ)
def Z29 {ρ : Type} (N : Nat) (a : LI) (b c d e f : Int) (g : LI) (h i j l : Int) (kn : LI → I5 (LI → I4 (Option ρ))) : Option ρ :=
 kn a b c (w64 (d + 1)) e f g h i j l
def Z19 N a b c d e f g h i j l kn := (Z20 N a b c d e f g h i j l (fun a b c d e f g h i j l => Z29 N a b c d e f g h i j l kn) : Option ρ)
def Z17 N a b c d e f g h i j l kn k2 := (Z18 N a b c d e f g h i j l (fun a b c d e f g h i j l => Z19 N a b c d e f g h i j l kn) k2 : Option ρ)
def Z16L {ρ : Type} (N : Nat) (k2 : LI → I4 (LI → I4 (Option ρ))) : Nat → LI → Int → Int → Int → Int → Int → LI → Int → Int → Int → Int → Option ρ
 | 0, _, _, _, _, _, _, _, _, _, _, _ => none
 | M + 1, a, b, c, d, e, f, g, h, i, j, l => Z17 N a b c d e f g h i j l (fun a b c d e f g h i j l => Z16L N k2 M a b c d e f g h i j l) k2
def Z16 N a b c d e f g h i j l k2 := (Z16L N k2 N a b c d e f g h i j l : Option ρ)
def Z15 N a b c d e f g h i j l kn := (Z16 N a b c d e f g h i j l kn : Option ρ)
def Z13 N a b c d e f g h i j kn := (Z14 N a b c d e f g h i j (fun a b c l d e f g h i j => Z15 N a b c l d e f g h i j kn) : Option ρ)
def Z12 N a b c d e f g h i j kn := (Z13 N a b c d e f g h i j kn : Option ρ)
def Z30 {ρ : Type} (N : Nat) (a : LI) (b c d e : Int) (f : LI) (g h i j : Int) (kn : LI → I4 (LI → I4 (Option ρ))) : Option ρ :=
 kn a b (w64 (c + 1)) d e f g h i j
def Z11 N a b c d e f g h i j kn := (Z12 N a b c d e f g h i j (fun a b c d e f g h i j => Z30 N a b c d e f g h i j kn) : Option ρ)
def Z9 N a b c d e f g h i j kn k0 := (Z10 N a b c d e f g h i j (fun a b c d e f g h i j => Z11 N a b c d e f g h i j kn) k0 : Option ρ)
def Z8L {ρ : Type} (N : Nat) (k0 : LI → I4 (Option ρ)) : Nat → LI → Int → Int → Int → Int → LI → Int → Int → Int → Int → Option ρ
 | 0, _, _, _, _, _, _, _, _, _, _ => none
 | M + 1, a, b, c, d, e, f, g, h, i, j => Z9 N a b c d e f g h i j (fun a b c d e f g h i j => Z8L N k0 M a b c d e f g h i j) k0
def Z8 N a b c d e f g h i j k0 := (Z8L N k0 N a b c d e f g h i j : Option ρ)
def Z7 N a b c d e f g h i j kn := (Z8 N a b c d e f g h i j kn : Option ρ)
def Z5 N a b c d e f g h i kn := (Z6 N a b c d e f g h i (fun a b j c d e f g h i => Z7 N a b j c d e f g h i kn) : Option ρ)
def Z31 {ρ : Type} (N : Nat) (a : LI) (d e b c : Int) (kr : LI → I2 (Option ρ)) : Option ρ :=
 kr a b c
def Z4 N a f g h i b c d e kr := (Z5 N a f g h i b c d e (fun a b c d e => Z31 N a b c d e kr) : Option ρ)
def Z2 N a b c d e f kr := (Z3 N a b c d e f (fun g a b c d e f h i => Z4 N g a b c d e f h i kr) : Option ρ)
def Z0 N b a kr := (Z1 N b a (fun a c d e f g => Z2 N a c d e f g kr) : Option ρ)
def Spec : Prop := ∀  (v0 : MT) (v1 : Int), Ty.bd (.pair (.int .i64) (.pair (.int .i64) (.sl 0 (.int .i64)))) v0 → P v0 v1 = true → ∃ N0, ∀ N, N0 ≤ N → Z0 N v0 v1 (fun v4_2 v4_0 v4_1 => some ((), ((v4_0, (v4_1, v4_2)), ()))) = some ((), ((g v0 v1), ()))
section
variable {ρ : Type} {N : Nat} {m : Int × Int × List Int} {k : Nat}
theorem at_g (hd : 0 ≤ m.1) (a b : Nat) : z0z.g (m.1, (m.2.1, m.2.2)) (a : Int) (b : Int) = ent m a b := z7m hd a b
theorem at_p (hd : z3s m = true) {a b : Nat} (ha : a < m.2.1.toNat) (hb : b < m.1.toNat) : z0z.P (m.1, (m.2.1, m.2.2)) (a : Int) (b : Int) = true := zju hd ha hb
def cur (m : Int × Int × List Int) (k p : Nat) : List Int := zn4 m.2.2.length p (zu5 m k) (fun p => m.2.2.getD p 0)
theorem inner (hs : z1y m = true) (hk : k < m.1.toNat) (k2 : List Int → Int → Int → Int → Int → List Int → Int → Int → Int → Int → Option ρ) (t0 t1 o0 o1 : Int) {i : Nat} (hi : i < m.2.1.toNat) : ∀ (M j : Nat), j ≤ m.1.toNat → m.1.toNat - j < M →
  Z16L N k2 M (cur m k (i * m.1.toNat + j)) (k : Int) (i : Int) (j : Int) m.1 m.2.1 m.2.2 t0 t1 o0 o1 = k2 (cur m k (i * m.1.toNat + m.1.toNat)) (k : Int) (i : Int) m.1 m.2.1 m.2.2 t0 t1 o0 o1 := by
 have hd := z23 hs
 obtain ⟨n, r, hn, hr, hn1, hn5, hnr, hr8, hl⟩ := z17 hd
 intro M
 induction M with
 | zero => intro j _ h; omega
 | succ M ih =>
  intro j hj hM
  simp only [Z16L, Z17, Z18]
  by_cases h : j < m.1.toNat
  ·have hlt : i * m.1.toNat + j < m.2.2.length := by
    have := z9b (n := n) (r := r) (i := i) (j := j) (by omega) (by omega)
    rw [hl, hn]; exact this
   have hidx : w64 (w64 ((i : Int) * m.1) + (j : Int)) = ((i * m.1.toNat + j : Nat) : Int) := by
    have e : (i : Int) * m.1 = ((i * m.1.toNat : Nat) : Int) := by rw [hn, Int.natCast_mul]; simp
    have hb : i * m.1.toNat ≤ 8 * 5 := Nat.mul_le_mul (by omega) (by omega)
    have e2 : w64 (((i * m.1.toNat : Nat) : Int)) = ((i * m.1.toNat : Nat) : Int) := z19 (by omega) (by omega)
    rw [e, e2, z19 (by omega) (by omega)]
    omega
   have b1 := z3e hs i j
   have b2 := z3e hs i k
   have b3 := z3e hs k j
   have hbc := zhr (f := false) b1 b2 b3
   have hF := znn (m := m) (k := k) (i := i) h
   have hcl : (cur m k (i * m.1.toNat + j)).length = m.2.2.length := zbg
   have hset : ∀ v, v = zu5 m k (i * m.1.toNat + j) → (cur m k (i * m.1.toNat + j)).set (i * m.1.toNat + j) v = cur m k (i * m.1.toNat + (j + 1)) := fun v hv => by
    subst hv
    exact zph hlt
   have hsame : zu5 m k (i * m.1.toNat + j) = ent m i j → cur m k (i * m.1.toNat + j) = cur m k (i * m.1.toNat + (j + 1)) := fun hv => (zka hv).symm
   have iB : inB (((i * m.1.toNat + j : Nat) : Int)) (cur m k (i * m.1.toNat + j)).length = true := z1b (by rw [hcl]; exact hlt)
   have pij := at_p hd hi h
   rw [ct (dt (by omega))]
   simp only [Z19, Z20, Z21, Z22, Z23, Z24, Z25]
   have fin : ∀ c, c = cur m k (i * m.1.toNat + (j + 1)) → Z29 N c (k : Int) (i : Int) (j : Int) m.1 m.2.1 m.2.2 t0 t1 o0 o1 (fun out5_2 k1 i6 j7 m2_0 m2_1 m2_2 t4_0 t4_1 out5_0 out5_1 => Z16L N k2 M out5_2 k1 i6 j7 m2_0 m2_1 m2_2 t4_0 t4_1 out5_0 out5_1) = k2 (cur m k (i * m.1.toNat + m.1.toNat)) (k : Int) (i : Int) m.1 m.2.1 m.2.2 t0 t1 o0 o1 := by
    intro c hc
    subst hc
    simp only [Z29]
    rw [z1a (by rw [z0s]; omega)]
    exact ih (j + 1) h (by omega)
   have hcg : (cur m k (i * m.1.toNat + j)).getD (i * m.1.toNat + j) 0 = ent m i j := by
    refine (upto_get hlt 0).trans ?_
    rw [if_neg (by omega)]
    rfl
   rw [hidx, ct iB, ct (at_p hd hi hk), ct (at_p hd (show k < m.2.1.toNat by omega) h), at_g (by omega), at_g (by omega)]
   simp only [Z26, Z27, Z28, Int.toNat_natCast, hcg]
   by_cases hik : i = k
   ·rw [ct (dt (by omega)), ct' rfl, z19 (by omega) (by omega)]
    refine fin _ (hset _ ?_)
    rw [hF, dt hik, Int.zero_sub]; rfl
   ·rw [cf (df (by omega))]
    by_cases hjk : j = k
    ·rw [ct' (by rw [z1t]; exact dt (by omega)), z19 (by omega) (by omega)]
     refine fin _ (hset _ ?_)
     rw [hF, df hik, dt hjk, Int.zero_sub]; rfl
    ·rw [cf' (by rw [z1t]; exact df (by omega))]
     rw [df hik, df hjk] at hF
     simp only [zt1, Bool.or_self, Bool.false_eq_true, if_false] at hF
     have wbc : w64 (ent m i k * ent m k j) = ent m i k * ent m k j := z19 (by omega) (by omega)
     rw [wbc]
     by_cases a1 : 0 < ent m i k
     ·rw [ct (dt a1)]
      by_cases a2 : 0 < ent m k j
      ·rw [ct (dt a2), z19 (by omega) (by omega)]
       refine fin _ (hset _ ?_)
       rw [hF, if_pos ⟨a1, a2⟩]
      ·rw [cf (df a2), cf (df (by omega))]
       refine fin _ (hsame ?_)
       rw [hF, if_neg (by omega), if_neg (by omega)]
     ·rw [cf (df a1)]
      by_cases a2 : ent m i k < 0
      ·rw [ct (dt a2)]
       by_cases a3 : ent m k j < 0
       ·rw [ct (dt a3), z19 (by omega) (by omega)]
        refine fin _ (hset _ ?_)
        rw [hF, if_neg (by omega), if_pos ⟨a2, a3⟩]
       ·rw [cf (df a3)]
        refine fin _ (hsame ?_)
        rw [hF, if_neg (by omega), if_neg (by omega)]
      ·rw [cf (df a2)]
       refine fin _ (hsame ?_)
       rw [hF, if_neg (by omega), if_neg (by omega)]
  ·rw [cf (df (by omega)), show j = m.1.toNat by omega]
theorem outer (hN : 10 ≤ N) (hs : z1y m = true) (hk : k < m.1.toNat) (k0 : List Int → Int → Int → Int → Int → Option ρ) (t0 t1 o0 o1 : Int) : ∀ (M i : Nat), i ≤ m.2.1.toNat → m.2.1.toNat - i < M →
  Z8L N k0 M (cur m k (i * m.1.toNat)) (k : Int) (i : Int) m.1 m.2.1 m.2.2 t0 t1 o0 o1 = k0 (cur m k (m.2.1.toNat * m.1.toNat)) t0 t1 o0 o1 := by
 have hd := z23 hs
 obtain ⟨n, r, hn, hr, hn1, hn5, hnr, hr8, hl⟩ := z17 hd
 intro M
 induction M with
 | zero => intro i _ h; omega
 | succ M ih =>
  intro i hi hM
  simp only [Z8L, Z9, Z10]
  by_cases h : i < m.2.1.toNat
  ·rw [ct (dt (by omega))]
   simp only [Z11, Z12, Z13, Z14, Z15, Z16]
   have hin := inner (ρ := ρ) (N := N) hs hk (fun out5_2 k1 i6 m2_0 m2_1 m2_2 t4_0 t4_1 out5_0 out5_1 => Z30 N out5_2 k1 i6 m2_0 m2_1 m2_2 t4_0 t4_1 out5_0 out5_1 (fun out5_2 k1 i6 m2_0 m2_1 m2_2 t4_0 t4_1 out5_0 out5_1 => Z8L N k0 M out5_2 k1 i6 m2_0 m2_1 m2_2 t4_0 t4_1 out5_0 out5_1)) t0 t1 o0 o1 h N 0 (by omega) (by omega)
   rw [show ((0 : Nat) : Int) = 0 from rfl, Nat.add_zero] at hin
   rw [hin]
   simp only [Z30]
   rw [z1a (by rw [z0s]; omega)]
   have := ih (i + 1) h (by omega)
   rw [Nat.add_mul, Nat.one_mul] at this
   exact this
  ·rw [cf (df (by omega)), show i = m.2.1.toNat by omega]
end
theorem ok : Spec := fun m k hb hp => ⟨10, fun N hN => by
 simp only [P, Bool.and_eq_true, decide_eq_true_eq] at hp
 obtain ⟨hs, h0, h1⟩ := hp
 obtain ⟨x, rfl⟩ := Int.eq_ofNat_of_zero_le h0
 have hd := z23 hs
 obtain ⟨n, r, hn, hr, hn1, hn5, hnr, hr8, hl⟩ := z17 hd
 have hlen : m.2.2.length ≤ 8 * 5 := by rw [hl]; exact Nat.mul_le_mul hr8 hn5
 simp only [Z0, Z1, Z2, Z3]
 rw [ct (show z14.P m.2.2 = true from dt (by omega)), ct (show z14.P m.2.2 = true from dt (by omega))]
 simp only [bo, z3f]
 simp only [Z4, Z5, Z6, Z7, Z8]
 have hstart : cur m x 0 = m.2.2 := by
  unfold cur
  rw [zk9]
  exact zej 0 rfl
 have hend : cur m x (m.2.1.toNat * m.1.toNat) = (z7o m x).2.2 := by
  have e : m.2.1.toNat * m.1.toNat = m.2.2.length := by rw [hl, hn, hr]; simp
  rw [e]
  exact zkb
 have := outer (ρ := Unit × (Int × Int × List Int) × Unit) hN hs (show x < m.1.toNat by omega) (fun out5_2 t4_0 t4_1 out5_0 out5_1 => Z31 N out5_2 t4_0 t4_1 out5_0 out5_1 (fun t4_2 t4_0 t4_1 => some ((), ((t4_0, (t4_1, t4_2)), ())))) 0 0 m.1 m.2.1 N 0 (by omega) (by omega)
 rw [Nat.zero_mul, hstart, hend] at this
 exact this⟩
end z0g
end
end Go.Fw
namespace Go.Fw
section
variable {ρ : Type}
namespace z1e
def g (m : Int × Int × List Int) (k : Int) : (Int × Int × List Int) × Bool :=
 if ((z1y m && !decide (z73 m = [])) && (inK k 0 (m.1 - 1) && (z1y (z7o m k.toNat) && !decide (z73 (z7o m k.toNat) = [])))) = true then (z7o m k.toNat, true) else ((0, 0, []), false)
end z1e
namespace z1e
def Z0 {ρ : Type} (N : Nat) (a : MT) (b : Int) (kr : LI → Bool → I2 (Option ρ)) : Option ρ :=
 cond (!(lk N ((z1s.g a))))
 (
  kr ([] : List Int) false 0 0)
 (
  cond (!(lk N ((z2i.g b 0 (w64 (a.1 - 1))))))
  (
   kr ([] : List Int) false 0 0)
  (
   cond (lk N (z0g.P a b)) (
    cond (!(lk N ((z1s.g (z0g.g a b)))))
    (
     kr ([] : List Int) false 0 0)
    (
     kr (z0g.g a b).2.2 true (z0g.g a b).1 (z0g.g a b).2.1)) none))
def Spec : Prop := ∀  (v0 : MT) (v1 : Int), Ty.bd (.pair (.int .i64) (.pair (.int .i64) (.sl 0 (.int .i64)))) v0 → ∃ N0, ∀ N, N0 ≤ N → Z0 N v0 v1 (fun v4_2 v5 v4_0 v4_1 => some ((), ((v4_0, (v4_1, v4_2)), (v5, ())))) = some ((), ((g v0 v1).1, ((g v0 v1).2, ())))
theorem ok : Spec := fun m k hb => ⟨0, fun N hN => by
 simp only [Z0, z1t, g, z1s.g, z2i.g]
 cases h1 : (z1y m && !decide (z73 m = []))
 ·rfl
 have hs : z1y m = true := by
  simp only [Bool.and_eq_true] at h1
  exact h1.1
 have hd := z23 hs
 obtain ⟨n, r, hn, hr, hn1, hn5, hnr, hr8, hl⟩ := z17 hd
 rw [z19 (by omega) (by omega)]
 cases h2 : inK k 0 (m.1 - 1)
 ·rfl
 have h3 := z2l.1 h2
 have hP : z0g.P m k = true := by
  simp only [z0g.P, Bool.and_eq_true, decide_eq_true_eq]
  exact ⟨hs, by omega, by omega⟩
 rw [hP]
 have hg : z0g.g m k = z7o m k.toNat := rfl
 rw [hg]
 cases (z1y (z7o m k.toNat) && !decide (z73 (z7o m k.toNat) = [])) <;> rfl⟩
end z1e
end
end Go.Fw
namespace Go.Fw
theorem zj4 {m : Int × Int × List Int} {d : Nat → Int} (h : z2j m d) : z04.g m = true ↔ Acy m.1.toNat (z6h m) := by
 have h0 : z1s.g m = true := by
  show (z1y m && !decide (z73 m = [])) = true
  rw [zbs]; exact h.ok
 unfold z04.g
 rw [h0, Bool.true_and, decide_eq_true_iff]
 exact zl3 m
theorem znq {m : Int × Int × List Int} {d : Nat → Int} (h : z2j m d) {k : Nat} (hk : k < m.1.toNat) (hs : z26 (z7o m k) = true) : z1e.g m (k : Int) = (z7o m k, true) := by
 unfold z1e.g
 have := zj3 m (k : Int)
 rw [Int.toNat_natCast] at this ⊢
 obtain ⟨n, r, en, hr, hn1, hn5, hnr, hr8, hl⟩ := z17 h.dim
 have h2 : inK (k : Int) 0 (m.1 - 1) = true := z2l.2 ⟨by omega, by omega⟩
 rw [this, h.ok, h2, hs]
 rfl
end Go.Fw
namespace Go.Fw
section
variable {ρ : Type}
namespace z07
def g (m : Int × Int × List Int) : Bool := z24.g m && (List.range m.1.toNat).all fun x => (znt m).getD x false
end z07
namespace z07
def Z1 {ρ : Type} (N : Nat) (a : MT) (kn : I2 (LI → Option ρ)) : Option ρ :=
 kn a.1 a.2.1 a.2.2
def Z3 {ρ : Type} (N : Nat) (a b : Int) (c : LI) (kn : I2 (LI → Option ρ)) (kr : Bool → Option ρ) : Option ρ :=
 cond (!(lk N ((z24.g (a, (b, c))))))
 (
  kr false)
 (
  kn a b c)
def Z5 {ρ : Type} (N : Nat) (a b : Int) (c : LI) (kn : List Bool → I2 (LI → Option ρ)) : Option ρ :=
 cond (lk N (leB 0 a && decide (a < 1099511627776))) (
  kn (List.replicate a.toNat (false : Bool)) a b c) none
def Z8 {ρ : Type} (N : Nat) (a : List Bool) (b c : Int) (d : LI) (kn : List Bool → I3 (LI → Option ρ)) : Option ρ :=
 kn a 0 b c d
def Z12 {ρ : Type} (N : Nat) (b : List Bool) (c a d : Int) (e : LI) (kn : List Bool → I3 (LI → Option ρ)) (k0 : List Bool → I2 (LI → Option ρ)) : Option ρ :=
 cond (lk N (decide (c < a)))
 (
  kn b c a d e)
 (
  k0 b a d e)
def Z16 {ρ : Type} (N : Nat) (a : List Bool) (b c d : Int) (e : LI) (kn : List Bool → I4 (LI → Option ρ)) : Option ρ :=
 kn a b 0 c d e
def Z20 {ρ : Type} (N : Nat) (b : List Bool) (c d a e : Int) (f : LI) (kn : List Bool → I4 (LI → Option ρ)) (k2 : List Bool → I3 (LI → Option ρ)) : Option ρ :=
 cond (lk N (decide (d < a)))
 (
  kn b c d a e f)
 (
  k2 b c a e f)
def Z24 {ρ : Type} (N : Nat) (a : List Bool) (c b d e : Int) (f : LI) (kn : List Bool → I2 (Bool → I2 (LI → Option ρ))) : Option ρ :=
 cond (lk N (inB b a.length)) (
  kn a c b (!((a.getD b.toNat false))) d e f) none
def Z27 {ρ : Type} (N : Nat) (a : List Bool) (b c : Int) (d : Bool) (e f : Int) (g : LI) (kn : List Bool → I2 (Bool → I3 (LI → Option ρ))) : Option ρ :=
 kn a b c d 0 e f g
def Z30 {ρ : Type} (N : Nat) (c : List Bool) (h d : Int) (i : Bool) (a b e : Int) (f : LI) (kn : List Bool → I2 (Bool → I3 (LI → Option ρ))) (k4 : List Bool → I2 (Bool → I2 (LI → Option ρ))) : Option ρ :=
 cond (lk N (decide (a < b)))
 (
  cond (i)
  (
   cond (lk N (inB a c.length)) (
    cond ((c.getD a.toNat false))
    (
     kn c h d true (w64 (a + 1)) b e f)
    (
     cond (lk N (z0o.P (b, (e, f)) d a)) (
      kn c h d (lk N (decide ((z0o.g (b, (e, f)) d a) ≤ 0))) (w64 (a + 1)) b e f) none)) none)
  (
   kn c h d false (w64 (a + 1)) b e f))
 (
  k4 c h d i b e f)
def Z29L {ρ : Type} (N : Nat) (k4 : List Bool → I2 (Bool → I2 (LI → Option ρ))) : Nat → List Bool → Int → Int → Bool → Int → Int → Int → LI → Option ρ
 | 0, _, _, _, _, _, _, _, _ => none
 | M + 1, a, b, c, d, e, f, g, h => Z30 N a b c d e f g h (fun a b c d e f g h => Z29L N k4 M a b c d e f g h) k4
def Z29 N a b c d e f g h k4 := (Z29L N k4 N a b c d e f g h : Option ρ)
def Z28 N a b c d e f g h kn := (Z29 N a b c d e f g h kn : Option ρ)
def Z26 N a b c d e f g kn := (Z27 N a b c d e f g (fun a b c d h e f g => Z28 N a b c d h e f g kn) : Option ρ)
def Z31 {ρ : Type} (N : Nat) (b : List Bool) (c a : Int) (g : Bool) (d e : Int) (f : LI) (kn : List Bool → I4 (LI → Option ρ)) : Option ρ :=
 cond (g)
 (
  cond (lk N (inB a b.length)) (
   kn (b.set a.toNat true) c a d e f) none)
 (
  kn b c a d e f)
def Z25 N a b c d e f g kn := (Z26 N a b c d e f g (fun a b c d e f g => Z31 N a b c d e f g kn) : Option ρ)
def Z23 N a b c d e f kn := (Z24 N a b c d e f (fun a b c g d e f => Z25 N a b c g d e f kn) : Option ρ)
def Z22 N a b c d e f kn := (Z23 N a b c d e f kn : Option ρ)
def Z32 {ρ : Type} (N : Nat) (a : List Bool) (b c d e : Int) (f : LI) (kn : List Bool → I4 (LI → Option ρ)) : Option ρ :=
 kn a b (w64 (c + 1)) d e f
def Z21 N a b c d e f kn := (Z22 N a b c d e f (fun a b c d e f => Z32 N a b c d e f kn) : Option ρ)
def Z19 N a b c d e f kn k2 := (Z20 N a b c d e f (fun a b c d e f => Z21 N a b c d e f kn) k2 : Option ρ)
def Z18L {ρ : Type} (N : Nat) (k2 : List Bool → I3 (LI → Option ρ)) : Nat → List Bool → Int → Int → Int → Int → LI → Option ρ
 | 0, _, _, _, _, _, _ => none
 | M + 1, a, b, c, d, e, f => Z19 N a b c d e f (fun a b c d e f => Z18L N k2 M a b c d e f) k2
def Z18 N a b c d e f k2 := (Z18L N k2 N a b c d e f : Option ρ)
def Z17 N a b c d e f kn := (Z18 N a b c d e f kn : Option ρ)
def Z15 N a b c d e kn := (Z16 N a b c d e (fun a b f c d e => Z17 N a b f c d e kn) : Option ρ)
def Z14 N a b c d e kn := (Z15 N a b c d e kn : Option ρ)
def Z33 {ρ : Type} (N : Nat) (a : List Bool) (b c d : Int) (e : LI) (kn : List Bool → I3 (LI → Option ρ)) : Option ρ :=
 kn a (w64 (b + 1)) c d e
def Z13 N a b c d e kn := (Z14 N a b c d e (fun a b c d e => Z33 N a b c d e kn) : Option ρ)
def Z11 N a b c d e kn k0 := (Z12 N a b c d e (fun a b c d e => Z13 N a b c d e kn) k0 : Option ρ)
def Z10L {ρ : Type} (N : Nat) (k0 : List Bool → I2 (LI → Option ρ)) : Nat → List Bool → Int → Int → Int → LI → Option ρ
 | 0, _, _, _, _, _ => none
 | M + 1, a, b, c, d, e => Z11 N a b c d e (fun a b c d e => Z10L N k0 M a b c d e) k0
def Z10 N a b c d e k0 := (Z10L N k0 N a b c d e : Option ρ)
def Z9 N a b c d e kn := (Z10 N a b c d e kn : Option ρ)
def Z7 N a b c d kn := (Z8 N a b c d (fun a e b c d => Z9 N a e b c d kn) : Option ρ)
def Z36 {ρ : Type} (N : Nat) (a : List Bool) (b c : Int) (d : LI) (kn : List Bool → I3 (LI → Option ρ)) : Option ρ :=
 kn a 0 b c d
def Z39 {ρ : Type} (N : Nat) (b : List Bool) (a c d : Int) (e : LI) (kn : List Bool → I3 (LI → Option ρ)) (k6 : Option ρ) (kr : Bool → Option ρ) : Option ρ :=
 cond (lk N (decide (a < c)))
 (
  cond (lk N (inB a b.length)) (
   cond (!((b.getD a.toNat false)))
   (
    kr false)
   (
    kn b (w64 (a + 1)) c d e)) none)
 (
  k6)
def Z38L {ρ : Type} (N : Nat) (k6 : Option ρ) (kr : Bool → Option ρ) : Nat → List Bool → Int → Int → Int → LI → Option ρ
 | 0, _, _, _, _, _ => none
 | M + 1, a, b, c, d, e => Z39 N a b c d e (fun a b c d e => Z38L N k6 kr M a b c d e) k6 kr
def Z38 N a b c d e k6 kr := (Z38L N k6 kr N a b c d e : Option ρ)
def Z37 N a b c d e kn kr := (Z38 N a b c d e kn kr : Option ρ)
def Z35 N a b c d kn kr := (Z36 N a b c d (fun a e b c d => Z37 N a e b c d kn kr) : Option ρ)
def Z40 {ρ : Type} (N : Nat)  (kr : Bool → Option ρ) : Option ρ :=
 kr true
def Z34 N a b c d kr := (Z35 N a b c d (Z40 N kr) kr : Option ρ)
def Z6 N a b c d kr := (Z7 N a b c d (fun a b c d => Z34 N a b c d kr) : Option ρ)
def Z4 N a b c kr := (Z5 N a b c (fun d a b c => Z6 N d a b c kr) : Option ρ)
def Z2 N a b c kr := (Z3 N a b c (fun a b c => Z4 N a b c kr) kr : Option ρ)
def Z0 N a kr := (Z1 N a (fun b c d => Z2 N b c d kr) : Option ρ)
def Spec : Prop := ∀  (v0 : MT), Ty.bd (.pair (.int .i64) (.pair (.int .i64) (.sl 0 (.int .i64)))) v0 → ∃ N0, ∀ N, N0 ≤ N → Z0 N v0 (fun v2 => some ((), (v2, ()))) = some ((), ((g v0), ()))
section
variable {ρ : Type} {N : Nat} {m : Int × Int × List Int}
theorem inner (hd : z3s m = true) {i : Nat} (hi : i < m.1.toNat) (turn : Int) {G : List Bool} (hG : G.length = m.1.toNat) (k4 : List Bool → Int → Int → Bool → Int → Int → List Int → Option ρ) : ∀ (M j : Nat) (sink : Bool), j ≤ m.1.toNat → m.1.toNat - j < M →
  Z29L N k4 M G turn (i : Int) sink (j : Int) m.1 m.2.1 m.2.2 = k4 G turn (i : Int) (sink && ((List.range m.1.toNat).drop j).all fun j => G.getD j false || decide (ent m i j ≤ 0)) m.1 m.2.1 m.2.2 := by
 obtain ⟨n, r, hn, hr, _, hn5, hnr, _, _⟩ := z17 hd
 intro M
 induction M with
 | zero => intro j _ _ h; omega
 | succ M ih =>
  intro j sink hj hM
  simp only [Z29L, Z1, Z3, Z5, Z8, Z12, Z16, Z20, Z24, Z27, Z30, Z29, Z28, Z26, Z31, Z25, Z23, Z22, Z32, Z21, Z19, Z18, Z17, Z15, Z14, Z33, Z13, Z11, Z10, Z9, Z7, Z36, Z39, Z38, Z37, Z35, Z40, Z34, Z6, Z4, Z2, Z0]
  by_cases h : j < m.1.toNat
  ·have e1 : z0o.P (m.1, (m.2.1, m.2.2)) (i : Int) (j : Int) = true := zju hd (by omega) h
   have e2 : z0o.g (m.1, (m.2.1, m.2.2)) (i : Int) (j : Int) = ent m i j := z7m (by omega) i j
   rw [ct (dt (by omega)), ct (z1b (by omega)), ct e1, e2, Int.toNat_natCast, z1a (by rw [z0s]; omega), ih (j + 1) _ h (by omega), ih (j + 1) _ h (by omega), ih (j + 1) _ h (by omega), z2v h, List.all_cons]
   simp only [z1t]
   cases sink
   ·rfl
   ·cases G.getD j false
    ·simp
    ·rfl
  ·rw [cf (df (by omega)), List.drop_of_length_le (by simp; omega)]
   simp
theorem visG_len {G : List Bool} (v : Nat) (hG : G.length = m.1.toNat) : (visG m G v).length = m.1.toNat := by
 unfold visG
 cases zkj m G v <;> simp [hG]
theorem fold_len (vs : List Nat) : ∀ {G : List Bool}, G.length = m.1.toNat → (vs.foldl (visG m) G).length = m.1.toNat := by
 induction vs with
 | nil => exact fun h => h
 | cons v vs ih => exact fun h => ih (visG_len v h)
theorem row (hd : z3s m = true) (turn : Int) (k2 : List Bool → Int → Int → Int → List Int → Option ρ) (hN : m.1.toNat < N) : ∀ (M j : Nat) (G : List Bool), G.length = m.1.toNat → j ≤ m.1.toNat → m.1.toNat - j < M →
  Z18L N k2 M G turn (j : Int) m.1 m.2.1 m.2.2 = k2 (((List.range m.1.toNat).drop j).foldl (visG m) G) turn m.1 m.2.1 m.2.2 := by
 obtain ⟨n, r, hn, hr, _, hn5, hnr, _, _⟩ := z17 hd
 intro M
 induction M with
 | zero => intro j _ _ _ h; omega
 | succ M ih =>
  intro j G hG hj hM
  simp only [Z18L, Z1, Z3, Z5, Z8, Z12, Z16, Z20, Z24, Z27, Z30, Z29, Z28, Z26, Z31, Z25, Z23, Z22, Z32, Z21, Z19, Z18, Z17, Z15, Z14, Z33, Z13, Z11, Z10, Z9, Z7, Z36, Z39, Z38, Z37, Z35, Z40, Z34, Z6, Z4, Z2, Z0]
  by_cases h : j < m.1.toNat
  ·have hin := fun (k : List Bool → Int → Int → Bool → Int → Int → List Int → Option ρ) (sink : Bool) => inner (N := N) hd h turn hG k N 0 sink (by omega) (by omega)
   simp only [show ((0 : Nat) : Int) = 0 from rfl, List.drop_zero] at hin
   rw [ct (dt (by omega)), ct (z1b (by omega)), Int.toNat_natCast, hin, ct (z1b (by omega)), z1a (by rw [z0s]; omega), ih (j + 1) _ (by simpa using hG) h (by omega), ih (j + 1) _ hG h (by omega), z2v h, List.foldl_cons]
   show cond (zkj m G j) _ _ = k2 (((List.range m.1.toNat).drop (j + 1)).foldl (visG m) (cond (zkj m G j) (G.set j true) G)) turn m.1 m.2.1 m.2.2
   cases zkj m G j <;> rfl
  ·rw [cf (df (by omega)), List.drop_of_length_le (by simp; omega)]; rfl
theorem rounds (hd : z3s m = true) (k0 : List Bool → Int → Int → List Int → Option ρ) (hN : m.1.toNat < N) : ∀ (M j : Nat) (G : List Bool), G.length = m.1.toNat → j ≤ m.1.toNat → m.1.toNat - j < M →
  Z10L N k0 M G (j : Int) m.1 m.2.1 m.2.2 = k0 (zbi (fun G => (List.range m.1.toNat).foldl (visG m) G) (m.1.toNat - j) G) m.1 m.2.1 m.2.2 := by
 obtain ⟨n, r, hn, hr, _, hn5, hnr, _, _⟩ := z17 hd
 intro M
 induction M with
 | zero => intro j _ _ _ h; omega
 | succ M ih =>
  intro j G hG hj hM
  simp only [Z10L, Z1, Z3, Z5, Z8, Z12, Z16, Z20, Z24, Z27, Z30, Z29, Z28, Z26, Z31, Z25, Z23, Z22, Z32, Z21, Z19, Z18, Z17, Z15, Z14, Z33, Z13, Z11, Z10, Z9, Z7, Z36, Z39, Z38, Z37, Z35, Z40, Z34, Z6, Z4, Z2, Z0]
  by_cases h : j < m.1.toNat
  ·have hin := fun (k : List Bool → Int → Int → Int → List Int → Option ρ) => row (N := N) hd (j : Int) k hN N 0 G hG (by omega) (by omega)
   simp only [show ((0 : Nat) : Int) = 0 from rfl, List.drop_zero] at hin
   rw [ct (dt (by omega)), hin, z1a (by rw [z0s]; omega), ih (j + 1) _ (fold_len _ hG) h (by omega), show m.1.toNat - j = (m.1.toNat - (j + 1)) + 1 by omega]
   rfl
  ·rw [cf (df (by omega)), show m.1.toNat - j = 0 by omega]; rfl
theorem last {G : List Bool} (hd : z3s m = true) (hG : G.length = m.1.toNat) (k6 : Option ρ) (kr : Bool → Option ρ) : ∀ (M j : Nat), j ≤ m.1.toNat → m.1.toNat - j < M →
  Z38L N k6 kr M G (j : Int) m.1 m.2.1 m.2.2 = cond (((List.range m.1.toNat).drop j).all fun x => G.getD x false) k6 (kr false) := by
 obtain ⟨n, r, hn, hr, _, hn5, hnr, _, _⟩ := z17 hd
 intro M
 induction M with
 | zero => intro j _ h; omega
 | succ M ih =>
  intro j hj hM
  simp only [Z38L, Z1, Z3, Z5, Z8, Z12, Z16, Z20, Z24, Z27, Z30, Z29, Z28, Z26, Z31, Z25, Z23, Z22, Z32, Z21, Z19, Z18, Z17, Z15, Z14, Z33, Z13, Z11, Z10, Z9, Z7, Z36, Z39, Z38, Z37, Z35, Z40, Z34, Z6, Z4, Z2, Z0]
  by_cases h : j < m.1.toNat
  ·rw [ct (dt (by omega)), ct (z1b (by omega)), Int.toNat_natCast, z1a (by rw [z0s]; omega), ih (j + 1) h (by omega), z2v h, List.all_cons]
   cases G.getD j false <;> rfl
  ·rw [cf (df (by omega)), List.drop_of_length_le (by simp; omega)]; rfl
end
theorem ok : Spec := fun m hb => ⟨6, fun N hN => by
 simp only [Z1, Z3, Z5, Z8, Z12, Z16, Z20, Z24, Z27, Z30, Z29, Z28, Z26, Z31, Z25, Z23, Z22, Z32, Z21, Z19, Z18, Z17, Z15, Z14, Z33, Z13, Z11, Z10, Z9, Z7, Z36, Z39, Z38, Z37, Z35, Z40, Z34, Z6, Z4, Z2, Z0, g]
 cases h : z24.g m
 ·simp only [z1t, h]; rfl
 have hd : z3s m = true := by
  simp only [z24.g, z26, z1y, Bool.and_eq_true] at h
  exact h.1.1.1
 obtain ⟨n, r, hn, hr, _, hn5, hnr, _, _⟩ := z17 hd
 have hG := (zl9 m).1
 have h1 := fun (k0 : List Bool → Int → Int → List Int → Option (Unit × Bool × Unit)) => rounds (N := N) hd k0 (by omega) N 0 (List.replicate m.1.toNat false) (by simp) (by omega) (by omega)
 have h2 := fun (k6 : Option (Unit × Bool × Unit)) (kr : Bool → Option (Unit × Bool × Unit)) => last (N := N) (G := znt m) hd hG k6 kr N 0 (by omega) (by omega)
 simp only [show ((0 : Nat) : Int) = 0 from rfl, Nat.sub_zero, List.drop_zero] at h1 h2
 rw [cf' (by rw [z1t]; rfl), ct (by rw [zrz (by omega), dt (by omega)]; rfl), h1]
 have := h2 (some ((), (true, ()))) (fun t => some ((), (t, ())))
 refine this.trans ?_
 cases (List.range m.1.toNat).all fun x => (znt m).getD x false <;> rfl⟩
end z07
end
end Go.Fw
namespace Go.Fw
theorem acy_same (m : Int × Int × List Int) : z04.g m = z07.g m := by
 have he : z1s.g m = z24.g m := zbs m
 unfold z04.g z07.g
 rw [he]
 congr 1
 rw [Bool.eq_iff_iff, decide_eq_true_iff, zl3, ← (zl9 m).2, List.all_eq_true]
 exact ⟨fun h x hx => h x (by simpa using hx), fun h x hx => h x (by simpa using hx)⟩
end Go.Fw
namespace Go.Fw
section
variable {ρ : Type}
namespace z5y
def g (b : List Int) : Bool := decide (1048576 < (b.length : Int))
end z5y
namespace z5y
def Z0 {ρ : Type} (N : Nat) (a : List Int) (kr : Bool → Option ρ) : Option ρ :=
 kr (lk N (decide (1048576 < (a.length : Int))))
def Spec : Prop := ∀  (v0 : List Int), Ty.bd (.sl 0 (.int .u8)) v0 → ∃ N0, ∀ N, N0 ≤ N → Z0 N v0 (fun v2 => some ((), (v2, ()))) = some ((), ((g v0), ()))
theorem ok : Spec := fun b hb => ⟨0, fun N hN => by
 simp only [Z0, z1t, g]⟩
end z5y
end
end Go.Fw
namespace Go.Fw
section
variable {ρ : Type}
namespace z0x
def hstep (h x : Int) : Int := z8x .and .i64 (w64 (w64 (w64 (h * 131) + w64 x) + 7)) 1073741823
def g (b : List Int) : Int × Int := (0, (b.take 4000).foldl hstep (w64 (124929 + (b.length : Int))))
end z0x
namespace z0x
def Z1 {ρ : Type} (N : Nat) (a : List Int) (kn : List Int → Option ρ) : Option ρ :=
 kn a
def Z3 {ρ : Type} (N : Nat) (a : List Int) (kn : List Int → Int → Option ρ) : Option ρ :=
 kn a (w64 (124929 + (a.length : Int)))
def Z6 {ρ : Type} (N : Nat) (a : List Int) (b : Int) (kn : List Int → I2 (Option ρ)) : Option ρ :=
 kn a b 0
def Z9 {ρ : Type} (N : Nat) (a : List Int) (c b : Int) (kn : List Int → I2 (Option ρ)) (k0 : List Int → Int → Option ρ) : Option ρ :=
 cond (lk N (decide (b < (a.length : Int))))
 (
  cond (lk N (decide (b < 4000)))
  (
   cond (lk N (inB b a.length)) (
    kn a (z8x .and .i64 (w64 ((w64 ((w64 (c * 131)) + (w64 ((a.getD b.toNat 0))))) + 7)) 1073741823) (w64 (b + 1))) none)
  (
   k0 a c))
 (
  k0 a c)
def Z8L {ρ : Type} (N : Nat) (k0 : List Int → Int → Option ρ) : Nat → List Int → Int → Int → Option ρ
 | 0, _, _, _ => none
 | M + 1, a, b, c => Z9 N a b c (fun a b c => Z8L N k0 M a b c) k0
def Z8 N a b c k0 := (Z8L N k0 N a b c : Option ρ)
def Z7 N a b c kn := (Z8 N a b c kn : Option ρ)
def Z5 N a b kn := (Z6 N a b (fun a b c => Z7 N a b c kn) : Option ρ)
def Z10 {ρ : Type} (N : Nat) (a : List Int) (b : Int) (kr : List Int → I2 (Option ρ)) : Option ρ :=
 kr a 0 b
def Z4 N a b kr := (Z5 N a b (fun a b => Z10 N a b kr) : Option ρ)
def Z2 N a kr := (Z3 N a (fun a b => Z4 N a b kr) : Option ρ)
def Z0 N a kr := (Z1 N a (fun a => Z2 N a kr) : Option ρ)
def Spec : Prop := ∀ {U : Type} (u : U) (v0 : List Int), Ty.bd (.sl 0 (.int .u8)) v0 → ∃ N0, ∀ N, N0 ≤ N → Z0 N v0 (fun v31_0 v31_1 v31_2 => some (u, (v31_1, v31_2))) = some (u, (g v0))
theorem loop {ρ : Type} {N : Nat} (b : List Int) (k0 : List Int → Int → Option ρ) : ∀ (M i : Nat) (h : Int), i ≤ (b.take 4000).length → (b.take 4000).length - i < M →
  Z8L N k0 M b h (i : Int) = k0 b (((b.take 4000).drop i).foldl hstep h) := by
 intro M
 induction M with
 | zero => intro i h _ hM; omega
 | succ M ih =>
  intro i h hi hM
  have hL : (b.take 4000).length = min 4000 b.length := List.length_take
  simp only [Z8L, Z9]
  by_cases hl : i < (b.take 4000).length
  ·have hlt : i < b.length := by omega
   have hge : (b.take 4000).getD i 0 = b.getD i 0 := by
    rw [List.getD_eq_getElem?_getD, List.getD_eq_getElem?_getD, List.getElem?_take, if_pos (by omega)]
   rw [ct (dt (by omega)), ct (dt (by omega)), ct (z1b hlt), Int.toNat_natCast, z9c (l := b.take 4000) 0 hl, hge, z1a (by rw [z0s]; omega)]
   exact ih (i + 1) _ hl (by omega)
  ·rw [List.drop_of_length_le (by omega)]
   by_cases hlt : i < b.length
   ·rw [ct (dt (by omega)), cf (df (by omega))]
    rfl
   ·rw [cf (df (by omega))]
    rfl
theorem ok : Spec := fun u b hb => ⟨5000, fun N hN => by
 simp only [Z0, Z1, Z2, Z3, Z4, Z5, Z6, Z7, Z8]
 refine (loop b _ N 0 _ (Nat.zero_le _) (by rw [List.length_take]; omega)).trans ?_
 rw [List.drop_zero]
 rfl⟩
end z0x
end
end Go.Fw
namespace Go.Fw
section
variable {ρ : Type}
namespace z11
def P (b : List Int) (r : Int × Int) (n most : Int) : Bool := z28 b r && inK most 0 100
def zrh (b : List Int) (n : Int) (s : (Int × Int) × List Int) : (Int × Int) × List Int := ((z00.g b s.1 n).1, s.2 ++ [(z00.g b s.1 n).2])
def zdc (b : List Int) (n : Int) : Nat → (Int × Int) × List Int → (Int × Int) × List Int
 | 0, s => s
 | c + 1, s => zdc b n c (zrh b n s)
def g (b : List Int) (r : Int × Int) (n most : Int) : (Int × Int) × List Int := zdc b n (z00.g b r (most + 1)).2.toNat ((z00.g b r (most + 1)).1, [])
end z11
namespace z11
def Z1 {ρ : Type} (N : Nat) (b0 : List Int) (r0 : Int × Int) (a b : Int) (kn : I2 (List Int → I2 (Option ρ))) : Option ρ :=
 kn a b b0 r0.1 r0.2
def Z3 {ρ : Type} (N : Nat) (a b : Int) (c : List Int) (d e : Int) (kn : LI → I2 (List Int → I2 (Option ρ))) : Option ρ :=
 kn ([] : List Int) a b c d e
def Z5 {ρ : Type} (N : Nat) (e : LI) (f b : Int) (a : List Int) (c d : Int) (kn : LI → I2 (List Int → I2 (Option ρ))) : Option ρ :=
 cond (lk N (z00.P a (c, d) (w64 (b + 1)))) (
  kn e f (z00.g a (c, d) (w64 (b + 1))).2 a (z00.g a (c, d) (w64 (b + 1))).1.1 (z00.g a (c, d) (w64 (b + 1))).1.2) none
def Z8 {ρ : Type} (N : Nat) (a : LI) (b c : Int) (d : List Int) (e f : Int) (kn : LI → I3 (List Int → I2 (Option ρ))) : Option ρ :=
 kn a b c 0 d e f
def Z11 {ρ : Type} (N : Nat) (e : LI) (b f h : Int) (a : List Int) (c d : Int) (kn : LI → I3 (List Int → I2 (Option ρ))) (k0 : LI → List Int → I2 (Option ρ)) : Option ρ :=
 cond (lk N (decide (h < f)))
 (
  cond (lk N (z00.P a (c, d) b)) (
   cond (lk N (Nat.blt (e.length + ([(z00.g a (c, d) b).2] : List Int).length) 1099511627776)) (
    kn (e ++ ([(z00.g a (c, d) b).2] : List Int)) b f (w64 (h + 1)) a (z00.g a (c, d) b).1.1 (z00.g a (c, d) b).1.2) none) none)
 (
  k0 e a c d)
def Z10L {ρ : Type} (N : Nat) (k0 : LI → List Int → I2 (Option ρ)) : Nat → LI → Int → Int → Int → List Int → Int → Int → Option ρ
 | 0, _, _, _, _, _, _, _ => none
 | M + 1, a, b, c, d, e, f, g => Z11 N a b c d e f g (fun a b c d e f g => Z10L N k0 M a b c d e f g) k0
def Z10 N a b c d e f g k0 := (Z10L N k0 N a b c d e f g : Option ρ)
def Z9 N a b c d e f g kn := (Z10 N a b c d e f g kn : Option ρ)
def Z7 N a b c d e f kn := (Z8 N a b c d e f (fun a b c g d e f => Z9 N a b c g d e f kn) : Option ρ)
def Z12 {ρ : Type} (N : Nat) (a : LI) (b : List Int) (c d : Int) (kr : LI → List Int → I2 (Option ρ)) : Option ρ :=
 kr a b c d
def Z6 N a e f b c d kr := (Z7 N a e f b c d (fun a b c d => Z12 N a b c d kr) : Option ρ)
def Z4 N a b f c d e kr := (Z5 N a b f c d e (fun a b g c d e => Z6 N a b g c d e kr) : Option ρ)
def Z2 N a b c d e kr := (Z3 N a b c d e (fun f a b c d e => Z4 N f a b c d e kr) : Option ρ)
def Z0 N b0 r0 a b kr := (Z1 N b0 r0 a b (fun a b c d e => Z2 N a b c d e kr) : Option ρ)
def Spec : Prop := ∀ {U : Type} (u : U) (b0 : List Int) (r0 : Int × Int) (v1 v2 : Int), Ty.bd (.sl 0 (.int .u8)) b0 → P b0 r0 v1 v2 = true → ∃ N0, ∀ N, N0 ≤ N → Z0 N b0 r0 v1 v2 (fun v6 w0_0 w0_1 w0_2 => some (u, ((w0_1, w0_2), ((), (v6, ()))))) = some (u, ((g b0 r0 v1 v2).1, ((), ((g b0 r0 v1 v2).2, ()))))
theorem loop {ρ : Type} {N : Nat} {b : List Int} (n : Int) (k0 : List Int → List Int → Int → Int → Option ρ) {c : Nat} (hc : c ≤ 101) : ∀ (M i : Nat) (s : (Int × Int) × List Int), i ≤ c → z28 b s.1 = true → s.2.length + (c - i) ≤ 1000 → c - i < M →
  Z10L N k0 M s.2 n (c : Int) (i : Int) b s.1.1 s.1.2 = k0 (zdc b n (c - i) s).2 b (zdc b n (c - i) s).1.1 (zdc b n (c - i) s).1.2 := by
 intro M
 induction M with
 | zero => intro i s _ _ _ h; omega
 | succ M ih =>
  intro i s hi hs hl hM
  simp only [Z10L, Z11]
  by_cases h : i < c
  ·have es : ((s.1.1, s.1.2) : Int × Int) = s.1 := rfl
   have hP : z00.P b s.1 n = true := hs
   have w1 : w64 ((i : Int) + 1) = ((i + 1 : Nat) : Int) := z1a (by rw [z0s]; omega)
   have c1 : Nat.blt (s.2.length + ([(z00.g b s.1 n).2] : List Int).length) 1099511627776 = true := Nat.ble_eq_true_of_le (by rw [List.length_singleton]; omega)
   rw [ct (dt (by omega)), es, ct hP, ct c1, w1, show c - i = (c - (i + 1)) + 1 by omega]
   exact ih (i + 1) (zrh b n s) h (z00.keep hs) (by simp [zrh]; omega) (by omega)
  ·rw [cf (df (by omega)), show c - i = 0 by omega]
   rfl
theorem ok : Spec := fun u b r n most hb hp => ⟨200, fun N hN => by
 simp only [P, Bool.and_eq_true, z2l] at hp
 obtain ⟨h, hm⟩ := hp
 have h0 := z00.keep (n := most + 1) h
 have hr := z00.range (b := b) (r := r) (n := most + 1) (by omega) (by omega)
 have er : ((r.1, r.2) : Int × Int) = r := rfl
 have p0 : z00.P b r (most + 1) = true := h
 simp only [Z1, Z3, Z5, Z8, Z11, Z10, Z9, Z7, Z12, Z6, Z4, Z2, Z0]
 rw [er, z19 (n := most + 1) (by omega) (by omega), ct p0]
 obtain ⟨c, hc⟩ := Int.eq_ofNat_of_zero_le hr.1
 have key := fun {ρ : Type} (k0 : List Int → List Int → Int → Int → Option ρ) => loop (ρ := ρ) (N := N) n k0 (c := c) (by omega) N 0 ((z00.g b r (most + 1)).1, []) (Nat.zero_le _) h0 (by simp; omega) (by omega)
 rw [hc]
 refine (key _).trans ?_
 unfold g
 rw [hc]
 rfl⟩
end z11
end
end Go.Fw
namespace Go.Fw
section
variable {ρ : Type}
namespace z25
def g (b : List Int) : (Int × Int × List Int) × List Int := ((z13.g b (z0x.g b)).2, (z11.g b (z13.g b (z0x.g b)).1 (z13.g b (z0x.g b)).2.1 4).2)
end z25
namespace z25
def Z0 {ρ : Type} (N : Nat) (a : List Int) (kr : LI → LI → I2 (Option ρ)) : Option ρ :=
 cond (lk N (z13.P a (z0x.g a))) (
  bo (
   cond (lk N (z11.P a (z13.g a (z0x.g a)).1 (z13.g a (z0x.g a)).2.1 4)) (
    kr (z11.g a (z13.g a (z0x.g a)).1 (z13.g a (z0x.g a)).2.1 4).2 (z13.g a (z0x.g a)).2.2.2 (z13.g a (z0x.g a)).2.1 (z13.g a (z0x.g a)).2.2.1) none)) none
def Spec : Prop := ∀  (v0 : List Int), Ty.bd (.sl 0 (.int .u8)) v0 → ∃ N0, ∀ N, N0 ≤ N → Z0 N v0 (fun v3 v2_2 v2_0 v2_1 => some ((), ((v2_0, (v2_1, v2_2)), (v3, ())))) = some ((), ((g v0).1, ((g v0).2, ())))
theorem cur0 {b : List Int} (h : b.length ≤ maxLen) : z28 b (z0x.g b) = true := by
 rw [zgf]
 exact ⟨Int.le_refl 0, by show (0 : Int) ≤ _; omega, h⟩
theorem ok : Spec := fun b hb => ⟨0, fun N hN => by
 have h0 := cur0 hb.1
 obtain ⟨h1, d1, n4, hsq⟩ := z13.facts h0
 have p1 : z13.P b (z0x.g b) = true := h0
 have p2 : z11.P b (z13.g b (z0x.g b)).1 (z13.g b (z0x.g b)).2.1 4 = true := by
  simp only [z11.P, Bool.and_eq_true, z2l]
  exact ⟨h1, by omega, by omega⟩
 simp only [Z0, z1t, p1, p2, cond_true, bo, z3f]
 rfl⟩
end z25
end
end Go.Fw
namespace Go.Fw
section
variable {ρ : Type}
namespace z2w
def P (m : Int × Int × List Int) (i j : Int) : Bool := z3s m && (inK i 0 (m.2.1 - 1) && inK j 0 (m.1 - 1))
def g (m : Int × Int × List Int) (i j : Int) : Int := m.2.2.getD (i * m.1 + j).toNat 0
end z2w
namespace z2w
def Z0 {ρ : Type} (N : Nat) (a : MT) (b c : Int) (kr : Int → Option ρ) : Option ρ :=
 cond (lk N (decide ((a.2.2.length : Int) ≤ (w64 ((w64 (b * a.1)) + c)))))
 (
  kr 0)
 (
  cond (lk N (inB (w64 ((w64 (b * a.1)) + c)) a.2.2.length)) (
   kr (a.2.2.getD (w64 ((w64 (b * a.1)) + c)).toNat 0)) none)
def Spec : Prop := ∀  (v0 : MT) (v1 v2 : Int), Ty.bd (.pair (.int .i64) (.pair (.int .i64) (.sl 0 (.int .i64)))) v0 → P v0 v1 v2 = true → ∃ N0, ∀ N, N0 ≤ N → Z0 N v0 v1 v2 (fun v6 => some ((), (v6, ()))) = some ((), ((g v0 v1 v2), ()))
theorem at_nat {m : Int × Int × List Int} (h : 0 ≤ m.1) (i j : Nat) : g m (i : Int) (j : Int) = ent m i j := z7m h i j
theorem ok : Spec := fun m i j hb hp => ⟨0, fun N hN => by
 simp only [P, Bool.and_eq_true, z2l] at hp
 obtain ⟨hd, hi, hj⟩ := hp
 obtain ⟨n, r, hn, hr, hn1, hn5, hnr, hr8, hl⟩ := z17 hd
 obtain ⟨x, rfl⟩ := Int.eq_ofNat_of_zero_le hi.1
 obtain ⟨y, rfl⟩ := Int.eq_ofNat_of_zero_le hj.1
 have hlt := z9b (n := n) (r := r) (i := x) (j := y) (by omega) (by omega)
 have hq : r * n ≤ 8 * 5 := Nat.mul_le_mul hr8 hn5
 have e1 : (x : Int) * m.1 + (y : Int) = ((x * n + y : Nat) : Int) := by rw [hn]; simp
 have e1' : (x : Int) * m.1 = ((x * n : Nat) : Int) := by rw [hn]; simp
 have a1 : w64 ((x : Int) * m.1) = (x : Int) * m.1 := by rw [e1']; exact z19 (by omega) (by omega)
 have w1 : w64 (w64 ((x : Int) * m.1) + (y : Int)) = (x : Int) * m.1 + (y : Int) := by rw [a1, e1]; exact z19 (by omega) (by omega)
 have ib : inB ((x : Int) * m.1 + (y : Int)) m.2.2.length = true := by rw [e1]; exact z1b (by omega)
 simp only [Z0]
 rw [w1, cf (df (by rw [e1]; omega)), ct ib]
 rfl⟩
end z2w
end
end Go.Fw
namespace Go.Fw
section
variable {ρ : Type}
namespace z0e
def g (_ : List Int) : Bool := true
end z0e
namespace z0e
def Z1 {ρ : Type} (N : Nat) (a : List Int) (kn : List Int → Option ρ) : Option ρ :=
 kn a
def Z3 {ρ : Type} (N : Nat) (a : List Int) (kn : List Int → Option ρ) (kr : Bool → Option ρ) : Option ρ :=
 cond (lk N ((z5y.g a)))
 (
  kr true)
 (
  kn a)
def Z5 {ρ : Type} (N : Nat) (a : List Int) (kn : LI → I2 (Option ρ)) : Option ρ :=
 kn (z25.g a).1.2.2 (z25.g a).1.1 (z25.g a).1.2.1
def Z7 {ρ : Type} (N : Nat) (a : LI) (b c : Int) (kn : LI → Bool → I2 (Option ρ)) : Option ρ :=
 kn a (lk N ((z04.g (b, (c, a))))) b c
def Z9 {ρ : Type} (N : Nat) (a : LI) (b : Bool) (c d : Int) (kn : LI → Bool → I2 (Option ρ)) (kr : Bool → Option ρ) : Option ρ :=
 cond (lk N (!((b == (lk N ((z07.g (c, (d, a)))))))))
 (
  kr false)
 (
  kn a b c d)
def Z11 {ρ : Type} (N : Nat) (b : LI) (c : Bool) (a d : Int) (kn : LI → I2 (Option ρ)) (kr : Bool → Option ρ) : Option ρ :=
 cond (!(c))
 (
  kr (lk N (decide (3 ≤ a))))
 (
  kn b a d)
def Z14 {ρ : Type} (N : Nat) (a : LI) (b c : Int) (kn : LI → I3 (Option ρ)) : Option ρ :=
 kn a 0 b c
def Z18 {ρ : Type} (N : Nat) (c : LI) (a b d : Int) (kn : LI → I3 (Option ρ)) (k0 : Option ρ) : Option ρ :=
 cond (lk N (decide (a < b)))
 (
  kn c a b d)
 (
  k0)
def Z22 {ρ : Type} (N : Nat) (a : LI) (b c d : Int) (kn : LI → Int → Bool → I2 (Option ρ)) : Option ρ :=
 kn a b true c d
def Z25 {ρ : Type} (N : Nat) (a : LI) (b : Int) (c : Bool) (d e : Int) (kn : LI → Int → Bool → I3 (Option ρ)) : Option ρ :=
 kn a b c 0 d e
def Z28 {ρ : Type} (N : Nat) (b : LI) (c : Int) (f : Bool) (d a e : Int) (kn : LI → Int → Bool → I3 (Option ρ)) (k2 : LI → Int → Bool → I2 (Option ρ)) : Option ρ :=
 cond (lk N (decide (d < a)))
 (
  cond (f)
  (
   cond (lk N (z2w.P (a, (e, b)) c d)) (
    kn b c (lk N (decide ((z2w.g (a, (e, b)) c d) ≤ 0))) (w64 (d + 1)) a e) none)
  (
   kn b c false (w64 (d + 1)) a e))
 (
  k2 b c f a e)
def Z27L {ρ : Type} (N : Nat) (k2 : LI → Int → Bool → I2 (Option ρ)) : Nat → LI → Int → Bool → Int → Int → Int → Option ρ
 | 0, _, _, _, _, _, _ => none
 | M + 1, a, b, c, d, e, f => Z28 N a b c d e f (fun a b c d e f => Z27L N k2 M a b c d e f) k2
def Z27 N a b c d e f k2 := (Z27L N k2 N a b c d e f : Option ρ)
def Z26 N a b c d e f kn := (Z27 N a b c d e f kn : Option ρ)
def Z24 N a b c d e kn := (Z25 N a b c d e (fun a b c f d e => Z26 N a b c f d e kn) : Option ρ)
def Z29 {ρ : Type} (N : Nat) (a : LI) (b : Int) (e : Bool) (c d : Int) (kn : LI → I3 (Option ρ)) (kr : Bool → Option ρ) : Option ρ :=
 cond (e)
 (
  cond (lk N ((z1e.g (c, (d, a)) b).2))
  (
   kr (lk N ((z04.g (z1e.g (c, (d, a)) b).1))))
  (
   kr false))
 (
  kn a b c d)
def Z23 N a b c d e kn kr := (Z24 N a b c d e (fun a b c d e => Z29 N a b c d e kn kr) : Option ρ)
def Z21 N a b c d kn kr := (Z22 N a b c d (fun a b e c d => Z23 N a b e c d kn kr) : Option ρ)
def Z20 N a b c d kn kr := (Z21 N a b c d kn kr : Option ρ)
def Z30 {ρ : Type} (N : Nat) (a : LI) (b c d : Int) (kn : LI → I3 (Option ρ)) : Option ρ :=
 kn a (w64 (b + 1)) c d
def Z19 N a b c d kn kr := (Z20 N a b c d (fun a b c d => Z30 N a b c d kn) kr : Option ρ)
def Z17 N a b c d kn k0 kr := (Z18 N a b c d (fun a b c d => Z19 N a b c d kn kr) k0 : Option ρ)
def Z16L {ρ : Type} (N : Nat) (k0 : Option ρ) (kr : Bool → Option ρ) : Nat → LI → Int → Int → Int → Option ρ
 | 0, _, _, _, _ => none
 | M + 1, a, b, c, d => Z17 N a b c d (fun a b c d => Z16L N k0 kr M a b c d) k0 kr
def Z16 N a b c d k0 kr := (Z16L N k0 kr N a b c d : Option ρ)
def Z15 N a b c d kn kr := (Z16 N a b c d kn kr : Option ρ)
def Z13 N a b c kn kr := (Z14 N a b c (fun a d b c => Z15 N a d b c kn kr) : Option ρ)
def Z31 {ρ : Type} (N : Nat)  (kr : Bool → Option ρ) : Option ρ :=
 kr false
def Z12 N a b c kr := (Z13 N a b c (Z31 N kr) kr : Option ρ)
def Z10 N a d b c kr := (Z11 N a d b c (fun a b c => Z12 N a b c kr) kr : Option ρ)
def Z8 N a b c d kr := (Z9 N a b c d (fun a b c d => Z10 N a b c d kr) kr : Option ρ)
def Z6 N a b c kr := (Z7 N a b c (fun a d b c => Z8 N a d b c kr) : Option ρ)
def Z4 N a kr := (Z5 N a (fun b c d => Z6 N b c d kr) : Option ρ)
def Z2 N a kr := (Z3 N a (fun a => Z4 N a kr) kr : Option ρ)
def Z0 N a kr := (Z1 N a (fun a => Z2 N a kr) : Option ρ)
def Spec : Prop := ∀  (v0 : List Int), Ty.bd (.sl 0 (.int .u8)) v0 → ∃ N0, ∀ N, N0 ≤ N → Z0 N v0 (fun v2 => some ((), (v2, ()))) = some ((), ((g v0), ()))
section
variable {ρ : Type} {N : Nat} {m : Int × Int × List Int} {d : Nat → Int}
theorem inner (hd : z3s m = true) {k : Nat} (hk : k < m.1.toNat) (k2 : List Int → Int → Bool → Int → Int → Option ρ) : ∀ (M j : Nat) (sink : Bool), j ≤ m.1.toNat → m.1.toNat - j < M →
  Z27L N k2 M m.2.2 (k : Int) sink (j : Int) m.1 m.2.1 = k2 m.2.2 (k : Int) (sink && ((List.range m.1.toNat).drop j).all fun j => decide (ent m k j ≤ 0)) m.1 m.2.1 := by
 obtain ⟨n, r, hn, hr, _, hn5, hnr, _, _⟩ := z17 hd
 intro M
 induction M with
 | zero => intro j _ _ h; omega
 | succ M ih =>
  intro j sink hj hM
  simp only [Z27L, Z1, Z3, Z5, Z7, Z9, Z11, Z14, Z18, Z22, Z25, Z28, Z27, Z26, Z24, Z29, Z23, Z21, Z20, Z30, Z19, Z17, Z16, Z15, Z13, Z31, Z12, Z10, Z8, Z6, Z4, Z2, Z0]
  by_cases h : j < m.1.toNat
  ·have e1 : z2w.P (m.1, (m.2.1, m.2.2)) (k : Int) (j : Int) = true := by
    simp only [z2w.P, Bool.and_eq_true, z2l]
    exact ⟨hd, by omega, by omega⟩
   have e2 : z2w.g (m.1, (m.2.1, m.2.2)) (k : Int) (j : Int) = ent m k j := z2w.at_nat (by omega) k j
   rw [ct (dt (by omega)), ct e1, e2, z1a (by rw [z0s]; omega), ih (j + 1) _ h (by omega), ih (j + 1) _ h (by omega), z2v h, List.all_cons]
   simp only [z1t]
   cases sink
   ·rfl
   ·simp
  ·rw [cf (df (by omega)), List.drop_of_length_le (by simp; omega)]
   simp
theorem outer (h : z2j m d) (hsq : m.2.1 = m.1) (ha : Acy m.1.toNat (z6h m)) (k0 : Option ρ) (kr : Bool → Option ρ) (hN : m.1.toNat < N) {s : Nat} (hs : s < m.1.toNat) (hs2 : ∀ j, j < m.1.toNat → ent m s j ≤ 0) : ∀ (M k : Nat), k ≤ s → m.1.toNat - k < M →
  Z16L N k0 kr M m.2.2 (k : Int) m.1 m.2.1 = kr true := by
 obtain ⟨n, r, hn, hr, _, hn5, hnr, _, _⟩ := z17 h.dim
 intro M
 induction M with
 | zero => intro k _ h; omega
 | succ M ih =>
  intro k hk hM
  simp only [Z16L, Z1, Z3, Z5, Z7, Z9, Z11, Z14, Z18, Z22, Z25, Z28, Z27, Z26, Z24, Z29, Z23, Z21, Z20, Z30, Z19, Z17, Z16, Z15, Z13, Z31, Z12, Z10, Z8, Z6, Z4, Z2, Z0]
  have hkn : k < m.1.toNat := by omega
  have hin := fun (k2 : List Int → Int → Bool → Int → Int → Option ρ) => inner (N := N) h.dim hkn k2 N 0 true (by omega) (by omega)
  simp only [show ((0 : Nat) : Int) = 0 from rfl, List.drop_zero, Bool.true_and] at hin
  rw [ct (dt (by omega)), hin]
  cases hb : (List.range m.1.toNat).all fun j => decide (ent m k j ≤ 0)
  ·have hne : k ≠ s := fun e => by
    subst e
    have : ((List.range m.1.toNat).all fun j => decide (ent m k j ≤ 0)) = true := List.all_eq_true.2 fun j hj => dt (hs2 j (List.mem_range.1 hj))
    rw [hb] at this
    cases this
   rw [cond_false, z1a (by rw [z0s]; omega)]
   exact ih (k + 1) (by omega) (by omega)
  ·have hk2 : ∀ j, j < m.1.toNat → ent m k j ≤ 0 := fun j hj => of_decide_eq_true (List.all_eq_true.1 hb j (List.mem_range.2 hj))
   have hz := mut_sink h hsq hkn hk2
   have e1 : z1e.g (m.1, (m.2.1, m.2.2)) (k : Int) = (z7o m k, true) := znq h hkn hz
   have e2 : z04.g (z7o m k) = true := (zj4 (h.mut hkn hz)).2 (acy_mut h hkn hk2 ha)
   rw [cond_true, e1, ct rfl]
   show kr (lk N (z04.g (z7o m k))) = kr true
   rw [e2, z1t]
end
theorem ok : Spec := fun b hb => ⟨6, fun N hN => by
 simp only [Z1, Z3, Z5, Z7, Z9, Z11, Z14, Z18, Z22, Z25, Z28, Z27, Z26, Z24, Z29, Z23, Z21, Z20, Z30, Z19, Z17, Z16, Z15, Z13, Z31, Z12, Z10, Z8, Z6, Z4, Z2, Z0]
 cases hbig : z5y.g b
 ·rw [cf rfl]
  have h0 := z25.cur0 hb.1
  obtain ⟨h1, d1, n4, hsq⟩ := z13.facts h0
  obtain ⟨d, hR⟩ := matrixD h0
  have em : (z25.g b).1 = (z13.g b (z0x.g b)).2 := rfl
  rw [em]
  generalize (z13.g b (z0x.g b)).2 = m at d1 n4 hsq hR
  obtain ⟨n, r, hn, hr, hn1, hn5, hnr, _, _⟩ := z17 d1
  have es : z07.g (m.1, (m.2.1, m.2.2)) = z04.g m := (acy_same m).symm
  have ei : z04.g (m.1, (m.2.1, m.2.2)) = z04.g m := rfl
  simp only [z1t, es, ei, beq_self_eq_true, Bool.not_true, cond_false]
  cases ha : z04.g m
  ·have : ¬ m.1.toNat ≤ 2 := fun h2 => by
    have := (zj4 hR).2 (y22 hR h2)
    rw [ha] at this
    cases this
   rw [Bool.not_false, cond_true, dt (by omega)]
   rfl
  ·have hA := (zj4 hR).1 ha
   obtain ⟨s, s1, s2⟩ := acy_sink hA (by omega)
   rw [Bool.not_true, cond_false]
   exact (outer (N := N) hR hsq hA _ _ (by omega) s1 s2 N 0 (Nat.zero_le _) (by omega)).trans rfl
 ·rw [ct rfl]; rfl⟩
end z0e
end
end Go.Fw
