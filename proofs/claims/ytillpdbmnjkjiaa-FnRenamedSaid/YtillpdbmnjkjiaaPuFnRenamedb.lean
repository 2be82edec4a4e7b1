/- The plain part: what the functions compute, in lists and numbers. Nothing is assumed. -/
import Derived.Test.YtillpdbmnjkjiaaFwc
import Derived.Test.YtillpdbmnjkjiaaPuFnRenameda
noncomputable section
set_option linter.unusedVariables false
set_option linter.unusedSimpArgs false
set_option maxRecDepth 100000
namespace Go.Fw
section
variable {ρ:Type}
namespace z2n
def P (a:List Int):Bool:=decide (a.length < 1099511627776)
abbrev g (a:List Int):List Int:=a
end z2n
namespace z2n
def Z0 {ρ:Type} (N:Nat) (a:LI) (kr:LI→Option ρ):Option ρ :=
 cond (lk N (Nat.blt (([]:List Int).length + a.length) 1099511627776)) (
  kr (([]:List Int) ++ a)) none
def Spec:Prop:=∀  (v0:LI),Ty.bd (.sl 0 (.int .i64)) v0→P v0 = true→∃ N0,∀ N,N0≤N→Z0 N v0 (fun v2=>some ((),(v2,()))) = some ((),((g v0),()))
theorem ok:Spec:=fun a hb hp=>⟨0,fun N hN=>by
 have hl:a.length < 1099511627776:=by simpa [P] using hp
 have hc:Nat.blt (([]:List Int).length + a.length) 1099511627776 = true:=by simpa using hl
 simp only [Z0,z1x,g,hc,cond_true,List.nil_append]⟩
end z2n
end
end Go.Fw
namespace Go.Fw
section
variable {ρ:Type}
namespace z0y
def P (m:Int × Int × List Int):Bool:=z2n.P m.2.2
abbrev g (m:Int × Int × List Int):Int × Int × List Int:=m
end z0y
namespace z0y
def Z0 {ρ:Type} (N:Nat) (a:MT) (kr:LI→I2 (Option ρ)):Option ρ :=
 cond (lk N (z2n.P a.2.2)) (
  kr (z2n.g a.2.2) a.1 a.2.1) none
def Spec:Prop:=∀  (v0:MT),Ty.bd (.pair (.int .i64) (.pair (.int .i64) (.sl 0 (.int .i64)))) v0→P v0 = true→∃ N0,∀ N,N0≤N→Z0 N v0 (fun v2_2 v2_0 v2_1=>some ((),((v2_0,(v2_1,v2_2)),()))) = some ((),((g v0),()))
theorem ok:Spec:=fun m hb hp=>⟨0,fun N hN=>by
 simp only [Z0]
 exact ct (show z2n.P m.2.2 = true from hp)⟩
end z0y
end
end Go.Fw
namespace Go.Fw
section
variable {ρ:Type}
namespace z0c
def P (m:Int × Int × List Int) (k:Int):Bool:=z1l m && (decide (0≤k) && decide (k < m.1))
def g (m:Int × Int × List Int) (k:Int):Int × Int × List Int:=z6q m k.toNat
end z0c
namespace z0c
def Z1 {ρ:Type} (N:Nat) (a:MT) (b:Int) (kn:I3 (LI→I2 (Option ρ))):Option ρ :=
 kn b a.1 a.2.1 a.2.2 0 0
def Z3 {ρ:Type} (N:Nat) (d a b:Int) (c:LI) (e f:Int) (kn:LI→I3 (LI→I4 (Option ρ))):Option ρ :=
 cond (lk N (z0y.P (a,(b,c)))) (
  kn (z0y.g (a,(b,c))).2.2 d a b c e f (z0y.g (a,(b,c))).1 (z0y.g (a,(b,c))).2.1) none
def Z6 {ρ:Type} (N:Nat) (a:LI) (b c d:Int) (e:LI) (f g h i:Int) (kn:LI→I4 (LI→I4 (Option ρ))):Option ρ :=
 kn a b 0 c d e f g h i
def Z10 {ρ:Type} (N:Nat) (a:LI) (h b i c:Int) (j:LI) (d e f g:Int) (kn:LI→I4 (LI→I4 (Option ρ))) (k0:LI→I4 (Option ρ)):Option ρ :=
 cond (lk N (decide (b < c)))
 (
  kn a h b i c j d e f g)
 (
  k0 a d e f g)
def Z14 {ρ:Type} (N:Nat) (a:LI) (b c d e:Int) (f:LI) (g h i j:Int) (kn:LI→I5 (LI→I4 (Option ρ))):Option ρ :=
 kn a b c 0 d e f g h i j
def Z18 {ρ:Type} (N:Nat) (b:LI) (c d e a f:Int) (g:LI) (h i j l:Int) (kn:LI→I5 (LI→I4 (Option ρ))) (k2:LI→I4 (LI→I4 (Option ρ))):Option ρ :=
 cond (lk N (decide (e < a)))
 (
  kn b c d e a f g h i j l)
 (
  k2 b c d a f g h i j l)
def Z22 {ρ:Type} (N:Nat) (f:LI) (a b h c d:Int) (e:LI) (i j l m:Int) (kn:LI→I6 (LI→I4 (Option ρ))):Option ρ :=
 cond (lk N (z11.P (c,(d,e)) b a)) (
  kn f a b h (z11.g (c,(d,e)) b a) c d e i j l m) none
def Z24 {ρ:Type} (N:Nat) (f:LI) (a h b i c d:Int) (e:LI) (j l m o:Int) (kn:LI→I7 (LI→I4 (Option ρ))):Option ρ :=
 cond (lk N (z11.P (c,(d,e)) a b)) (
  kn f a h b i (z11.g (c,(d,e)) a b) c d e j l m o) none
def Z27 {ρ:Type} (N:Nat) (d:LI) (a b c e f g h:Int) (i:LI) (j l m o:Int) (kn:LI→I5 (Bool→I2 (LI→I4 (Option ρ)))):Option ρ :=
 cond (lk N (decide (b = a)))
 (
  kn d a b c e f true g h i j l m o)
 (
  kn d a b c e f (lk N (decide (c = a))) g h i j l m o)
def Z28 {ρ:Type} (N:Nat) (f:LI) (h a b o p:Int) (q:Bool) (c d:Int) (e:LI) (i j l m:Int) (kn:LI→I5 (LI→I4 (Option ρ))):Option ρ :=
 cond (q)
 (
  cond (lk N (z11.P (c,(d,e)) a b)) (
   cond (lk N (inB (w64 ((w64 (a * c)) + b)) f.length)) (
    kn (f.set (w64 ((w64 (a * c)) + b)).toNat (w64 (0 - (z11.g (c,(d,e)) a b)))) h a b c d e i j l m) none) none)
 (
  cond (lk N (decide (0 < o)))
  (
   cond (lk N (decide (0 < p)))
   (
    cond (lk N (z11.P (c,(d,e)) a b)) (
     cond (lk N (inB (w64 ((w64 (a * c)) + b)) f.length)) (
      kn (f.set (w64 ((w64 (a * c)) + b)).toNat (w64 ((z11.g (c,(d,e)) a b) + (w64 (o * p))))) h a b c d e i j l m) none) none)
   (
    cond (lk N (decide (o < 0)))
    (
     cond (lk N (decide (p < 0)))
     (
      cond (lk N (z11.P (c,(d,e)) a b)) (
       cond (lk N (inB (w64 ((w64 (a * c)) + b)) f.length)) (
        kn (f.set (w64 ((w64 (a * c)) + b)).toNat (w64 ((z11.g (c,(d,e)) a b) - (w64 (o * p))))) h a b c d e i j l m) none) none)
     (
      kn f h a b c d e i j l m))
    (
     kn f h a b c d e i j l m)))
  (
   cond (lk N (decide (o < 0)))
   (
    cond (lk N (decide (p < 0)))
    (
     cond (lk N (z11.P (c,(d,e)) a b)) (
      cond (lk N (inB (w64 ((w64 (a * c)) + b)) f.length)) (
       kn (f.set (w64 ((w64 (a * c)) + b)).toNat (w64 ((z11.g (c,(d,e)) a b) - (w64 (o * p))))) h a b c d e i j l m) none) none)
    (
     kn f h a b c d e i j l m))
   (
    kn f h a b c d e i j l m)))
def Z26 N a b c d e f g h i j l m o kn:=(Z27 N a b c d e f g h i j l m o (fun a b c d e f p g h i j l m o=>Z28 N a b c d e f p g h i j l m o kn):Option ρ)
def Z25 N a b c d e f g h i j l m o kn:=(Z26 N a b c d e f g h i j l m o kn:Option ρ)
def Z23 N a b c d e f g h i j l m kn:=(Z24 N a b c d e f g h i j l m (fun a b c d e o f g h i j l m=>Z25 N a b c d e o f g h i j l m kn):Option ρ)
def Z21 N a b c d e f g h i j l kn:=(Z22 N a b c d e f g h i j l (fun a b c d m e f g h i j l=>Z23 N a b c d m e f g h i j l kn):Option ρ)
def Z20 N a b c d e f g h i j l kn:=(Z21 N a b c d e f g h i j l kn:Option ρ)
def Z29 {ρ:Type} (N:Nat) (a:LI) (b c d e f:Int) (g:LI) (h i j l:Int) (kn:LI→I5 (LI→I4 (Option ρ))):Option ρ :=
 kn a b c (w64 (d + 1)) e f g h i j l
def Z19 N a b c d e f g h i j l kn:=(Z20 N a b c d e f g h i j l (fun a b c d e f g h i j l=>Z29 N a b c d e f g h i j l kn):Option ρ)
def Z17 N a b c d e f g h i j l kn k2:=(Z18 N a b c d e f g h i j l (fun a b c d e f g h i j l=>Z19 N a b c d e f g h i j l kn) k2:Option ρ)
def Z16L {ρ:Type} (N:Nat) (k2:LI→I4 (LI→I4 (Option ρ))):Nat→LI→Int→Int→Int→Int→Int→LI→Int→Int→Int→Int→Option ρ
 | 0,_,_,_,_,_,_,_,_,_,_,_=>none
 | M + 1,a,b,c,d,e,f,g,h,i,j,l=>Z17 N a b c d e f g h i j l (fun a b c d e f g h i j l=>Z16L N k2 M a b c d e f g h i j l) k2
def Z16 N a b c d e f g h i j l k2:=(Z16L N k2 N a b c d e f g h i j l:Option ρ)
def Z15 N a b c d e f g h i j l kn:=(Z16 N a b c d e f g h i j l kn:Option ρ)
def Z13 N a b c d e f g h i j kn:=(Z14 N a b c d e f g h i j (fun a b c l d e f g h i j=>Z15 N a b c l d e f g h i j kn):Option ρ)
def Z12 N a b c d e f g h i j kn:=(Z13 N a b c d e f g h i j kn:Option ρ)
def Z30 {ρ:Type} (N:Nat) (a:LI) (b c d e:Int) (f:LI) (g h i j:Int) (kn:LI→I4 (LI→I4 (Option ρ))):Option ρ :=
 kn a b (w64 (c + 1)) d e f g h i j
def Z11 N a b c d e f g h i j kn:=(Z12 N a b c d e f g h i j (fun a b c d e f g h i j=>Z30 N a b c d e f g h i j kn):Option ρ)
def Z9 N a b c d e f g h i j kn k0:=(Z10 N a b c d e f g h i j (fun a b c d e f g h i j=>Z11 N a b c d e f g h i j kn) k0:Option ρ)
def Z8L {ρ:Type} (N:Nat) (k0:LI→I4 (Option ρ)):Nat→LI→Int→Int→Int→Int→LI→Int→Int→Int→Int→Option ρ
 | 0,_,_,_,_,_,_,_,_,_,_=>none
 | M + 1,a,b,c,d,e,f,g,h,i,j=>Z9 N a b c d e f g h i j (fun a b c d e f g h i j=>Z8L N k0 M a b c d e f g h i j) k0
def Z8 N a b c d e f g h i j k0:=(Z8L N k0 N a b c d e f g h i j:Option ρ)
def Z7 N a b c d e f g h i j kn:=(Z8 N a b c d e f g h i j kn:Option ρ)
def Z5 N a b c d e f g h i kn:=(Z6 N a b c d e f g h i (fun a b j c d e f g h i=>Z7 N a b j c d e f g h i kn):Option ρ)
def Z31 {ρ:Type} (N:Nat) (a:LI) (d e b c:Int) (kr:LI→I2 (Option ρ)):Option ρ :=
 kr a b c
def Z4 N a f g h i b c d e kr:=(Z5 N a f g h i b c d e (fun a b c d e=>Z31 N a b c d e kr):Option ρ)
def Z2 N a b c d e f kr:=(Z3 N a b c d e f (fun g a b c d e f h i=>Z4 N g a b c d e f h i kr):Option ρ)
def Z0 N b a kr:=(Z1 N b a (fun a c d e f g=>Z2 N a c d e f g kr):Option ρ)
def Spec:Prop:=∀  (v0:MT) (v1:Int),Ty.bd (.pair (.int .i64) (.pair (.int .i64) (.sl 0 (.int .i64)))) v0→P v0 v1 = true→∃ N0,∀ N,N0≤N→Z0 N v0 v1 (fun v4_2 v4_0 v4_1=>some ((),((v4_0,(v4_1,v4_2)),()))) = some ((),((g v0 v1),()))
section
variable {ρ:Type} {N:Nat} {m:Int × Int × List Int} {k:Nat}
theorem at_g (hd:0≤m.1) (a b:Nat):z11.g (m.1,(m.2.1,m.2.2)) (a:Int) (b:Int) = ent m a b:=z9i hd a b
theorem at_p (hd:z40 m = true) {a b:Nat} (ha:a < m.2.1.toNat) (hb:b < m.1.toNat):z11.P (m.1,(m.2.1,m.2.2)) (a:Int) (b:Int) = true:=zmg hd ha hb
def cur (m:Int × Int × List Int) (k p:Nat):List Int:=zq9 m.2.2.length p (zxx m k) (fun p=>m.2.2.getD p 0)
theorem inner (hs:z1l m = true) (hk:k < m.1.toNat) (k2:List Int→Int→Int→Int→Int→List Int→Int→Int→Int→Int→Option ρ) (t0 t1 o0 o1:Int) {i:Nat} (hi:i < m.2.1.toNat):∀ (M j:Nat),j≤m.1.toNat→m.1.toNat - j < M →
  Z16L N k2 M (cur m k (i * m.1.toNat + j)) (k:Int) (i:Int) (j:Int) m.1 m.2.1 m.2.2 t0 t1 o0 o1 = k2 (cur m k (i * m.1.toNat + m.1.toNat)) (k:Int) (i:Int) m.1 m.2.1 m.2.2 t0 t1 o0 o1:=by
 have hd:=z28 hs
 obtain ⟨n,r,hn,hr,hn1,hn5,hnr,hr8,hl⟩:=z17 hd
 intro M
 induction M with
 | zero=>intro j _ h; omega
 | succ M ih =>
  intro j hj hM
  simp only [Z16L,Z17,Z18]
  by_cases h:j < m.1.toNat
  ·have hlt:i * m.1.toNat + j < m.2.2.length:=by
    have:=z87 (n:=n) (r:=r) (i:=i) (j:=j) (by omega) (by omega)
    rw [hl,hn]; exact this
   have hidx:w64 (w64 ((i:Int) * m.1) + (j:Int)) = ((i * m.1.toNat + j:Nat):Int):=by
    have e:(i:Int) * m.1 = ((i * m.1.toNat:Nat):Int):=by rw [hn,Int.natCast_mul]; simp
    have hb:i * m.1.toNat≤8 * 5:=Nat.mul_le_mul (by omega) (by omega)
    have e2:w64 (((i * m.1.toNat:Nat):Int)) = ((i * m.1.toNat:Nat):Int):=z1g (by omega) (by omega)
    rw [e,e2,z1g (by omega) (by omega)]
    omega
   have b1:=z45 hs i j
   have b2:=z45 hs i k
   have b3:=z45 hs k j
   have hbc:=zk3 (f:=false) b1 b2 b3
   have hF:=zqt (m:=m) (k:=k) (i:=i) h
   have hcl:(cur m k (i * m.1.toNat + j)).length = m.2.2.length:=zd0
   have hset:∀ v,v = zxx m k (i * m.1.toNat + j)→(cur m k (i * m.1.toNat + j)).set (i * m.1.toNat + j) v = cur m k (i * m.1.toNat + (j + 1)):=fun v hv=>by
    subst hv
    exact zss hlt
   have hsame:zxx m k (i * m.1.toNat + j) = ent m i j→cur m k (i * m.1.toNat + j) = cur m k (i * m.1.toNat + (j + 1)):=fun hv=>(zmy hv).symm
   have iB:inB (((i * m.1.toNat + j:Nat):Int)) (cur m k (i * m.1.toNat + j)).length = true:=z1b (by rw [hcl]; exact hlt)
   have pij:=at_p hd hi h
   rw [ct (dt (by omega))]
   simp only [Z19,Z20,Z21,Z22,Z23,Z24,Z25]
   rw [ct (at_p hd hi hk),ct (at_p hd (show k < m.2.1.toNat by omega) h),at_g (by omega),at_g (by omega)]
   have fin:∀ c,c = cur m k (i * m.1.toNat + (j + 1))→Z29 N c (k:Int) (i:Int) (j:Int) m.1 m.2.1 m.2.2 t0 t1 o0 o1 (fun out5_2 k1 i6 j7 m2_0 m2_1 m2_2 t4_0 t4_1 out5_0 out5_1=>Z16L N k2 M out5_2 k1 i6 j7 m2_0 m2_1 m2_2 t4_0 t4_1 out5_0 out5_1) = k2 (cur m k (i * m.1.toNat + m.1.toNat)) (k:Int) (i:Int) m.1 m.2.1 m.2.2 t0 t1 o0 o1:=by
    intro c hc
    subst hc
    simp only [Z29]
    rw [z1c (by rw [z0z]; omega)]
    exact ih (j + 1) h (by omega)
   simp only [Z26,Z27,Z28,hidx,Int.toNat_natCast,at_g (show 0≤m.1 by omega)]
   by_cases hik:i = k
   ·rw [ct (dt (by omega)),ct' rfl,ct pij,ct iB,z1g (by omega) (by omega)]
    refine fin _ (hset _ ?_)
    rw [hF,dt hik,Int.zero_sub]; rfl
   ·rw [cf (df (by omega))]
    by_cases hjk:j = k
    ·rw [ct' (by rw [z1x]; exact dt (by omega)),ct pij,ct iB,z1g (by omega) (by omega)]
     refine fin _ (hset _ ?_)
     rw [hF,df hik,dt hjk,Int.zero_sub]; rfl
    ·rw [cf' (by rw [z1x]; exact df (by omega))]
     rw [df hik,df hjk] at hF
     simp only [zww,Bool.or_self,Bool.false_eq_true,if_false] at hF
     have wbc:w64 (ent m i k * ent m k j) = ent m i k * ent m k j:=z1g (by omega) (by omega)
     rw [wbc]
     by_cases a1:0 < ent m i k
     ·rw [ct (dt a1)]
      by_cases a2:0 < ent m k j
      ·rw [ct (dt a2),ct pij,ct iB,z1g (by omega) (by omega)]
       refine fin _ (hset _ ?_)
       rw [hF,if_pos ⟨a1,a2⟩]
      ·rw [cf (df a2),cf (df (by omega))]
       refine fin _ (hsame ?_)
       rw [hF,if_neg (by omega),if_neg (by omega)]
     ·rw [cf (df a1)]
      by_cases a2:ent m i k < 0
      ·rw [ct (dt a2)]
       by_cases a3:ent m k j < 0
       ·rw [ct (dt a3),ct pij,ct iB,z1g (by omega) (by omega)]
        refine fin _ (hset _ ?_)
        rw [hF,if_neg (by omega),if_pos ⟨a2,a3⟩]
       ·rw [cf (df a3)]
        refine fin _ (hsame ?_)
        rw [hF,if_neg (by omega),if_neg (by omega)]
      ·rw [cf (df a2)]
       refine fin _ (hsame ?_)
       rw [hF,if_neg (by omega),if_neg (by omega)]
  ·rw [cf (df (by omega)),show j = m.1.toNat by omega]
theorem outer (hN:10≤N) (hs:z1l m = true) (hk:k < m.1.toNat) (k0:List Int→Int→Int→Int→Int→Option ρ) (t0 t1 o0 o1:Int):∀ (M i:Nat),i≤m.2.1.toNat→m.2.1.toNat - i < M →
  Z8L N k0 M (cur m k (i * m.1.toNat)) (k:Int) (i:Int) m.1 m.2.1 m.2.2 t0 t1 o0 o1 = k0 (cur m k (m.2.1.toNat * m.1.toNat)) t0 t1 o0 o1:=by
 have hd:=z28 hs
 obtain ⟨n,r,hn,hr,hn1,hn5,hnr,hr8,hl⟩:=z17 hd
 intro M
 induction M with
 | zero=>intro i _ h; omega
 | succ M ih =>
  intro i hi hM
  simp only [Z8L,Z9,Z10]
  by_cases h:i < m.2.1.toNat
  ·rw [ct (dt (by omega))]
   simp only [Z11,Z12,Z13,Z14,Z15,Z16]
   have hin:=inner (ρ:=ρ) (N:=N) hs hk (fun out5_2 k1 i6 m2_0 m2_1 m2_2 t4_0 t4_1 out5_0 out5_1=>Z30 N out5_2 k1 i6 m2_0 m2_1 m2_2 t4_0 t4_1 out5_0 out5_1 (fun out5_2 k1 i6 m2_0 m2_1 m2_2 t4_0 t4_1 out5_0 out5_1=>Z8L N k0 M out5_2 k1 i6 m2_0 m2_1 m2_2 t4_0 t4_1 out5_0 out5_1)) t0 t1 o0 o1 h N 0 (by omega) (by omega)
   rw [show ((0:Nat):Int) = 0 from rfl,Nat.add_zero] at hin
   rw [hin]
   simp only [Z30]
   rw [z1c (by rw [z0z]; omega)]
   have:=ih (i + 1) h (by omega)
   rw [Nat.add_mul,Nat.one_mul] at this
   exact this
  ·rw [cf (df (by omega)),show i = m.2.1.toNat by omega]
end
theorem ok:Spec:=fun m k hb hp=>⟨10,fun N hN=>by
 simp only [P,Bool.and_eq_true,decide_eq_true_eq] at hp
 obtain ⟨hs,h0,h1⟩:=hp
 obtain ⟨x,rfl⟩:=Int.eq_ofNat_of_zero_le h0
 have hd:=z28 hs
 obtain ⟨n,r,hn,hr,hn1,hn5,hnr,hr8,hl⟩:=z17 hd
 have hlen:m.2.2.length≤8 * 5:=by rw [hl]; exact Nat.mul_le_mul hr8 hn5
 simp only [Z0,Z1,Z2,Z3]
 rw [ct (show z0y.P (m.1,(m.2.1,m.2.2)) = true from dt (show m.2.2.length < 1099511627776 by omega))]
 simp only [Z4,Z5,Z6,Z7,Z8]
 have hstart:cur m x 0 = m.2.2:=by
  unfold cur
  rw [zmx]
  exact zdh 0 rfl
 have hend:cur m x (m.2.1.toNat * m.1.toNat) = (z6q m x).2.2:=by
  have e:m.2.1.toNat * m.1.toNat = m.2.2.length:=by rw [hl,hn,hr]; simp
  rw [e]
  exact zmz
 have:=outer (ρ:=Unit × (Int × Int × List Int) × Unit) hN hs (show x < m.1.toNat by omega) (fun out5_2 t4_0 t4_1 out5_0 out5_1=>Z31 N out5_2 t4_0 t4_1 out5_0 out5_1 (fun t4_2 t4_0 t4_1=>some ((),((t4_0,(t4_1,t4_2)),())))) 0 0 m.1 m.2.1 N 0 (by omega) (by omega)
 rw [Nat.zero_mul,hstart,hend] at this
 exact this⟩
end z0c
end
end Go.Fw
namespace Go.Fw
section
variable {ρ:Type}
namespace z19
def g (m:Int × Int × List Int) (k:Int):(Int × Int × List Int) × Bool :=
 if ((z2c m && !decide (z6h m = [])) && (inK k 0 (m.1 - 1) && z2c (z6q m k.toNat))) = true then (z6q m k.toNat,true) else ((0,0,[]),false)
end z19
namespace z19
def Z0 {ρ:Type} (N:Nat) (a:MT) (b:Int) (kr:LI→Bool→I2 (Option ρ)):Option ρ :=
 cond (!(lk N ((z31.g a))))
 (
  kr ([]:List Int) false 0 0)
 (
  cond (!(lk N ((z3t.g b 0 (w64 (a.1 - 1))))))
  (
   kr ([]:List Int) false 0 0)
  (
   cond (lk N (z0c.P a b)) (
    cond (!(lk N ((z0l.g (z0c.g a b)))))
    (
     kr ([]:List Int) false 0 0)
    (
     kr (z0c.g a b).2.2 true (z0c.g a b).1 (z0c.g a b).2.1)) none))
def Spec:Prop:=∀  (v0:MT) (v1:Int),Ty.bd (.pair (.int .i64) (.pair (.int .i64) (.sl 0 (.int .i64)))) v0→∃ N0,∀ N,N0≤N→Z0 N v0 v1 (fun v4_2 v5 v4_0 v4_1=>some ((),((v4_0,(v4_1,v4_2)),(v5,())))) = some ((),((g v0 v1).1,((g v0 v1).2,())))
theorem ok:Spec:=fun m k hb=>⟨0,fun N hN=>by
 simp only [Z0,z1x,g,z31.g,z3t.g,z0l.g]
 cases h1:(z2c m && !decide (z6h m = []))
 ·rfl
 have hs:z2c m = true:=by
  simp only [Bool.and_eq_true] at h1
  exact h1.1
 have hd:=z28 (z1w hs)
 obtain ⟨n,r,hn,hr,hn1,hn5,hnr,hr8,hl⟩:=z17 hd
 rw [z1g (by omega) (by omega)]
 cases h2:inK k 0 (m.1 - 1)
 ·rfl
 have h3:=z3d.1 h2
 have hP:z0c.P m k = true:=by
  simp only [z0c.P,Bool.and_eq_true,decide_eq_true_eq]
  exact ⟨z1w hs,by omega,by omega⟩
 rw [hP]
 have hg:z0c.g m k = z6q m k.toNat:=rfl
 rw [hg]
 cases z2c (z6q m k.toNat) <;> rfl⟩
end z19
end
end Go.Fw
namespace Go.Fw
section
variable {ρ:Type}
namespace z0v
def P (b:List Int) (r:Int × Int) (n:Int):Bool:=z2l b r && inK n 0 5
def stepN (b:List Int) (s:(Int × Int) × List Int) (k:Nat):(Int × Int) × List Int :=
 ((z01.g b s.1 ((s.2.length:Int) + 1)).1,s.2.take (z01.g b s.1 ((s.2.length:Int) + 1)).2.toNat ++ [(k:Int)] ++ s.2.drop (z01.g b s.1 ((s.2.length:Int) + 1)).2.toNat)
def g (b:List Int) (r:Int × Int) (n:Int):(Int × Int) × List Int:=(List.range n.toNat).foldl (stepN b) (r,[])
end z0v
namespace z0v
def Z1 {ρ:Type} (N:Nat) (b0:List Int) (r0:Int × Int) (a:Int) (kn:Int→List Int→I2 (Option ρ)):Option ρ :=
 kn a b0 r0.1 r0.2
def Z3 {ρ:Type} (N:Nat) (a:Int) (b:List Int) (c d:Int) (kn:LI→Int→List Int→I2 (Option ρ)):Option ρ :=
 kn ([]:List Int) a b c d
def Z6 {ρ:Type} (N:Nat) (a:LI) (b:Int) (c:List Int) (d e:Int) (kn:LI→I2 (List Int→I2 (Option ρ))):Option ρ :=
 kn a b 0 c d e
def Z9 {ρ:Type} (N:Nat) (a:LI) (f b:Int) (c:List Int) (d e:Int) (kn:LI→I2 (List Int→I2 (Option ρ))) (k0:LI→List Int→I2 (Option ρ)):Option ρ :=
 let x1_:=(z01.g c (d,e) (w64 ((a.length:Int) + 1)))
 let x4_:=(lk N (leB 0 x1_.2 && leB x1_.2 a.length))
 let x7_:=(lk N (Nat.blt (([]:List Int).length + ((a.drop 0).take x1_.2.toNat).length) 1099511627776))
 let x8_:=(([]:List Int) ++ ((a.drop 0).take x1_.2.toNat))
 let x0_:=(
   cond (lk N (Nat.blt ((x8_ ++ ([b]:List Int)).length + ((a.drop x1_.2.toNat).take (a.length - x1_.2).toNat).length) 1099511627776)) (
   kn ((x8_ ++ ([b]:List Int)) ++ ((a.drop x1_.2.toNat).take (a.length - x1_.2).toNat)) f (w64 (b + 1)) c x1_.1.1 x1_.1.2) none)
 let x5_:=(lk N (Nat.blt (x8_.length + ([b]:List Int).length) 1099511627776))
 let x9_:=(
   z7e (
   cond x5_ (
   cond x4_ x0_ none) none)
   (
   cond x4_ (
   cond x5_ x0_ none) none))
 let x2_:=(
   cond x7_ (
   cond x5_ x0_ none) none)
 let x3_:=(
   z7e (
   cond x7_ x9_ none)
   (
   cond x4_ x2_ none))
 let x6_:=(
   z7e (
   cond x7_ (
   z7e x9_
   (
   cond x4_ (
   cond x5_ x0_ none) none)) none)
   (
   z7e x3_
   (
   cond x4_ (
   bo x2_) none)))
 let x10_:=(
   z7e (
   cond x4_ x3_ none)
   (
   cond x4_ (
   cond x4_ x2_ none) none))
 let x11_:=(
   z7e (
   cond x4_ (
   bo x2_) none)
   (
   cond x4_ x2_ none))
 cond (lk N (decide (b < f)))
 (
 cond (lk N (z01.P c (d,e) (w64 ((a.length:Int) + 1)))) (
 z7e (
 z7e (
 cond x4_ x6_ none)
 (
 z7e x10_
 (
 cond x4_ x11_ none)))
 (
 z7e (
 cond x4_ (
 z7e x6_
 (
 z7e (
 z7e x3_
 (
 cond x4_ x2_ none))
 (
 cond x4_ (
 z7e (
 bo x2_)
 x2_) none))) none)
 (
 z7e (
 z7e x10_
 (
 z7e (
 cond x4_ (
 z7e x3_
 (
 cond x4_ x2_ none)) none)
 (
 cond x4_ (
 bo (
 cond x4_ x2_ none)) none)))
 (
 cond x4_ (
 z7e x11_
 (
 z7e (
 cond x4_ (
 z7e (
 bo x2_)
 x2_) none)
 (
 bo (
 cond x4_ x2_ none)))) none)))) none)
 (
 k0 a c d e)
def Z8L {ρ:Type} (N:Nat) (k0:LI→List Int→I2 (Option ρ)):Nat→LI→Int→Int→List Int→Int→Int→Option ρ
 | 0,_,_,_,_,_,_=>none
 | M + 1,a,b,c,d,e,f=>Z9 N a b c d e f (fun a b c d e f=>Z8L N k0 M a b c d e f) k0
def Z8 N a b c d e f k0:=(Z8L N k0 N a b c d e f:Option ρ)
def Z7 N a b c d e f kn:=(Z8 N a b c d e f kn:Option ρ)
def Z5 N a b c d e kn:=(Z6 N a b c d e (fun a b f c d e=>Z7 N a b f c d e kn):Option ρ)
def Z10 {ρ:Type} (N:Nat) (a:LI) (b:List Int) (c d:Int) (kr:LI→List Int→I2 (Option ρ)):Option ρ :=
 kr a b c d
def Z4 N a e b c d kr:=(Z5 N a e b c d (fun a b c d=>Z10 N a b c d kr):Option ρ)
def Z2 N a b c d kr:=(Z3 N a b c d (fun e a b c d=>Z4 N e a b c d kr):Option ρ)
def Z0 N b0 r0 a kr:=(Z1 N b0 r0 a (fun a b c d=>Z2 N a b c d kr):Option ρ)
def Spec:Prop:=∀ {U:Type} (u:U) (b0:List Int) (r0:Int × Int) (v1:Int),Ty.bd (.sl 0 (.int .u8)) b0→P b0 r0 v1 = true→∃ N0,∀ N,N0≤N→Z0 N b0 r0 v1 (fun v4 w0_0 w0_1 w0_2=>some (u,((w0_1,w0_2),((),(v4,()))))) = some (u,((g b0 r0 v1).1,((),((g b0 r0 v1).2,()))))
theorem zn2 (b:List Int) (s:(Int × Int) × List Int) (k:Nat):(stepN b s k).2.Perm ((k:Int) :: s.2):=by
 unfold stepN
 generalize (z01.g b s.1 ((s.2.length:Int) + 1)).2.toNat = q
 simp only
 have h:(s.2.take q ++ [(k:Int)] ++ s.2.drop q).Perm ([(k:Int)] ++ s.2.take q ++ s.2.drop q):=List.Perm.append_right _ List.perm_append_comm
 rw [List.append_assoc [(k:Int)],List.take_append_drop] at h
 exact h
theorem zjm (b:List Int):∀ (l:List Nat) (s:(Int × Int) × List Int),(l.foldl (stepN b) s).2.Perm (z33 l ++ s.2)
 | [],s=>List.Perm.refl _
 | k :: l,s=>by
  rw [List.foldl_cons]
  refine (zjm b l (stepN b s k)).trans ?_
  show (z33 l ++ (stepN b s k).2).Perm ((k:Int) :: (z33 l ++ s.2))
  refine (List.Perm.append_left _ (zn2 b s k)).trans ?_
  exact List.perm_middle
theorem keeps (b:List Int):∀ (l:List Nat) (s:(Int × Int) × List Int),z2l b s.1 = true→z2l b (l.foldl (stepN b) s).1 = true
 | [],_,h=>h
 | k :: l,s,h=>keeps b l (stepN b s k) (z01.keep h)
theorem keep {b:List Int} {r:Int × Int} {n:Int} (h:z2l b r = true):z2l b (g b r n).1 = true:=keeps b _ _ h
theorem names_of {l:List Int} {n:Nat} (h:l.Perm (z33 (List.range n))):z49 l (n:Int) = true:=by
 have hl:l.length = n:=by rw [h.length_eq,z20,List.length_range]
 have hnd:l.Nodup:=by
  refine h.nodup_iff.2 ?_
  unfold z33
  refine List.Pairwise.map _ (fun a b hab=>?_) (List.nodup_range (n:=n))
  show ((a:Nat):Int)≠((b:Nat):Int)
  omega
 simp only [z49,Bool.and_eq_true,decide_eq_true_eq]
 refine ⟨by omega,List.all_eq_true.2 fun i hi=>?_⟩
 have hi:=List.mem_range.1 hi
 have hm:=z1m (l:=l) (j:=i) 0 hi
 have hm2:=h.mem_iff.1 hm
 unfold z33 at hm2
 obtain ⟨x,hx,hxe⟩:=List.mem_map.1 hm2
 have hx:=List.mem_range.1 hx
 simp only [zec,Bool.and_eq_true,z3d,Bool.not_eq_true',List.any_eq_false,decide_eq_true_eq]
 refine ⟨by omega,fun y hy e=>?_⟩
 obtain ⟨j,hj,hje⟩:=List.getElem_of_mem hy
 rw [List.length_take] at hj
 rw [List.getElem_take] at hje
 have:l[j]'(by omega) = l[i]:=by
  rw [hje,e,List.getD_eq_getElem?_getD,List.getElem?_eq_getElem hi]
  rfl
 exact (List.pairwise_iff_getElem.1 hnd) j i (by omega) hi (by omega) this
theorem names {b:List Int} {r:Int × Int} (n:Nat):z49 (g b r (n:Int)).2 (n:Int) = true:=by
 have:=zjm b (List.range n) (r,[])
 rw [List.append_nil] at this
 refine names_of ?_
 unfold g
 rw [Int.toNat_natCast]
 exact this
theorem loop {ρ:Type} {N:Nat} {b:List Int} (kk:List Int→List Int→Int→Int→Option ρ) {n:Nat} (hn:n≤5):∀ (M k:Nat) (s:(Int × Int) × List Int),k≤n→z2l b s.1 = true→s.2.length = k→n - k < M →
  Z8L N kk M s.2 (n:Int) (k:Int) b s.1.1 s.1.2 = kk (((List.range n).drop k).foldl (stepN b) s).2 b (((List.range n).drop k).foldl (stepN b) s).1.1 (((List.range n).drop k).foldl (stepN b) s).1.2:=by
 intro M
 induction M with
 | zero=>intro k s _ _ _ h; omega
 | succ M ih =>
  intro k s hk hs hl hM
  simp only [Z8L,Z9]
  by_cases h:k < n
  ·have es:((s.1.1,s.1.2):Int × Int) = s.1:=rfl
   have w0:w64 ((s.2.length:Int) + 1) = (s.2.length:Int) + 1:=z1g (by omega) (by omega)
   have hr:=z01.range (b:=b) (r:=s.1) (n:=(s.2.length:Int) + 1) (by omega) (by omega)
   have hP:z01.P b s.1 ((s.2.length:Int) + 1) = true:=hs
   have hst:stepN b s k = ((z01.g b s.1 ((s.2.length:Int) + 1)).1,s.2.take (z01.g b s.1 ((s.2.length:Int) + 1)).2.toNat ++ [(k:Int)] ++ s.2.drop (z01.g b s.1 ((s.2.length:Int) + 1)).2.toNat):=rfl
   have hstl:(stepN b s k).2.length = k + 1:=by
    have:=(zn2 b s k).length_eq
    rw [List.length_cons] at this
    omega
   have hkeep:z2l b (stepN b s k).1 = true:=z01.keep hs
   rw [ct (dt (by omega)),z3q h,List.foldl_cons]
   have nxt:=ih (k + 1) (stepN b s k) h hkeep hstl (by omega)
   rw [hst] at nxt ⊢
   rw [← nxt]
   simp only [es,w0]
   generalize hx:z01.g b s.1 ((s.2.length:Int) + 1) = x at hr
   obtain ⟨q,hq⟩:=Int.eq_ofNat_of_zero_le hr.1
   have hq1:q≤s.2.length:=by omega
   have c1:(leB 0 x.2 && leB x.2 s.2.length) = true:=by rw [hq,zfo (by omega),zfo (by omega)]; rfl
   have c2:∀ l:List Int,l.length≤20→∀ m:List Int,m.length≤20→Nat.blt (l.length + m.length) 1099511627776 = true:=fun l h1 m h2=>Nat.ble_eq_true_of_le (by omega)
   have l1:((s.2.drop 0).take x.2.toNat).length≤6:=by rw [List.length_take,List.length_drop]; omega
   have l2:((s.2.drop x.2.toNat).take ((s.2.length:Int) - x.2).toNat).length≤6:=by rw [List.length_take,List.length_drop]; omega
   have e2:(s.2.drop x.2.toNat).take ((s.2.length:Int) - x.2).toNat = s.2.drop x.2.toNat:=List.take_of_length_le (by rw [List.length_drop]; omega)
   have w1:w64 ((k:Int) + 1) = ((k + 1:Nat):Int):=z1c (by rw [z0z]; omega)
   have l3:(s.2.take x.2.toNat).length≤6:=by rw [List.length_take]; omega
   have l4:(s.2.drop x.2.toNat).length≤6:=by rw [List.length_drop]; omega
   have d1:=c2 [] (by simp) (s.2.take x.2.toNat) (by omega)
   have d2:=c2 (s.2.take x.2.toNat) (by omega) [(k:Int)] (by simp)
   have d3:=c2 (s.2.take x.2.toNat ++ [(k:Int)]) (by rw [List.length_append,List.length_singleton]; omega) (s.2.drop x.2.toNat) (by omega)
   simp only [z1x,hP,c1,d1,d2,d3,cond_true,z3h,w1,e2,List.nil_append,List.drop_zero,hx]
  ·rw [cf (df (by omega)),List.drop_of_length_le (by rw [List.length_range]; omega)]
   rfl
theorem ok:Spec:=fun u b r n hb hp=>⟨10,fun N hN=>by
 simp only [P,Bool.and_eq_true,z3d] at hp
 obtain ⟨h,h0,h5⟩:=hp
 obtain ⟨k,rfl⟩:=Int.eq_ofNat_of_zero_le h0
 simp only [Z0,Z1,Z2,Z3,Z4,Z5,Z6,Z7,Z8]
 refine (loop _ (by omega) N 0 (r,[]) (Nat.zero_le _) h rfl (by omega)).trans ?_
 rw [List.drop_zero]
 rfl⟩
end z0v
end
end Go.Fw
namespace Go.Fw
section
variable {ρ:Type}
namespace z0j
def P (m:Int × Int × List Int) (names:List Int):Bool:=z40 m && z49 names m.1
def g (m:Int × Int × List Int) (names:List Int):Int × Int × List Int:=z6j m names
end z0j
namespace z0j
def Z1 {ρ:Type} (N:Nat) (a:MT) (b:LI) (kn:LI→I2 (LI→I2 (Option ρ))):Option ρ :=
 kn b a.1 a.2.1 a.2.2 0 0
def Z3 {ρ:Type} (N:Nat) (d:LI) (a b:Int) (c:LI) (e f:Int) (kn:LI→LI→I2 (LI→I4 (Option ρ))):Option ρ :=
 cond (lk N (z0y.P (a,(b,c)))) (
  kn (z0y.g (a,(b,c))).2.2 d a b c e f (z0y.g (a,(b,c))).1 (z0y.g (a,(b,c))).2.1) none
def Z6 {ρ:Type} (N:Nat) (a b:LI) (c d:Int) (e:LI) (f g h i:Int) (kn:LI→LI→I3 (LI→I4 (Option ρ))):Option ρ :=
 kn a b 0 c d e f g h i
def Z10 {ρ:Type} (N:Nat) (a h:LI) (b i c:Int) (j:LI) (d e f g:Int) (kn:LI→LI→I3 (LI→I4 (Option ρ))) (k0:LI→I4 (Option ρ)):Option ρ :=
 cond (lk N (decide (b < c)))
 (
  kn a h b i c j d e f g)
 (
  k0 a d e f g)
def Z14 {ρ:Type} (N:Nat) (b c:LI) (a d e:Int) (f:LI) (g h i j:Int) (kn:LI→LI→I4 (LI→I4 (Option ρ))):Option ρ :=
 kn b c a a d e f g h i j
def Z16 {ρ:Type} (N:Nat) (d b:LI) (a l c e:Int) (f:LI) (g h i j:Int) (kn:LI→LI→I4 (LI→I4 (Option ρ))):Option ρ :=
 cond (lk N (decide (a < c)))
 (
  cond (lk N (inB a b.length)) (
   kn d b a (b.getD a.toNat 0) c e f g h i j) none)
 (
  kn d b a l c e f g h i j)
def Z18 {ρ:Type} (N:Nat) (a b:LI) (c d e f:Int) (g:LI) (h i j l:Int) (kn:LI→LI→I5 (LI→I4 (Option ρ))):Option ρ :=
 kn a b c d 0 e f g h i j l
def Z21 {ρ:Type} (N:Nat) (h c:LI) (d i a b e:Int) (f:LI) (j l m o:Int) (kn:LI→LI→I5 (LI→I4 (Option ρ))) (k2:LI→LI→I3 (LI→I4 (Option ρ))):Option ρ :=
 cond (lk N (decide (a < b)))
 (
  cond (lk N (inB a c.length)) (
   cond (lk N (z11.P (b,(e,f)) d a)) (
    cond (lk N (inB (w64 ((w64 (i * b)) + (c.getD a.toNat 0))) h.length)) (
     kn (h.set (w64 ((w64 (i * b)) + (c.getD a.toNat 0))).toNat (z11.g (b,(e,f)) d a)) c d i (w64 (a + 1)) b e f j l m o) none) none) none)
 (
  k2 h c d b e f j l m o)
def Z20L {ρ:Type} (N:Nat) (k2:LI→LI→I3 (LI→I4 (Option ρ))):Nat→LI→LI→Int→Int→Int→Int→Int→LI→Int→Int→Int→Int→Option ρ
 | 0,_,_,_,_,_,_,_,_,_,_,_,_=>none
 | M + 1,a,b,c,d,e,f,g,h,i,j,l,m=>Z21 N a b c d e f g h i j l m (fun a b c d e f g h i j l m=>Z20L N k2 M a b c d e f g h i j l m) k2
def Z20 N a b c d e f g h i j l m k2:=(Z20L N k2 N a b c d e f g h i j l m:Option ρ)
def Z19 N a b c d e f g h i j l m kn:=(Z20 N a b c d e f g h i j l m kn:Option ρ)
def Z17 N a b c d e f g h i j l kn:=(Z18 N a b c d e f g h i j l (fun a b c d m e f g h i j l=>Z19 N a b c d m e f g h i j l kn):Option ρ)
def Z15 N a b c d e f g h i j l kn:=(Z16 N a b c d e f g h i j l (fun a b c d e f g h i j l=>Z17 N a b c d e f g h i j l kn):Option ρ)
def Z13 N a b c d e f g h i j kn:=(Z14 N a b c d e f g h i j (fun a b c l d e f g h i j=>Z15 N a b c l d e f g h i j kn):Option ρ)
def Z12 N a b c d e f g h i j kn:=(Z13 N a b c d e f g h i j kn:Option ρ)
def Z22 {ρ:Type} (N:Nat) (a b:LI) (c d e:Int) (f:LI) (g h i j:Int) (kn:LI→LI→I3 (LI→I4 (Option ρ))):Option ρ :=
 kn a b (w64 (c + 1)) d e f g h i j
def Z11 N a b c d e f g h i j kn:=(Z12 N a b c d e f g h i j (fun a b c d e f g h i j=>Z22 N a b c d e f g h i j kn):Option ρ)
def Z9 N a b c d e f g h i j kn k0:=(Z10 N a b c d e f g h i j (fun a b c d e f g h i j=>Z11 N a b c d e f g h i j kn) k0:Option ρ)
def Z8L {ρ:Type} (N:Nat) (k0:LI→I4 (Option ρ)):Nat→LI→LI→Int→Int→Int→LI→Int→Int→Int→Int→Option ρ
 | 0,_,_,_,_,_,_,_,_,_,_=>none
 | M + 1,a,b,c,d,e,f,g,h,i,j=>Z9 N a b c d e f g h i j (fun a b c d e f g h i j=>Z8L N k0 M a b c d e f g h i j) k0
def Z8 N a b c d e f g h i j k0:=(Z8L N k0 N a b c d e f g h i j:Option ρ)
def Z7 N a b c d e f g h i j kn:=(Z8 N a b c d e f g h i j kn:Option ρ)
def Z5 N a b c d e f g h i kn:=(Z6 N a b c d e f g h i (fun a b j c d e f g h i=>Z7 N a b j c d e f g h i kn):Option ρ)
def Z23 {ρ:Type} (N:Nat) (a:LI) (d e b c:Int) (kr:LI→I2 (Option ρ)):Option ρ :=
 kr a b c
def Z4 N a f g h i b c d e kr:=(Z5 N a f g h i b c d e (fun a b c d e=>Z23 N a b c d e kr):Option ρ)
def Z2 N a b c d e f kr:=(Z3 N a b c d e f (fun g a b c d e f h i=>Z4 N g a b c d e f h i kr):Option ρ)
def Z0 N b a kr:=(Z1 N b a (fun a c d e f g=>Z2 N a c d e f g kr):Option ρ)
def Spec:Prop:=∀  (v0:MT) (v1:LI),Ty.bd (.pair (.int .i64) (.pair (.int .i64) (.sl 0 (.int .i64)))) v0→Ty.bd (.sl 0 (.int .i64)) v1→P v0 v1 = true→∃ N0,∀ N,N0≤N→Z0 N v0 v1 (fun v4_2 v4_0 v4_1=>some ((),((v4_0,(v4_1,v4_2)),()))) = some ((),((g v0 v1),()))
section
variable {ρ:Type} {N:Nat} {m:Int × Int × List Int} {L:List Nat}
theorem at_g (hd:0≤m.1) (a b:Nat):z11.g (m.1,(m.2.1,m.2.2)) (a:Int) (b:Int) = ent m a b:=z9i hd a b
theorem at_p (hd:z40 m = true) {a b:Nat} (ha:a < m.2.1.toNat) (hb:b < m.1.toNat):z11.P (m.1,(m.2.1,m.2.2)) (a:Int) (b:Int) = true:=zmg hd ha hb
def cur (m:Int × Int × List Int) (L:List Nat) (st:List Int) (t:Nat):List Int:=zwt m.2.2.length t (z9h m.1.toNat L) (fun p=>m.2.2.getD (z9h m.1.toNat L p) 0) (fun p=>st.getD p 0)
theorem inner (hd:z40 m = true) (h1:L.Nodup) (h2:∀ x ∈ L,x < m.1.toNat) (h3:L.length = m.1.toNat) (st:List Int) (k2:List Int→List Int→Int→Int→Int→List Int→Int→Int→Int→Int→Option ρ) (t0 t1 o0 o1:Int) {i:Nat} (hi:i < m.2.1.toNat):∀ (M j:Nat),j≤m.1.toNat→m.1.toNat - j < M →
  Z20L N k2 M (cur m L st (i * m.1.toNat + j)) (z33 L) (i:Int) ((z9w m.1.toNat L i:Nat):Int) (j:Int) m.1 m.2.1 m.2.2 t0 t1 o0 o1 = k2 (cur m L st (i * m.1.toNat + m.1.toNat)) (z33 L) (i:Int) m.1 m.2.1 m.2.2 t0 t1 o0 o1:=by
 obtain ⟨n,r,hn,hr,hn1,hn5,hnr,hr8,hl⟩:=z17 hd
 have hnr':m.1.toNat≤m.2.1.toNat:=by omega
 intro M
 induction M with
 | zero=>intro j _ h; omega
 | succ M ih =>
  intro j hj hM
  simp only [Z20L,Z21]
  by_cases h:j < m.1.toNat
  ·have hx:=h2 _ (z1m (l:=L) (j:=j) 0 (by omega))
   have hrow:=zqi h1 h2 h3 hnr' hi
   have hlt:z9w m.1.toNat L i * m.1.toNat + L.getD j 0 < m.2.2.length:=by
    have:=z87 (n:=m.1.toNat) (r:=m.2.1.toNat) hrow hx
    rw [hl]
    have e:m.2.1.toNat * m.1.toNat = r * n:=by rw [hn,hr]; rfl
    omega
   have hidx:w64 (w64 (((z9w m.1.toNat L i:Nat):Int) * m.1) + ((L.getD j 0:Nat):Int)) = ((z9w m.1.toNat L i * m.1.toNat + L.getD j 0:Nat):Int):=by
    have e:((z9w m.1.toNat L i:Nat):Int) * m.1 = ((z9w m.1.toNat L i * m.1.toNat:Nat):Int):=by rw [hn,Int.natCast_mul]; simp
    have hb:z9w m.1.toNat L i * m.1.toNat≤8 * 5:=Nat.mul_le_mul (by omega) (by omega)
    have e2:w64 (((z9w m.1.toNat L i * m.1.toNat:Nat):Int)) = ((z9w m.1.toNat L i * m.1.toNat:Nat):Int):=z1g (by omega) (by omega)
    rw [e,e2,z1g (by omega) (by omega)]
    omega
   have hset:(cur m L st (i * m.1.toNat + j)).set (z9w m.1.toNat L i * m.1.toNat + L.getD j 0) (ent m i j) = cur m L st (i * m.1.toNat + (j + 1)):=by
    have e:=zsv (total:=m.2.2.length) (t:=i * m.1.toNat + j) (p:=z9w m.1.toNat L i * m.1.toNat + L.getD j 0) (back:=z9h m.1.toNat L) (F:=fun p=>m.2.2.getD (z9h m.1.toNat L p) 0) (G:=fun p=>st.getD p 0) hlt (zgj h1 h2 h3 hnr' h) (fun q _ hq=>zus h1 h2 h3 hnr' h hq)
    simp only [zgj h1 h2 h3 hnr' h] at e
    exact e
   rw [ct (dt (by omega)),ct (z1b (by rw [z20]; omega)),ct (at_p hd hi h)]
   simp only [Int.toNat_natCast,z3m,hidx]
   rw [ct (z1b (by rw [cur,zd6]; exact hlt)),at_g (by omega),hset,z1c (by rw [z0z]; omega)]
   exact ih (j + 1) h (by omega)
  ·rw [cf (df (by omega)),show j = m.1.toNat by omega]
theorem outer (hN:10≤N) (hd:z40 m = true) (h1:L.Nodup) (h2:∀ x ∈ L,x < m.1.toNat) (h3:L.length = m.1.toNat) (st:List Int) (k0:List Int→Int→Int→Int→Int→Option ρ) (t0 t1 o0 o1:Int):∀ (M i:Nat),i≤m.2.1.toNat→m.2.1.toNat - i < M →
  Z8L N k0 M (cur m L st (i * m.1.toNat)) (z33 L) (i:Int) m.1 m.2.1 m.2.2 t0 t1 o0 o1 = k0 (cur m L st (m.2.1.toNat * m.1.toNat)) t0 t1 o0 o1:=by
 obtain ⟨n,r,hn,hr,hn1,hn5,hnr,hr8,hl⟩:=z17 hd
 intro M
 induction M with
 | zero=>intro i _ h; omega
 | succ M ih =>
  intro i hi hM
  simp only [Z8L,Z9,Z10]
  by_cases h:i < m.2.1.toNat
  ·have hin:=inner (ρ:=ρ) (N:=N) hd h1 h2 h3 st (fun out5_2 names1 i6 m2_0 m2_1 m2_2 t4_0 t4_1 out5_0 out5_1=>Z22 N out5_2 names1 i6 m2_0 m2_1 m2_2 t4_0 t4_1 out5_0 out5_1 (fun out5_2 names1 i6 m2_0 m2_1 m2_2 t4_0 t4_1 out5_0 out5_1=>Z8L N k0 M out5_2 names1 i6 m2_0 m2_1 m2_2 t4_0 t4_1 out5_0 out5_1)) t0 t1 o0 o1 h N 0 (by omega) (by omega)
   rw [show ((0:Nat):Int) = 0 from rfl,Nat.add_zero] at hin
   have hnext:=ih (i + 1) h (by omega)
   rw [Nat.add_mul,Nat.one_mul] at hnext
   rw [ct (dt (by omega))]
   simp only [Z11,Z12,Z13,Z14,Z15,Z16]
   by_cases hin':i < m.1.toNat
   ·rw [ct (dt (by omega)),ct (z1b (by rw [z20]; omega)),Int.toNat_natCast,z3m]
    rw [z9w,if_pos hin'] at hin
    simp only [Z17,Z18,Z19,Z20]
    rw [hin]
    simp only [Z22]
    rw [z1c (by rw [z0z]; omega)]
    exact hnext
   ·rw [cf (df (by omega))]
    rw [z9w,if_neg hin'] at hin
    simp only [Z17,Z18,Z19,Z20]
    rw [hin]
    simp only [Z22]
    rw [z1c (by rw [z0z]; omega)]
    exact hnext
  ·rw [cf (df (by omega)),show i = m.2.1.toNat by omega]
theorem cur_start (L:List Nat):cur m L m.2.2 0 = m.2.2:=by
 unfold cur
 rw [zn8]
 exact zdh 0 rfl
theorem cur_end (hd:z40 m = true) (h1:L.Nodup) (h2:∀ x ∈ L,x < m.1.toNat) (h3:L.length = m.1.toNat) (st:List Int):cur m L st (m.2.1.toNat * m.1.toNat) = (z6j m (z33 L)).2.2:=by
 obtain ⟨n,r,hn,hr,hn1,hn5,hnr,hr8,hl⟩:=z17 hd
 have e:m.2.1.toNat * m.1.toNat = m.2.2.length:=by rw [hl,hn,hr]; simp
 rw [e]
 unfold cur z6j
 rw [z42]
 exact zn9 (fun p hp=>by
  have:=y6k h1 h2 h3 (r:=m.2.1.toNat) (by omega) (by omega) (q:=p) (by omega)
  omega)
end
theorem ok:Spec:=fun m names hb hv hp=>⟨10,fun N hN=>by
 simp only [P,Bool.and_eq_true] at hp
 obtain ⟨hd,hnm⟩:=hp
 obtain ⟨L,rfl,h1,h2,h3⟩:=z6d hnm
 obtain ⟨n,r,hn,hr,hn1,hn5,hnr,hr8,hl⟩:=z17 hd
 have hlen:m.2.2.length≤8 * 5:=by rw [hl]; exact Nat.mul_le_mul hr8 hn5
 simp only [Z0,Z1,Z2,Z3]
 rw [ct (show z0y.P (m.1,(m.2.1,m.2.2)) = true from dt (show m.2.2.length < 1099511627776 by omega))]
 simp only [Z4,Z5,Z6,Z7,Z8]
 have:=outer (ρ:=Unit × (Int × Int × List Int) × Unit) hN hd h1 h2 h3 m.2.2 (fun out5_2 t4_0 t4_1 out5_0 out5_1=>Z23 N out5_2 t4_0 t4_1 out5_0 out5_1 (fun t4_2 t4_0 t4_1=>some ((),((t4_0,(t4_1,t4_2)),())))) 0 0 m.1 m.2.1 N 0 (by omega) (by omega)
 rw [Nat.zero_mul,cur_start,cur_end hd h1 h2 h3] at this
 exact this⟩
end z0j
end
end Go.Fw
namespace Go.Fw
section
variable {ρ:Type}
namespace z0u
def P (b:List Int) (r:Int × Int) (m:Int × Int × List Int):Bool:=z2l b r && z40 m
abbrev S:=(Int × Int) × (Int × Int × List Int)
def moveS (b:List Int) (s:S):S :=
 ((z01.g b s.1 s.2.1).1,if (z19.g s.2 (z01.g b s.1 s.2.1).2).2 = true then (z19.g s.2 (z01.g b s.1 s.2.1).2).1 else s.2)
def walkS (b:List Int):Nat→S→S
 | 0,s=>s
 | n + 1,s=>walkS b n (moveS b s)
def walked (b:List Int) (r:Int × Int) (m:Int × Int × List Int):S:=walkS b (z01.g b r 4).2.toNat ((z01.g b r 4).1,m)
def g (b:List Int) (r:Int × Int) (m:Int × Int × List Int):(Int × Int) × (Int × Int × List Int) :=
 ((z0v.g b (walked b r m).1 (walked b r m).2.1).1,z0j.g (walked b r m).2 (z0v.g b (walked b r m).1 (walked b r m).2.1).2)
end z0u
namespace z0u
def Z1 {ρ:Type} (N:Nat) (b0:List Int) (r0:Int × Int) (a:MT) (kn:List Int→I4 (LI→I2 (Option ρ))):Option ρ :=
 kn b0 r0.1 r0.2 a.1 a.2.1 a.2.2 0 0
def Z3 {ρ:Type} (N:Nat) (a:List Int) (b c d e:Int) (f:LI) (h i:Int) (kn:Int→List Int→I4 (LI→I2 (Option ρ))):Option ρ :=
 cond (lk N (z01.P a (b,c) 4)) (
  kn (z01.g a (b,c) 4).2 a (z01.g a (b,c) 4).1.1 (z01.g a (b,c) 4).1.2 d e f h i) none
def Z6 {ρ:Type} (N:Nat) (a:Int) (b:List Int) (c d e f:Int) (g:LI) (h i:Int) (kn:I2 (List Int→I4 (LI→I2 (Option ρ)))):Option ρ :=
 kn a 0 b c d e f g h i
def Z9 {ρ:Type} (N:Nat) (c d:Int) (a:List Int) (e f b h:Int) (i:LI) (j l:Int) (kn:I2 (List Int→I4 (LI→I2 (Option ρ)))) (k0:List Int→I4 (LI→I2 (Option ρ))):Option ρ :=
 let x1_:=(z01.g a (e,f) b)
 let x2_:=(z19.g (b,(h,i)) x1_.2)
 let x3_:=(lk N (z01.P a (e,f) b))
 let x0_:=(
   cond (lk N (x2_.2))
   (
   kn c (w64 (d + 1)) a x1_.1.1 x1_.1.2 x2_.1.1 x2_.1.2.1 x2_.1.2.2 j l)
   (
   kn c (w64 (d + 1)) a x1_.1.1 x1_.1.2 b h i j l))
 cond (lk N (decide (d < c)))
 (
 z7e (
 z7e (
 cond x3_ (
 bo x0_) none)
 (
 cond x3_ x0_ none))
 (
 z7e (
 cond x3_ (
 z7e (
 bo x0_)
 x0_) none)
 (
 bo (
 cond x3_ x0_ none))))
 (
 k0 a e f b h i j l)
def Z8L {ρ:Type} (N:Nat) (k0:List Int→I4 (LI→I2 (Option ρ))):Nat→Int→Int→List Int→Int→Int→Int→Int→LI→Int→Int→Option ρ
 | 0,_,_,_,_,_,_,_,_,_,_=>none
 | M + 1,a,b,c,d,e,f,g,h,i,j=>Z9 N a b c d e f g h i j (fun a b c d e f g h i j=>Z8L N k0 M a b c d e f g h i j) k0
def Z8 N a b c d e f g h i j k0:=(Z8L N k0 N a b c d e f g h i j:Option ρ)
def Z7 N a b c d e f g h i j kn:=(Z8 N a b c d e f g h i j kn:Option ρ)
def Z5 N a b c d e f g h i kn:=(Z6 N a b c d e f g h i (fun a j b c d e f g h i=>Z7 N a j b c d e f g h i kn):Option ρ)
def Z10 {ρ:Type} (N:Nat) (b:List Int) (c d a e:Int) (f:LI) (h i:Int) (kr:LI→I2 (List Int→I2 (Option ρ))):Option ρ :=
 bo (
  cond (lk N (z0v.P b (c,d) a)) (
   cond (lk N (z0j.P (a,(e,f)) (z0v.g b (c,d) a).2)) (
    kr (z0j.g (a,(e,f)) (z0v.g b (c,d) a).2).2.2 (z0j.g (a,(e,f)) (z0v.g b (c,d) a).2).1 (z0j.g (a,(e,f)) (z0v.g b (c,d) a).2).2.1 b (z0v.g b (c,d) a).1.1 (z0v.g b (c,d) a).1.2) none) none)
def Z4 N i a b c d e f g h kr:=(Z5 N i a b c d e f g h (fun a b c d e f g h=>Z10 N a b c d e f g h kr):Option ρ)
def Z2 N a b c d e f g h kr:=(Z3 N a b c d e f g h (fun i a b c d e f g h=>Z4 N i a b c d e f g h kr):Option ρ)
def Z0 N b0 r0 a kr:=(Z1 N b0 r0 a (fun b c d e f g h i=>Z2 N b c d e f g h i kr):Option ρ)
def Spec:Prop:=∀ {U:Type} (u:U) (b0:List Int) (r0:Int × Int) (v1:MT),Ty.bd (.sl 0 (.int .u8)) b0→Ty.bd (.pair (.int .i64) (.pair (.int .i64) (.sl 0 (.int .i64)))) v1→P b0 r0 v1 = true→∃ N0,∀ N,N0≤N→Z0 N b0 r0 v1 (fun v4_2 v4_0 v4_1 w0_0 w0_1 w0_2=>some (u,((w0_1,w0_2),((),((v4_0,(v4_1,v4_2)),()))))) = some (u,((g b0 r0 v1).1,((),((g b0 r0 v1).2,()))))
theorem mut_step {m:Int × Int × List Int} {k:Int} (h:(z19.g m k).2 = true):(z19.g m k).1 = z6q m k.toNat:=by
 unfold z19.g at h ⊢
 split at h
 ·rename_i hc
  rw [if_pos hc]
 ·cases h
structure J (b:List Int) (n q:Int) (s:S):Prop where
 cur:z2l b s.1 = true
 dim:z40 s.2 = true
 hn:s.2.1 = n
 hr:s.2.2.1 = q
theorem J.move {b:List Int} {n q:Int} {s:S} (h:J b n q s):J b n q (moveS b s):=by
 unfold moveS
 by_cases hc:(z19.g s.2 (z01.g b s.1 s.2.1).2).2 = true
 ·rw [if_pos hc,mut_step hc]
  exact ⟨z01.keep h.cur,zaj h.dim _,h.hn,h.hr⟩
 ·rw [if_neg hc]
  exact ⟨z01.keep h.cur,h.dim,h.hn,h.hr⟩
theorem J.walk {b:List Int} {n q:Int}:∀ (c:Nat) {s:S},J b n q s→J b n q (walkS b c s)
 | 0,_,h=>h
 | c + 1,s,h=>J.walk c h.move
theorem zkz {b:List Int} {r:Int × Int} {m:Int × Int × List Int} (h:z2l b r = true) (hd:z40 m = true):J b m.1 m.2.1 (walked b r m) :=
 J.walk _ ⟨z01.keep h,hd,rfl,rfl⟩
theorem keep {b:List Int} {r:Int × Int} {m:Int × Int × List Int} (h:z2l b r = true) (hd:z40 m = true):z2l b (g b r m).1 = true:=z0v.keep (zkz h hd).cur
theorem dim {b:List Int} {r:Int × Int} {m:Int × Int × List Int} (h:z2l b r = true) (hd:z40 m = true):z40 (g b r m).2 = true∧(g b r m).2.1 = m.1∧(g b r m).2.2.1 = m.2.1:=by
 have hj:=zkz h hd
 refine ⟨?_,hj.hn,hj.hr⟩
 have:=hj.dim
 simpa [z40,g,z0j.g,z6j] using this
theorem loop {ρ:Type} {N:Nat} {b:List Int} (kk:List Int→Int→Int→Int→Int→List Int→Int→Int→Option ρ) (t0 t1 n0 q0:Int) {c:Nat} (hc:c≤5):∀ (M i:Nat) (s:S),i≤c→J b n0 q0 s→c - i < M →
  Z8L N kk M (c:Int) (i:Int) b s.1.1 s.1.2 s.2.1 s.2.2.1 s.2.2.2 t0 t1 = kk b (walkS b (c - i) s).1.1 (walkS b (c - i) s).1.2 (walkS b (c - i) s).2.1 (walkS b (c - i) s).2.2.1 (walkS b (c - i) s).2.2.2 t0 t1:=by
 intro M
 induction M with
 | zero=>intro i s _ _ h; omega
 | succ M ih =>
  intro i s hi hs hM
  simp only [Z8L,Z9]
  by_cases h:i < c
  ·have es:((s.1.1,s.1.2):Int × Int) = s.1:=rfl
   have em:((s.2.1,(s.2.2.1,s.2.2.2)):Int × Int × List Int) = s.2:=rfl
   have hP:z01.P b s.1 s.2.1 = true:=hs.cur
   have w1:w64 ((i:Int) + 1) = ((i + 1:Nat):Int):=z1c (by rw [z0z]; omega)
   rw [ct (dt (by omega))]
   have nxt:=ih (i + 1) (moveS b s) h hs.move (by omega)
   have ec:c - i = (c - (i + 1)) + 1:=by omega
   rw [ec]
   show _ = kk b (walkS b (c - (i + 1)) (moveS b s)).1.1 (walkS b (c - (i + 1)) (moveS b s)).1.2 (walkS b (c - (i + 1)) (moveS b s)).2.1 (walkS b (c - (i + 1)) (moveS b s)).2.2.1 (walkS b (c - (i + 1)) (moveS b s)).2.2.2 t0 t1
   rw [← nxt]
   simp only [z1x,es,em,hP,cond_true,z3h,w1]
   unfold moveS
   cases hq:(z19.g s.2 (z01.g b s.1 s.2.1).2).2
   ·rw [if_neg (by simp)]
    rfl
   ·rw [if_pos rfl]
    rfl
  ·rw [cf (df (by omega)),show c - i = 0 by omega]
   rfl
theorem ok:Spec:=fun u b r m hb hbm hp=>⟨10,fun N hN=>by
 simp only [P,Bool.and_eq_true] at hp
 obtain ⟨h,hd⟩:=hp
 have h0:=z01.keep (n:=4) h
 have p0:z01.P b r 4 = true:=h
 have er:((r.1,r.2):Int × Int) = r:=rfl
 have hr:=z01.range (b:=b) (r:=r) (n:=4) (by omega) (by omega)
 simp only [Z0,Z1,Z2,Z3,z1x,er,p0,cond_true,Z4,Z5,Z6,Z7,Z8]
 have hj:=zkz h hd
 obtain ⟨c,hc⟩:=Int.eq_ofNat_of_zero_le hr.1
 have hw:walked b r m = walkS b (c - 0) ((z01.g b r 4).1,m):=by
  unfold walked
  rw [hc]
  rfl
 rw [hc]
 refine (loop _ 0 0 m.1 m.2.1 (by omega) N 0 ((z01.g b r 4).1,m) (Nat.zero_le _) ⟨h0,hd,rfl,rfl⟩ (by omega)).trans ?_
 simp only [g]
 rw [← hw]
 have es:(((walked b r m).1.1,(walked b r m).1.2):Int × Int) = (walked b r m).1:=rfl
 have em:(((walked b r m).2.1,((walked b r m).2.2.1,(walked b r m).2.2.2)):Int × Int × List Int) = (walked b r m).2:=rfl
 obtain ⟨n,q,hn,_,hn1,hn5,_⟩:=z17 hj.dim
 have pn:z0v.P b (walked b r m).1 (walked b r m).2.1 = true:=by
  simp only [z0v.P,Bool.and_eq_true,z3d]
  exact ⟨hj.cur,by omega,by omega⟩
 have hnm:z49 (z0v.g b (walked b r m).1 (walked b r m).2.1).2 (walked b r m).2.1 = true:=by
  rw [hn]
  exact z0v.names n
 have pr:z0j.P (walked b r m).2 (z0v.g b (walked b r m).1 (walked b r m).2.1).2 = true:=by
  simp only [z0j.P,Bool.and_eq_true]
  exact ⟨hj.dim,hnm⟩
 simp only [Z10,z1x,es,em,pn,pr,cond_true,z3h]⟩
end z0u
end
end Go.Fw
namespace Go.Fw
section
variable {ρ:Type}
namespace z1r
def P (b:List Int) (r:Int × Int) (most:Int):Bool:=z2l b r && inK most 1 4
def g (b:List Int) (r:Int × Int) (most:Int):(Int × Int) × (Int × Int × List Int) × ByteArray :=
 ((z0u.g b (spec_dTree.g b r most).1 (spec_dTree.g b r most).2.1).1,(z0u.g b (spec_dTree.g b r most).1 (spec_dTree.g b r most).2.1).2,(spec_dTree.g b r most).2.2)
end z1r
namespace z1r
def Z0 {ρ:Type} (N:Nat) (b0:List Int) (r0:Int × Int) (a:Int) (kr:LI→ByteArray→I2 (List Int→I2 (Option ρ))):Option ρ :=
 cond (lk N (spec_dTree.P b0 r0 a)) (
  cond (lk N (z0u.P b0 (spec_dTree.g b0 r0 a).1 (spec_dTree.g b0 r0 a).2.1)) (
   kr (z0u.g b0 (spec_dTree.g b0 r0 a).1 (spec_dTree.g b0 r0 a).2.1).2.2.2 (spec_dTree.g b0 r0 a).2.2 (z0u.g b0 (spec_dTree.g b0 r0 a).1 (spec_dTree.g b0 r0 a).2.1).2.1 (z0u.g b0 (spec_dTree.g b0 r0 a).1 (spec_dTree.g b0 r0 a).2.1).2.2.1 b0 (z0u.g b0 (spec_dTree.g b0 r0 a).1 (spec_dTree.g b0 r0 a).2.1).1.1 (z0u.g b0 (spec_dTree.g b0 r0 a).1 (spec_dTree.g b0 r0 a).2.1).1.2) none) none
def Spec:Prop:=∀ {U:Type} (u:U) (b0:List Int) (r0:Int × Int) (v1:Int),Ty.bd (.sl 0 (.int .u8)) b0→P b0 r0 v1 = true→∃ N0,∀ N,N0≤N→Z0 N b0 r0 v1 (fun v4_2 v5 v4_0 v4_1 w0_0 w0_1 w0_2=>some (u,((w0_1,w0_2),((),((v4_0,(v4_1,v4_2)),(v5,())))))) = some (u,((g b0 r0 v1).1,((),((g b0 r0 v1).2.1,((g b0 r0 v1).2.2,())))))
theorem facts {b:List Int} {r:Int × Int} {most:Int} (h:z2l b r = true) (h1:1≤most) (h4:most≤4):z2l b (g b r most).1 = true∧z40 (g b r most).2.1 = true∧(g b r most).2.1.1≤4∧(g b r most).2.1.2.1 = (g b r most).2.1.1:=by
 obtain ⟨q,q1,q4,hj⟩:=spec_dTree.facts h h1 h4
 obtain ⟨d1,d2,d3⟩:=z0u.dim hj.cur hj.dim
 have e1:=hj.hn
 have e2:=hj.hr
 exact ⟨z0u.keep hj.cur hj.dim,d1,by show (z0u.g b _ _).2.1≤4; rw [d2,e1]; exact q4,by show (z0u.g b _ _).2.2.1 = (z0u.g b _ _).2.1; rw [d2,d3,e1,e2]⟩
theorem ok:Spec:=fun u b r most hb hp=>⟨0,fun N hN=>by
 simp only [P,Bool.and_eq_true,z3d] at hp
 obtain ⟨q,q1,q4,hj⟩:=spec_dTree.facts hp.1 hp.2.1 hp.2.2
 have p1:spec_dTree.P b r most = true:=by
  simp only [spec_dTree.P,Bool.and_eq_true,z3d]
  exact ⟨hp.1,hp.2⟩
 have p2:z0u.P b (spec_dTree.g b r most).1 (spec_dTree.g b r most).2.1 = true:=by
  simp only [z0u.P,Bool.and_eq_true]
  exact ⟨hj.cur,hj.dim⟩
 simp only [Z0,z1x,p1,p2,cond_true]
 rfl⟩
end z1r
end
end Go.Fw
namespace Go.Fw
section
variable {ρ:Type}
namespace z1p
def P (b:List Int) (r:Int × Int):Bool:=z2l b r
def g (b:List Int) (r:Int × Int):(Int × Int) × (Int × Int × List Int) :=
 if (z0w.g b r 3).2 = true then z0g.g b (z0w.g b r 3).1 else ((z1r.g b (z0w.g b r 3).1 4).1,(z1r.g b (z0w.g b r 3).1 4).2.1)
end z1p
namespace z1p
def Z0 {ρ:Type} (N:Nat) (b0:List Int) (r0:Int × Int) (kr:LI→I2 (List Int→I2 (Option ρ))):Option ρ :=
 cond (lk N (z0w.P b0 r0 3)) (
  cond (lk N ((z0w.g b0 r0 3).2))
  (
   cond (lk N (z0g.P b0 (z0w.g b0 r0 3).1)) (
    kr (z0g.g b0 (z0w.g b0 r0 3).1).2.2.2 (z0g.g b0 (z0w.g b0 r0 3).1).2.1 (z0g.g b0 (z0w.g b0 r0 3).1).2.2.1 b0 (z0g.g b0 (z0w.g b0 r0 3).1).1.1 (z0g.g b0 (z0w.g b0 r0 3).1).1.2) none)
  (
   cond (lk N (z1r.P b0 (z0w.g b0 r0 3).1 4)) (
    kr (z1r.g b0 (z0w.g b0 r0 3).1 4).2.1.2.2 (z1r.g b0 (z0w.g b0 r0 3).1 4).2.1.1 (z1r.g b0 (z0w.g b0 r0 3).1 4).2.1.2.1 b0 (z1r.g b0 (z0w.g b0 r0 3).1 4).1.1 (z1r.g b0 (z0w.g b0 r0 3).1 4).1.2) none)) none
def Spec:Prop:=∀ {U:Type} (u:U) (b0:List Int) (r0:Int × Int),Ty.bd (.sl 0 (.int .u8)) b0→P b0 r0 = true→∃ N0,∀ N,N0≤N→Z0 N b0 r0 (fun v2_2 v2_0 v2_1 w0_0 w0_1 w0_2=>some (u,((w0_1,w0_2),((),((v2_0,(v2_1,v2_2)),()))))) = some (u,((g b0 r0).1,((),((g b0 r0).2,()))))
theorem wild4 (b:List Int) (r:Int × Int):(z0g.g b r).2.1≤4:=by
 unfold z0g.g
 split
 ·show (3:Int)≤4
  decide
 split
 ·show (2:Int)≤4
  decide
 split
 ·show (3:Int)≤4
  decide
 ·show (4:Int)≤4
  decide
theorem facts {b:List Int} {r:Int × Int} (h:z2l b r = true):z2l b (g b r).1 = true∧z40 (g b r).2 = true∧(g b r).2.1≤4∧(g b r).2.2.1 = (g b r).2.1:=by
 have h0:=z0w.keep (n:=3) h
 unfold g
 split
 ·have:=z0g.dim h0
  exact ⟨z0g.keep h0,this.1,wild4 b _,this.2.symm⟩
 ·exact z1r.facts h0 (by omega) (by omega)
theorem ok:Spec:=fun u b r hb hp=>⟨0,fun N hN=>by
 have h0:=z0w.keep (n:=3) hp
 have p0:z0w.P b r 3 = true:=hp
 have p1:z0g.P b (z0w.g b r 3).1 = true:=h0
 have p2:z1r.P b (z0w.g b r 3).1 4 = true:=by
  simp only [z1r.P,Bool.and_eq_true,z3d]
  exact ⟨h0,by omega,by omega⟩
 simp only [Z0,z1x,p0,p1,p2,cond_true,g]
 cases (z0w.g b r 3).2
 ·rw [if_neg (by simp)]
  rfl
 ·rw [if_pos rfl]
  rfl⟩
end z1p
end
end Go.Fw
namespace Go.Fw
def ziz (_:Nat):Int:=1
theorem z91 (i:Nat):0 < ziz i:=by
 show (0:Int) < 1
 decide
theorem zik {b:List Int} {d:Nat→Int}:∀ (l:List Nat) {s:spec_dTree.S},(∀ i ∈ l,i + 1 < s.2.1.toNat∧d i = d (i + 1))→z2k s.2 d→z2k (l.foldl (spec_dTree.chainS b) s).2 d∧(l.foldl (spec_dTree.chainS b) s).2.1 = s.2.1
 | [],_,_,h=>⟨h,rfl⟩
 | i :: l,s,hl,h=>by
  obtain ⟨h1,h2⟩:=hl i List.mem_cons_self
  have g:z2k (spec_dTree.chainS b s i).2 d:=z3p h rfl (show (i:Int) + 1 = ((i + 1:Nat):Int) by omega) (by omega) h1 (by omega) (by omega) (by omega) (by rw [h2])
  exact zik l (s:=spec_dTree.chainS b s i) (fun x hx=>hl x (List.mem_cons_of_mem _ hx)) g
theorem zjn {b:List Int}:∀ (l:List Nat) {s:spec_dTree.S},(∀ i ∈ l,0 < i∧i < s.2.1.toNat)→z2k s.2 ziz→z2k (l.foldl (spec_dTree.starS b) s).2 ziz
 | [],_,_,h=>h
 | i :: l,s,hl,h=>by
  obtain ⟨h1,h2⟩:=hl i List.mem_cons_self
  have g:z2k (spec_dTree.starS b s i).2 ziz:=z3p (i:=0) (j:=i) h rfl rfl (by omega) h2 (by omega) (by omega) (by omega) rfl
  exact zjn l (s:=spec_dTree.starS b s i) (fun x hx=>hl x (List.mem_cons_of_mem _ hx)) g
theorem zfh {b:List Int} {r:Int × Int} {n c:Nat} {d:Nat→Int} (hd:∀ i,0 < d i) (h1:1≤n) (h4:n≤4) (hc:∀ i,i < c→i + 1 < n∧d i = d (i + 1)):z2k (spec_dTree.chainG b r n c).2 d∧(spec_dTree.chainG b r n c).2.1 = (n:Int):=by
 refine zik (List.range c) (s:=(r,z07.g (n:Int))) (fun i hi=>?_) (z4y (by omega) (by omega) hd)
 have:=hc i (List.mem_range.1 hi)
 exact this
def lastD (n:Nat) (x y:Int) (i:Nat):Int:=if i + 1 < n then x else y
theorem zv4 {b:List Int} {r:Int × Int} (k:Int) {n:Nat} (h1:1≤n) (h4:n≤4) (hk:k = 4∨k = 5→2≤n):∃ d,z2k (spec_dTree.tree b r k n).1.2 d:=by
 have big:∀ (x y u v:Int),2≤n→0 < u→0 < v→-99≤x∧x≤99→-99≤y∧y≤99→u * x = v * y→∃ d,z2k (spec_dTree.endB b (spec_dTree.chainG b r n (n - 2)) n x y).2 d:=by
  intro x y u v h2 hu hv hx hy he
  obtain ⟨g1,g2⟩:=zfh (b:=b) (r:=r) (n:=n) (c:=n - 2) (d:=lastD n u v) (fun i=>by unfold lastD; split <;> omega) h1 h4 (fun i hi=>⟨by omega,by unfold lastD; rw [if_pos (by omega),if_pos (by omega)]⟩)
  refine ⟨_,z3p (i:=n - 2) (j:=n - 1) g1 (show (n:Int) - 2 = ((n - 2:Nat):Int) by omega) (show (n:Int) - 1 = ((n - 1:Nat):Int) by omega) (by omega) (by omega) (by omega) hx hy ?_⟩
  unfold lastD
  rw [if_pos (by omega),if_neg (by omega)]
  exact he
 unfold spec_dTree.tree
 split
 ·rename_i e
  exact big 2 1 1 2 (hk (.inl e)) (by omega) (by omega) (by omega) (by omega) (by omega)
 split
 ·rename_i e
  split
  ·exact big 2 1 1 2 (hk (.inr e)) (by omega) (by omega) (by omega) (by omega) (by omega)
  ·exact big 1 2 2 1 (hk (.inr e)) (by omega) (by omega) (by omega) (by omega) (by omega)
 split
 ·exact ⟨ziz,z4y (by omega) (by omega) z91⟩
 split
 ·exact ⟨fun i=>if i = 0 then 1 else 3,z3p (i:=0) (j:=1) (z4y (n:=2) (by omega) (by omega) (fun i=>by split <;> omega)) rfl rfl (by decide) (by decide) (by omega) (by omega) (by omega) (by decide)⟩
 split
 ·exact ⟨ziz,zjn _ (fun i hi=>by
   have:i ∈ (List.range 4).drop 1:=hi
   have h:∀ i ∈ (List.range 4).drop 1,0 < i∧i < 4:=by decide
   exact h i this) (z4y (n:=4) (by omega) (by omega) z91)⟩
 split
 ·let d:Nat→Int:=fun i=>if i < 2 then 1 else 2
  have z:z2k (z07.g 4) d:=z4y (by omega) (by omega) (fun i=>by show 0 < (if i < 2 then (1:Int) else 2); split <;> omega)
  have z1:z2k (spec_dTree.f1 b r).2 d:=z3p (i:=0) (j:=1) z rfl rfl (by decide) (by decide) (by omega) (by omega) (by omega) (by decide)
  have z2:z2k (spec_dTree.f2 b r).2 d:=z3p (i:=1) (j:=2) z1 rfl rfl (show 1 < 4 by decide) (show 2 < 4 by decide) (by omega) (by omega) (by omega) (by decide)
  exact ⟨d,z3p (i:=2) (j:=3) z2 rfl rfl (show 2 < 4 by decide) (show 3 < 4 by decide) (by omega) (by omega) (by omega) (by decide)⟩
 split
 ·exact ⟨ziz,z3p (i:=0) (j:=1) (z4y (n:=3) (by omega) (by omega) z91) rfl rfl (by decide) (by decide) (by omega) (by omega) (by omega) (by decide)⟩
 ·exact ⟨ziz,(zfh z91 h1 h4 (fun i hi=>⟨by omega,rfl⟩)).1⟩
theorem kinds {k n most:Int} (h:spec_dTree.k2 (spec_dTree.k1 k n most) most = 4∨spec_dTree.k2 (spec_dTree.k1 k n most) most = 5):2≤n:=by
 unfold spec_dTree.k2 spec_dTree.k1 at h
 by_cases hn:n < 2
 ·exfalso
  rw [dt hn] at h
  by_cases h4:4≤k <;> by_cases h6:k≤6 <;> by_cases h7:k = 7 <;> by_cases hm:most < 2 <;> simp [h4,h6,h7,hm] at h <;> first | omega | (revert h; generalize (decide (k = 8) && decide (most < 4)) = b1; generalize (decide (k = 9) && decide (most < 4)) = b2; generalize (decide (k = 10) && decide (most < 3)) = b3; intro h; cases b1 <;> cases b2 <;> cases b3 <;> simp at h <;> omega) | skip
 ·omega
theorem treeD {b:List Int} {r:Int × Int} {most:Int} (h1:1≤most) (h4:most≤4):∃ d,z2k (spec_dTree.g b r most).2.1 d:=by
 have rn:=z01.range (b:=b) (r:=(z01.g b r 11).1) (n:=most) h1 (by omega)
 refine zv4 (b:=b) _ (n:=(1 + (z01.g b (z01.g b r 11).1 most).2).toNat) (by omega) (by omega) fun h=>?_
 have:=kinds h
 omega
theorem zvk {b:List Int} {d:Nat→Int} {s:z0u.S} (h:z2k s.2 d) (hc:z2l b s.1 = true):z2k (z0u.moveS b s).2 d∧(z0u.moveS b s).2.1 = s.2.1∧z2l b (z0u.moveS b s).1 = true:=by
 unfold z0u.moveS
 refine ⟨?_, ?_,z01.keep hc⟩
 ·by_cases hq:(z19.g s.2 (z01.g b s.1 s.2.1).2).2 = true
  ·simp only [hq,if_true]
   rw [z0u.mut_step hq]
   unfold z19.g at hq
   split at hq
   ·rename_i h3
    simp only [Bool.and_eq_true] at h3
    have:=z3d.1 h3.2.1
    exact h.mut (by omega) h3.2.2
   ·cases hq
  ·simp only [hq]
   exact h
 ·by_cases hq:(z19.g s.2 (z01.g b s.1 s.2.1).2).2 = true
  ·simp only [hq,if_true]
   rw [z0u.mut_step hq]
   rfl
  ·simp only [hq]
   rfl
theorem zji {b:List Int} {d:Nat→Int}:∀ (c:Nat) {s:z0u.S},z2k s.2 d→z2l b s.1 = true→z2k (z0u.walkS b c s).2 d
 | 0,_,h,_=>h
 | c + 1,s,h,hc=>by
  obtain ⟨h1,h2,h3⟩:=zvk h hc
  exact zji c h1 h3
theorem movedD {b:List Int} {r:Int × Int} {m:Int × Int × List Int} {d:Nat→Int} (h:z2k m d) (hc:z2l b r = true):∃ d',z2k (z0u.g b r m).2 d':=by
 have hw:z2k (z0u.walked b r m).2 d:=zji _ h (z01.keep hc)
 obtain ⟨n,q,hn,_⟩:=z17 hw.dim
 refine ⟨_,z2k.ren hw ?_⟩
 rw [hn]
 exact z0v.names n
theorem finiteD {b:List Int} {r:Int × Int} {most:Int} (h:z2l b r = true) (h1:1≤most) (h4:most≤4):∃ d,z2k (z1r.g b r most).2.1 d:=by
 obtain ⟨d,hd⟩:=treeD (b:=b) (r:=r) h1 h4
 obtain ⟨q,_,_,hj⟩:=spec_dTree.facts h h1 h4
 exact movedD hd hj.cur
theorem zqy {m:Int × Int × List Int} (h:∀ u,u < m.1.toNat→∀ v,v < m.1.toNat→ent m u v = -ent m v u):zb3 m.1.toNat (ent m) ziz:=fun u hu=>⟨z91 u,fun v hv=>by
 show 1 * ent m u v = -(1 * ent m v u)
 rw [h u hu v hv]; omega⟩
theorem znp:z2k z0g.markov ziz:=by
 refine ⟨by decide +kernel,zqy ?_⟩
 show ∀ u,u < 3→∀ v,v < 3→ent z0g.markov u v = -ent z0g.markov v u
 decide +kernel
theorem twoD {b:List Int} {r:Int × Int}:∃ d,z2k (z0g.two b r).2 d:=by
 have r1:=z01.range (b:=b) (r:=r) (n:=4) (by omega) (by omega)
 have r2:=z01.range (b:=b) (r:=(z01.g b r 4).1) (n:=4) (by omega) (by omega)
 let d:Nat→Int:=fun i=>if i = 0 then 1 + (z01.g b (z01.g b r 4).1 4).2 else 1 + (z01.g b r 4).2
 refine ⟨d,z3p (i:=0) (j:=1) (z4y (n:=2) (by omega) (by omega) (fun i=>?_)) rfl rfl (by decide) (by decide) (by omega) (by omega) (by omega) ?_⟩
 ·show 0 < (if i = 0 then 1 + (z01.g b (z01.g b r 4).1 4).2 else 1 + (z01.g b r 4).2)
  split <;> omega
 ·show (1 + (z01.g b (z01.g b r 4).1 4).2) * (1 + (z01.g b r 4).2) = (1 + (z01.g b r 4).2) * (1 + (z01.g b (z01.g b r 4).1 4).2)
  exact Int.mul_comm _ _
theorem threeD {b:List Int} {r:Int × Int}:z2k (z0g.three b r).2 ziz:=by
 have z1:z2k (z0g.j1 b r).2 ziz:=z3p (i:=0) (j:=1) (z4y (n:=3) (by omega) (by omega) z91) rfl rfl (by decide) (by decide) (by omega) (by omega) (by omega) (by decide)
 have z2:z2k (z0g.j2 b r).2 ziz:=z3p (i:=1) (j:=2) z1 rfl rfl (show 1 < 3 by decide) (show 2 < 3 by decide) (by omega) (by omega) (by omega) (by decide)
 have rr:=z01.range (b:=b) (r:=(z0g.j2 b r).1) (n:=2) (by omega) (by omega)
 let x:Int:=1 + (z01.g b (z0g.j2 b r).1 2).2
 have hx:1≤x∧x≤2:=by show 1≤1 + _∧1 + _≤(2:Int); omega
 let s:Bool:=(z0w.g b (z01.g b (z0g.j2 b r).1 2).1 2).2
 have z3:z2k (z0a.joinM s (z0g.j2 b r).2 0 2 x x) ziz:=z3p (i:=0) (j:=2) z2 rfl rfl (show 0 < 3 by decide) (show 2 < 3 by decide) (by omega) (by omega) (by omega) rfl
 have hl:(z0g.j2 b r).2.2.2.length = 9:=by simp [z0g.j2,z0g.j1,z0a.g,z0a.joinM,z07.g]
 have e:(z0g.three b r).2 = z0a.joinM s (z0g.j2 b r).2 0 2 x x:=by
  have h1:(z0g.j3 b r).2.2.2 = ((z0g.j2 b r).2.2.2.set 2 (if s = true then -x else x)).set 6 (if s = true then 1 else -1):=rfl
  have h2:(((z0g.j2 b r).2.2.2.set 2 (if s = true then -x else x)).set 6 (if s = true then 1 else -1)).getD 2 0 = if s = true then -x else x:=by
   rw [List.getD_eq_getElem?_getD,List.getElem?_set_ne (by decide),List.getElem?_set_self (by omega)]
   rfl
  have h3:w64 (0 - (if s = true then -x else x)) = if s = true then x else -x:=by
   split
   ·rw [z1g (by omega) (by omega)]; omega
   ·rw [z1g (by omega) (by omega)]; omega
  show ((3:Int),(3:Int),(z0g.j3 b r).2.2.2.set 6 (w64 (0 - (z0g.j3 b r).2.2.2.getD 2 0))) = (3,3,((z0g.j2 b r).2.2.2.set 2 (if s = true then -x else x)).set 6 (if s = true then x else -x))
  rw [h1,h2,h3,List.set_set]
 rw [e]
 exact z3
theorem zv5 {b:List Int} {i j:Nat} {s:(Int × Int) × List Int} (hj:j < i) (hi:i < 4) (h:z2k (4,4,s.2) ziz):z2k (4,4,(z0g.step4 b i s j).2) ziz:=by
 have rr:=z01.range (b:=b) (r:=s.1) (n:=5) (by omega) (by omega)
 have:=z3p (s:=false) (i:=i) (j:=j) (a:=(z01.g b s.1 5).2 - 2) (c:=(z01.g b s.1 5).2 - 2) h rfl rfl hi (show j < 4 by omega) (by omega) (by omega) (by omega) rfl
 have e1:((i:Int) * 4 + (j:Int)).toNat = i * 4 + j:=by omega
 have e2:((j:Int) * 4 + (i:Int)).toNat = j * 4 + i:=by omega
 have e3:-((z01.g b s.1 5).2 - 2) = 2 - (z01.g b s.1 5).2:=by omega
 have e:z0a.joinM false (4,4,s.2) (i:Int) (j:Int) ((z01.g b s.1 5).2 - 2) ((z01.g b s.1 5).2 - 2) = (4,4,(z0g.step4 b i s j).2):=by
  unfold z0a.joinM z0g.step4
  simp only [e1,e2,e3,Bool.false_eq_true,if_false]
 rwa [e] at this
theorem zgm {b:List Int} {i:Nat} (hi:i < 4):∀ (l:List Nat) {s:(Int × Int) × List Int},(∀ j ∈ l,j < i)→z2k (4,4,s.2) ziz→z2k (4,4,(l.foldl (z0g.step4 b i) s).2) ziz
 | [],_,_,h=>h
 | j :: l,_,hl,h=>zgm hi l (fun x hx=>hl x (List.mem_cons_of_mem _ hx)) (zv5 (hl j List.mem_cons_self) hi h)
theorem zjq {b:List Int}:∀ (l:List Nat) {s:(Int × Int) × List Int},(∀ i ∈ l,i < 4)→z2k (4,4,s.2) ziz→z2k (4,4,(l.foldl (z0g.row4 b) s).2) ziz
 | [],_,_,h=>h
 | i :: l,_,hl,h=>zjq l (fun x hx=>hl x (List.mem_cons_of_mem _ hx)) (zgm (hl i List.mem_cons_self) (List.range i) (fun j hj=>List.mem_range.1 hj) h)
theorem wildD {b:List Int} {r:Int × Int}:∃ d,z2k (z0g.g b r).2 d:=by
 unfold z0g.g
 split
 ·exact ⟨_,znp⟩
 split
 ·exact twoD
 split
 ·exact ⟨_,threeD⟩
 ·exact ⟨ziz,zjq (List.range 4) (s:=((z01.g b r 4).1,List.replicate 16 0)) (fun i hi=>List.mem_range.1 hi) (z4y (n:=4) (by omega) (by omega) z91)⟩
theorem matrixD {b:List Int} {r:Int × Int} (h:z2l b r = true):∃ d,z2k (z1p.g b r).2 d:=by
 unfold z1p.g
 split
 ·exact wildD
 ·exact finiteD (z0w.keep h) (by omega) (by omega)
end Go.Fw
namespace Go.Fw
section
variable {ρ:Type}
namespace z0e
def P (b:List Int) (r:Int × Int) (m:Int × Int × List Int):Bool:=z2l b r && (z40 m && decide (m.2.1≤6))
abbrev S:=(Int × Int) × List Int
def numF (b:List Int) (s:S):S:=((z01.g b s.1 5).1,s.2 ++ [(z01.g b s.1 5).2 - 2])
def numsF (b:List Int):Nat→S→S
 | 0,s=>s
 | n + 1,s=>numsF b n (numF b s)
def rowsF (b:List Int) (n:Nat):Nat→S→S
 | 0,s=>s
 | c + 1,s=>rowsF b n c (numsF b n s)
def res (b:List Int) (r:Int × Int) (m:Int × Int × List Int):S:=rowsF b m.1.toNat (z01.g b r 3).2.toNat ((z01.g b r 3).1,m.2.2)
def g (b:List Int) (r:Int × Int) (m:Int × Int × List Int):(Int × Int) × (Int × Int × List Int):=((res b r m).1,(m.1,m.2.1 + (z01.g b r 3).2,(res b r m).2))
end z0e
namespace z0e
def Z1 {ρ:Type} (N:Nat) (b0:List Int) (r0:Int × Int) (a:MT) (kn:List Int→I4 (LI→I2 (Option ρ))):Option ρ :=
 kn b0 r0.1 r0.2 a.1 a.2.1 a.2.2 0 0
def Z3 {ρ:Type} (N:Nat) (d:List Int) (e f a b:Int) (c:LI) (h i:Int) (kn:LI→List Int→I4 (LI→I4 (Option ρ))):Option ρ :=
 cond (lk N (z0y.P (a,(b,c)))) (
  kn (z0y.g (a,(b,c))).2.2 d e f a b c h i (z0y.g (a,(b,c))).1 (z0y.g (a,(b,c))).2.1) none
def Z5 {ρ:Type} (N:Nat) (d:LI) (a:List Int) (b c e f:Int) (h:LI) (i j l m:Int) (kn:LI→Int→List Int→I4 (LI→I4 (Option ρ))):Option ρ :=
 cond (lk N (z01.P a (b,c) 3)) (
  kn d (z01.g a (b,c) 3).2 a (z01.g a (b,c) 3).1.1 (z01.g a (b,c) 3).1.2 e f h i j l m) none
def Z8 {ρ:Type} (N:Nat) (a:LI) (b:Int) (c:List Int) (d e f g:Int) (h:LI) (i j l m:Int) (kn:LI→I2 (List Int→I4 (LI→I4 (Option ρ)))):Option ρ :=
 kn a b 0 c d e f g h i j l m
def Z12 {ρ:Type} (N:Nat) (a:LI) (b c:Int) (d:List Int) (e f l m:Int) (o:LI) (g h i j:Int) (kn:LI→I2 (List Int→I4 (LI→I4 (Option ρ)))) (k0:LI→I4 (List Int→I2 (Option ρ))):Option ρ :=
 cond (lk N (decide (c < b)))
 (
  kn a b c d e f l m o g h i j)
 (
  k0 a g h i j d e f)
def Z17 {ρ:Type} (N:Nat) (a:LI) (b c:Int) (d:List Int) (e f g h:Int) (i:LI) (j l m o:Int) (kn:LI→I3 (List Int→I4 (LI→I4 (Option ρ)))):Option ρ :=
 kn a b c 0 d e f g h i j l m o
def Z20 {ρ:Type} (N:Nat) (d:LI) (f h i:Int) (a:List Int) (b c e j:Int) (l:LI) (m o p q:Int) (kn:LI→I3 (List Int→I4 (LI→I4 (Option ρ)))) (k2:LI→I2 (List Int→I4 (LI→I4 (Option ρ)))):Option ρ :=
 cond (lk N (decide (i < e)))
 (
  z7e (
   cond (lk N (z01.P a (b,c) 5)) (
    cond (lk N (Nat.blt (d.length + ([(w64 ((z01.g a (b,c) 5).2 - 2))]:List Int).length) 1099511627776)) (
     kn (d ++ ([(w64 ((z01.g a (b,c) 5).2 - 2))]:List Int)) f h (w64 (i + 1)) a (z01.g a (b,c) 5).1.1 (z01.g a (b,c) 5).1.2 e j l m o p q) none) none)
  (
   cond (lk N (z01.P a (b,c) 5)) (
    bo (
     cond (lk N (Nat.blt (d.length + ([(w64 ((z01.g a (b,c) 5).2 - 2))]:List Int).length) 1099511627776)) (
      kn (d ++ ([(w64 ((z01.g a (b,c) 5).2 - 2))]:List Int)) f h (w64 (i + 1)) a (z01.g a (b,c) 5).1.1 (z01.g a (b,c) 5).1.2 e j l m o p q) none)) none))
 (
  k2 d f h a b c e j l m o p q)
def Z19L {ρ:Type} (N:Nat) (k2:LI→I2 (List Int→I4 (LI→I4 (Option ρ)))):Nat→LI→Int→Int→Int→List Int→Int→Int→Int→Int→LI→Int→Int→Int→Int→Option ρ
 | 0,_,_,_,_,_,_,_,_,_,_,_,_,_,_=>none
 | M + 1,a,b,c,d,e,f,g,h,i,j,l,m,o,p=>Z20 N a b c d e f g h i j l m o p (fun a b c d e f g h i j l m o p=>Z19L N k2 M a b c d e f g h i j l m o p) k2
def Z19 N a b c d e f g h i j l m o p k2:=(Z19L N k2 N a b c d e f g h i j l m o p:Option ρ)
def Z18 N a b c d e f g h i j l m o p kn:=(Z19 N a b c d e f g h i j l m o p kn:Option ρ)
def Z16 N a b c d e f g h i j l m o kn:=(Z17 N a b c d e f g h i j l m o (fun a b c p d e f g h i j l m o=>Z18 N a b c p d e f g h i j l m o kn):Option ρ)
def Z21 {ρ:Type} (N:Nat) (a:LI) (b c:Int) (d:List Int) (e f g h:Int) (i:LI) (j l m o:Int) (kn:LI→I2 (List Int→I4 (LI→I4 (Option ρ)))):Option ρ :=
 kn a b c d e f g h i j l m (w64 (o + 1))
def Z15 N a b c d e f g h i j l m o kn:=(Z16 N a b c d e f g h i j l m o (fun a b c d e f g h i j l m o=>Z21 N a b c d e f g h i j l m o kn):Option ρ)
def Z14 N a b c d e f g h i j l m o kn:=(Z15 N a b c d e f g h i j l m o kn:Option ρ)
def Z22 {ρ:Type} (N:Nat) (a:LI) (b c:Int) (d:List Int) (e f g h:Int) (i:LI) (j l m o:Int) (kn:LI→I2 (List Int→I4 (LI→I4 (Option ρ)))):Option ρ :=
 kn a b (w64 (c + 1)) d e f g h i j l m o
def Z13 N a b c d e f g h i j l m o kn:=(Z14 N a b c d e f g h i j l m o (fun a b c d e f g h i j l m o=>Z22 N a b c d e f g h i j l m o kn):Option ρ)
def Z11 N a b c d e f g h i j l m o kn k0:=(Z12 N a b c d e f g h i j l m o (fun a b c d e f g h i j l m o=>Z13 N a b c d e f g h i j l m o kn) k0:Option ρ)
def Z10L {ρ:Type} (N:Nat) (k0:LI→I4 (List Int→I2 (Option ρ))):Nat→LI→Int→Int→List Int→Int→Int→Int→Int→LI→Int→Int→Int→Int→Option ρ
 | 0,_,_,_,_,_,_,_,_,_,_,_,_,_=>none
 | M + 1,a,b,c,d,e,f,g,h,i,j,l,m,o=>Z11 N a b c d e f g h i j l m o (fun a b c d e f g h i j l m o=>Z10L N k0 M a b c d e f g h i j l m o) k0
def Z10 N a b c d e f g h i j l m o k0:=(Z10L N k0 N a b c d e f g h i j l m o:Option ρ)
def Z9 N a b c d e f g h i j l m o kn:=(Z10 N a b c d e f g h i j l m o kn:Option ρ)
def Z7 N a b c d e f g h i j l m kn:=(Z8 N a b c d e f g h i j l m (fun a b o c d e f g h i j l m=>Z9 N a b o c d e f g h i j l m kn):Option ρ)
def Z23 {ρ:Type} (N:Nat) (a:LI) (g h b c:Int) (d:List Int) (e f:Int) (kr:LI→I2 (List Int→I2 (Option ρ))):Option ρ :=
 kr a b c d e f
def Z6 N a i b c d j l m e f g h kr:=(Z7 N a i b c d j l m e f g h (fun a e f g h b c d=>Z23 N a e f g h b c d kr):Option ρ)
def Z4 N a b c d e f g h i j l kr:=(Z5 N a b c d e f g h i j l (fun a m b c d e f g h i j l=>Z6 N a m b c d e f g h i j l kr):Option ρ)
def Z2 N a b c d e f g h kr:=(Z3 N a b c d e f g h (fun i a b c d e f g h j l=>Z4 N i a b c d e f g h j l kr):Option ρ)
def Z0 N b0 r0 a kr:=(Z1 N b0 r0 a (fun b c d e f g h i=>Z2 N b c d e f g h i kr):Option ρ)
def Spec:Prop:=∀ {U:Type} (u:U) (b0:List Int) (r0:Int × Int) (v1:MT),Ty.bd (.sl 0 (.int .u8)) b0→Ty.bd (.pair (.int .i64) (.pair (.int .i64) (.sl 0 (.int .i64)))) v1→P b0 r0 v1 = true→∃ N0,∀ N,N0≤N→Z0 N b0 r0 v1 (fun v4_2 v4_0 v4_1 w0_0 w0_1 w0_2=>some (u,((w0_1,w0_2),((),((v4_0,(v4_1,v4_2)),()))))) = some (u,((g b0 r0 v1).1,((),((g b0 r0 v1).2,()))))
theorem zqr {b:List Int}:∀ (n:Nat) {s:S},z2l b s.1 = true→z2l b (numsF b n s).1 = true∧(numsF b n s).2.length = s.2.length + n
 | 0,_,h=>⟨h,rfl⟩
 | n + 1,s,h=>by
  have:=zqr n (s:=numF b s) (z01.keep h)
  refine ⟨this.1,this.2.trans ?_⟩
  simp [numF]
  omega
theorem rows_ok {b:List Int} {n:Nat}:∀ (c:Nat) {s:S},z2l b s.1 = true→z2l b (rowsF b n c s).1 = true∧(rowsF b n c s).2.length = s.2.length + c * n
 | 0,_,h=>⟨h,by simp [rowsF]⟩
 | c + 1,s,h=>by
  have h1:=zqr n (s:=s) h
  have:=rows_ok (n:=n) c (s:=numsF b n s) h1.1
  refine ⟨this.1,this.2.trans ?_⟩
  rw [h1.2,Nat.succ_mul]
  omega
theorem keep {b:List Int} {r:Int × Int} {m:Int × Int × List Int} (h:z2l b r = true):z2l b (g b r m).1 = true:=(rows_ok (n:=m.1.toNat) _ (z01.keep h)).1
theorem dim {b:List Int} {r:Int × Int} {m:Int × Int × List Int} (h:z2l b r = true) (hd:z40 m = true) (h6:m.2.1≤6):z40 (g b r m).2 = true:=by
 obtain ⟨n,q,hn,hq,hn1,hn5,hnq,hq8,hl⟩:=z17 hd
 have hr:=z01.range (b:=b) (r:=r) (n:=3) (by omega) (by omega)
 have hl2:=(rows_ok (b:=b) (n:=m.1.toNat) (z01.g b r 3).2.toNat (s:=((z01.g b r 3).1,m.2.2)) (z01.keep h)).2
 obtain ⟨c,hc⟩:=Int.eq_ofNat_of_zero_le hr.1
 simp only [z40,Bool.and_eq_true,z3d,decide_eq_true_eq]
 refine ⟨by show 1≤m.1∧m.1≤5; omega,by show m.1≤m.2.1 + _∧m.2.1 + _≤8; omega, ?_⟩
 show ((res b r m).2.length:Int) = m.1 * (m.2.1 + (z01.g b r 3).2)
 unfold res
 rw [hl2,hc,hn,hq]
 show ((m.2.2.length + (c:Int).toNat * (n:Int).toNat:Nat):Int) = _
 rw [Int.toNat_natCast,Int.toNat_natCast,hl]
 have:(n:Int) * ((q:Int) + (c:Int)) = ((n * (q + c):Nat):Int):=by simp
 rw [this,Nat.mul_add,Nat.mul_comm n q,Nat.mul_comm n c]
theorem inner {ρ:Type} {N:Nat} {b:List Int} (kk:List Int→Int→Int→List Int→Int→Int→Int→Int→List Int→Int→Int→Int→Int→Option ρ) (cn i m1:Int) (m2:List Int) (t0 t1 o0 o1:Int) {n:Nat} (hn:n≤5):∀ (M j:Nat) (s:S),j≤n→z2l b s.1 = true→s.2.length + (n - j)≤1000→n - j < M →
  Z19L N kk M s.2 cn i (j:Int) b s.1.1 s.1.2 (n:Int) m1 m2 t0 t1 o0 o1 = kk (numsF b (n - j) s).2 cn i b (numsF b (n - j) s).1.1 (numsF b (n - j) s).1.2 (n:Int) m1 m2 t0 t1 o0 o1:=by
 intro M
 induction M with
 | zero=>intro j s _ _ _ h; omega
 | succ M ih =>
  intro j s hj hs hl hM
  simp only [Z19L,Z20]
  by_cases h:j < n
  ·have es:((s.1.1,s.1.2):Int × Int) = s.1:=rfl
   have hP:z01.P b s.1 5 = true:=hs
   have hr:=z01.range (b:=b) (r:=s.1) (n:=5) (by omega) (by omega)
   have w0:w64 ((z01.g b s.1 5).2 - 2) = (z01.g b s.1 5).2 - 2:=z1g (by omega) (by omega)
   have w1:w64 ((j:Int) + 1) = ((j + 1:Nat):Int):=z1c (by rw [z0z]; omega)
   have c1:Nat.blt (s.2.length + ([(z01.g b s.1 5).2 - 2]:List Int).length) 1099511627776 = true:=Nat.ble_eq_true_of_le (by rw [List.length_singleton]; omega)
   have ec:n - j = (n - (j + 1)) + 1:=by omega
   rw [ct (dt (by omega)),ec]
   simp only [z1x,es,hP,w0,w1,c1,cond_true,z3h]
   exact ih (j + 1) (numF b s) h (z01.keep hs) (by simp [numF]; omega) (by omega)
  ·rw [cf (df (by omega)),show n - j = 0 by omega]
   rfl
theorem outer {ρ:Type} {N:Nat} (hN:10≤N) {b:List Int} (kk:List Int→Int→Int→Int→Int→List Int→Int→Int→Option ρ) (m1:Int) (m2:List Int) (t0 t1 o0:Int) {n c:Nat} (hn:n≤5) (hc:c≤3):∀ (M i:Nat) (o:Int) (s:S),i≤c→z2l b s.1 = true→s.2.length + (c - i) * n≤1000→0≤o→o + ((c - i:Nat):Int)≤100→c - i < M →
  Z10L N kk M s.2 (c:Int) (i:Int) b s.1.1 s.1.2 (n:Int) m1 m2 t0 t1 o0 o = kk (rowsF b n (c - i) s).2 t0 t1 o0 (o + ((c - i:Nat):Int)) b (rowsF b n (c - i) s).1.1 (rowsF b n (c - i) s).1.2:=by
 intro M
 induction M with
 | zero=>intro i o s _ _ _ _ _ h; omega
 | succ M ih =>
  intro i o s hi hs hl ho1 ho2 hM
  simp only [Z10L,Z11,Z12]
  by_cases h:i < c
  ·have ec:c - i = (c - (i + 1)) + 1:=by omega
   rw [ec,Nat.succ_mul] at hl
   have hn2:=(zqr n (s:=s) hs)
   rw [ct (dt (by omega))]
   simp only [Z13,Z14,Z15,Z16,Z17,Z18,Z19]
   refine (inner _ (c:Int) (i:Int) m1 m2 t0 t1 o0 o hn N 0 s (Nat.zero_le _) hs (by omega) (by omega)).trans ?_
   simp only [Z21,Z22]
   have w1:w64 ((i:Int) + 1) = ((i + 1:Nat):Int):=z1c (by rw [z0z]; omega)
   have w2:w64 (o + 1) = o + 1:=z1g (by omega) (by omega)
   rw [Nat.sub_zero,w1,w2]
   refine (ih (i + 1) (o + 1) (numsF b n s) h hn2.1 (by rw [hn2.2]; omega) (by omega) (by omega) (by omega)).trans ?_
   rw [ec]
   have:o + 1 + ((c - (i + 1):Nat):Int) = o + ((c - (i + 1) + 1:Nat):Int):=by omega
   rw [this]
   rfl
  ·rw [cf (df (by omega)),show c - i = 0 by omega]
   simp [rowsF]
theorem ok:Spec:=fun u b r m hb hbm hp=>⟨10,fun N hN=>by
 simp only [P,Bool.and_eq_true,decide_eq_true_eq] at hp
 obtain ⟨h,hd,h6⟩:=hp
 obtain ⟨n,q,hn,hq,hn1,hn5,hnq,hq8,hl⟩:=z17 hd
 have hnq2:q * n≤8 * 5:=Nat.mul_le_mul hq8 hn5
 have h0:=z01.keep (n:=3) h
 have p0:z01.P b r 3 = true:=h
 have er:((r.1,r.2):Int × Int) = r:=rfl
 have em:((m.1,(m.2.1,m.2.2)):Int × Int × List Int) = m:=rfl
 have hr:=z01.range (b:=b) (r:=r) (n:=3) (by omega) (by omega)
 have pc:z0y.P m = true:=by
  simp only [z0y.P,z2n.P,decide_eq_true_eq]
  omega
 obtain ⟨c,hc⟩:=Int.eq_ofNat_of_zero_le hr.1
 have hcn:c * n≤3 * 5:=Nat.mul_le_mul (by omega) hn5
 simp only [Z0,Z1,Z2,Z3,z1x,em,pc,cond_true,Z4,Z5,er,p0,Z6,Z7,Z8,Z9,Z10]
 have key:=fun {ρ:Type} (kk:List Int→Int→Int→Int→Int→List Int→Int→Int→Option ρ)=>outer (ρ:=ρ) (N:=N) hN kk m.2.1 m.2.2 0 0 (n:Int) hn5 (c:=c) (by omega) N 0 m.2.1 ((z01.g b r 3).1,m.2.2) (Nat.zero_le _) h0 (by rw [Nat.sub_zero]; show m.2.2.length + c * n≤_; omega) (by omega) (by omega) (by omega)
 rw [← hn] at key
 rw [hc]
 refine (key _).trans ?_
 simp only [Z23,g,res]
 rw [hc,hn]
 rfl⟩
end z0e
end
end Go.Fw
namespace Go.Fw
theorem zt4 {b:List Int}:∀ (n:Nat) (s:z0e.S),∃ t:List Int,(z0e.numsF b n s).2 = s.2 ++ t∧∀ x ∈ t,-2≤x∧x≤2
 | 0,s=>⟨[],by simp [z0e.numsF],by simp⟩
 | n + 1,s=>by
  obtain ⟨t,h1,h2⟩:=zt4 n (z0e.numF b s)
  have hr:=z01.range (b:=b) (r:=s.1) (n:=5) (by omega) (by omega)
  refine ⟨((z01.g b s.1 5).2 - 2) :: t, ?_,fun x hx=>?_⟩
  ·show (z0e.numsF b n (z0e.numF b s)).2 = _
   rw [h1]
   simp [z0e.numF]
  ·rcases List.mem_cons.1 hx with rfl | hx
   ·omega
   ·exact h2 x hx
theorem zsx {b:List Int} {n:Nat}:∀ (c:Nat) (s:z0e.S),∃ t:List Int,(z0e.rowsF b n c s).2 = s.2 ++ t∧∀ x ∈ t,-2≤x∧x≤2
 | 0,s=>⟨[],by simp [z0e.rowsF],by simp⟩
 | c + 1,s=>by
  obtain ⟨t1,g1,g2⟩:=zt4 (b:=b) n s
  obtain ⟨t,h1,h2⟩:=zsx (b:=b) (n:=n) c (z0e.numsF b n s)
  refine ⟨t1 ++ t, ?_,fun x hx=>?_⟩
  ·show (z0e.rowsF b n c (z0e.numsF b n s)).2 = _
   rw [h1,g1,List.append_assoc]
  ·rcases List.mem_append.1 hx with hx | hx
   ·exact g2 x hx
   ·exact h2 x hx
theorem frozenD {b:List Int} {r:Int × Int} {m:Int × Int × List Int} {d:Nat→Int} (h:z2k m d) (hc:z2l b r = true) (h6:m.2.1≤6):z2k (z0e.g b r m).2 d:=by
 obtain ⟨t,h1,h2⟩:=zsx (b:=b) (n:=m.1.toNat) (z01.g b r 3).2.toNat ((z01.g b r 3).1,m.2.2)
 obtain ⟨n,q,hn,hq,hn1,hn5,hnq,hq8,hl⟩:=z17 h.dim
 have e:(z0e.g b r m).2.2.2 = m.2.2 ++ t:=h1
 have he:∀ {u v:Nat},u < m.1.toNat→v < m.1.toNat→ent (z0e.g b r m).2 u v = ent m u v:=fun {u v} hu hv=>by
  have:=z87 (n:=n) (r:=q) (i:=u) (j:=v) (by omega) (by omega)
  unfold ent
  rw [e]
  show (m.2.2 ++ t).getD (u * m.1.toNat + v) 0 = _
  rw [List.getD_eq_getElem?_getD,List.getElem?_append_left (by rw [show m.1.toNat = n by omega]; omega),← List.getD_eq_getElem?_getD]
 refine ⟨z43.2 ⟨z0e.dim hc h.dim h6,fun x hx=>?_⟩,fun u hu=>⟨(h.good u hu).1,fun v hv=>?_⟩⟩
 ·rw [e] at hx
  rcases List.mem_append.1 hx with hx | hx
  ·exact (z43.1 h.shaped).2 x hx
  ·have:=h2 x hx
   omega
 ·have hu:u < m.1.toNat:=hu
  have hv:v < m.1.toNat:=hv
  rw [he hu hv,he hv hu]
  exact (h.good u hu).2 v hv
end Go.Fw
namespace Go.Fw
theorem zjp {m:Int × Int × List Int} (hd:z40 m = true):z1l m = true↔∀ i,i < m.2.1.toNat→∀ j,j < m.1.toNat→-99≤ent m i j∧ent m i j≤99:=by
 obtain ⟨n,r,hn,hr,hn1,hn5,hnr,hr8,hl⟩:=z17 hd
 have e0:m.1.toNat = n:=by omega
 rw [z43]
 constructor
 ·rintro ⟨_,h⟩ i hi j hj
  have:=z87 (n:=n) (r:=r) (i:=i) (j:=j) (by omega) (by omega)
  refine h _ (z1m 0 ?_)
  rw [e0]; omega
 ·intro h
  refine ⟨hd,fun x hx=>?_⟩
  obtain ⟨p,hp,rfl⟩:=List.getElem_of_mem hx
  have hp2:p < r * n:=by omega
  have hi:p / n < r:=Nat.div_lt_of_lt_mul (by rw [Nat.mul_comm]; exact hp2)
  have hj:p % n < n:=Nat.mod_lt _ (by omega)
  have:=h (p / n) (by omega) (p % n) (by omega)
  have e:p / n * m.1.toNat + p % n = p:=by
   rw [e0,Nat.mul_comm]
   exact Nat.div_add_mod p n
  unfold ent at this
  rw [e] at this
  simpa only [List.getD_eq_getElem?_getD,List.getElem?_eq_getElem hp,Option.getD_some] using this
section
variable {m:Int × Int × List Int} {L:List Nat} (hd:z40 m = true) (h1:L.Nodup) (h2:∀ x ∈ L,x < m.1.toNat) (h3:L.length = m.1.toNat)
include hd h1 h2 h3
theorem zva:z1l (z6j m (z33 L)) = z1l m:=by
 obtain ⟨n,r,hn,hr,hn1,hn5,hnr,hr8,hl⟩:=z17 hd
 rw [Bool.eq_iff_iff,zjp (zcu _ hd),zjp hd]
 show (∀ i,i < m.2.1.toNat→∀ j,j < m.1.toNat→-99≤ent (z6j m (z33 L)) i j∧ent (z6j m (z33 L)) i j≤99)↔_
 constructor
 ·intro h i hi j hj
  have a1:=zqi (r:=m.2.1.toNat) h1 h2 h3 (by omega) hi
  have a2:=h2 _ (z1m (l:=L) (j:=j) 0 (by omega))
  have:=h _ a1 _ a2
  rw [z6f hd _ a1 a2,z42,zna h1 h2 h3,z5i h1 (by omega)] at this
  exact this
 ·intro h i hi j hj
  rw [z6f hd _ hi hj,z42]
  have:=(z3j (z37 h1 h2 h3 hj)).1
  exact h _ (zqj h1 h2 h3 (by omega) hi) _ (by omega)
theorem mut_ren {k:Nat} (hk:k < m.1.toNat):z6q (z6j m (z33 L)) (L.getD k 0) = z6j (z6q m k) (z33 L):=by
 obtain ⟨n,r,hn,hr,hn1,hn5,hnr,hr8,hl⟩:=z17 hd
 have hx:=h2 _ (z1m (l:=L) (j:=k) 0 (by omega))
 have dR:=zcu (z33 L) hd
 refine zlf (zaj dR _) rfl rfl (by simp [z6q,z6j]) fun p q hp hq=>?_
 have hp:p < m.2.1.toNat:=hp
 have hq:q < m.1.toNat:=hq
 have pq:=(z3j (z37 h1 h2 h3 hq))
 have bp:=zqj (r:=m.2.1.toNat) h1 h2 h3 (by omega) hp
 rw [z9d dR hp hq,z6f (zaj hd k) _ hp hq]
 show _ = ent (z6q m k) (ziy m.1.toNat ((z33 L).map Int.toNat) p) (zb8 ((z33 L).map Int.toNat) q)
 rw [z6f hd _ hp hq,z6f hd _ hp hx,z6f hd _ (by omega) hq,z42,z9d hd bp (by omega),z5i h1 (by omega)]
 have e1:ziy m.1.toNat L (L.getD k 0) = k:=by
  unfold ziy
  rw [if_pos hx,z5i h1 (by omega)]
 have e2:decide (p = L.getD k 0) = decide (ziy m.1.toNat L p = k):=by
  rw [decide_eq_decide]
  constructor
  ·intro e
   rw [e]; exact e1
  ·intro e
   have:=znb (p:=p) h1 h2 h3
   rw [e] at this
   unfold z9w at this
   rw [if_pos hk] at this
   exact this.symm
 have e3:decide (q = L.getD k 0) = decide (zb8 L q = k):=by
  rw [decide_eq_decide]
  constructor
  ·intro e
   rw [e,z5i h1 (by omega)]
  ·intro e
   rw [← e]; exact pq.2.symm
 rw [e1,e2,e3]
theorem zx7 (hsq:m.2.1 = m.1) {O:List Nat} (o1:O.Nodup) (o2:∀ x ∈ O,x < m.1.toNat) (o3:O.length = m.1.toNat) :
  z6j (z6j m (z33 L)) (z33 O) = z6j m (z33 (L.map fun x=>O.getD x 0)):=by
 obtain ⟨n,r,hn,hr,hn1,hn5,hnr,hr8,hl⟩:=z17 hd
 have dR:=zcu (z33 L) hd
 have n1:(L.map fun x=>O.getD x 0).Nodup:=by
  refine List.pairwise_map.2 (h1.imp_of_mem fun {a b} ha hb hne e=>hne ?_)
  exact z60 o1 (by have:=h2 a ha; omega) (by have:=h2 b hb; omega) e
 have n2:∀ x ∈ L.map fun x=>O.getD x 0,x < m.1.toNat:=fun x hx=>by
  obtain ⟨y,hy,rfl⟩:=List.mem_map.1 hx
  have:=h2 y hy
  exact o2 _ (z1m 0 (by omega))
 have n3:(L.map fun x=>O.getD x 0).length = m.1.toNat:=by simpa using h3
 have key:∀ p,p < m.1.toNat→zb8 (L.map fun x=>O.getD x 0) p = zb8 L (zb8 O p):=fun p hp=>by
  have a1:=z3j (z37 o1 o2 o3 hp)
  have a2:=z3j (z37 h1 h2 h3 (show zb8 O p < m.1.toNat by omega))
  have e:(L.map fun x=>O.getD x 0).getD (zb8 L (zb8 O p)) 0 = p:=by
   rw [List.getD_eq_getElem?_getD,List.getElem?_map,List.getElem?_eq_getElem a2.1]
   have:=a2.2
   rw [List.getD_eq_getElem?_getD,List.getElem?_eq_getElem a2.1,Option.getD_some] at this
   show O.getD (L[zb8 L (zb8 O p)]) 0 = p
   rw [this]; exact a1.2
  have:=z5i n1 (j:=zb8 L (zb8 O p)) (by rw [List.length_map]; exact a2.1)
  rw [e] at this
  exact this
 refine zlf (zcu _ dR) rfl rfl (by simp [z6j]) fun p q hp hq=>?_
 have hp:p < m.1.toNat:=by have:p < m.2.1.toNat:=hp; omega
 have hq:q < m.1.toNat:=hq
 have ap:=(z3j (z37 o1 o2 o3 hp)).1
 have aq:=(z3j (z37 o1 o2 o3 hq)).1
 have e1:=z6f dR (z33 O) (p:=p) (q:=q) (show p < m.2.1.toNat by omega) hq
 refine e1.trans ?_
 show ent (z6j m (z33 L)) (ziy m.1.toNat ((z33 O).map Int.toNat) p) (zb8 ((z33 O).map Int.toNat) q) = _
 rw [z42,z6f hd _ (show p < m.2.1.toNat by omega) hq,z42]
 unfold ziy
 rw [if_pos hp,if_pos hp,z6f hd _ (by omega) (by omega),z42,key p hp,key q hq]
 unfold ziy
 rw [if_pos (by omega)]
end
theorem zle {n:Nat}:∀ (g:List Nat) (f:List Int),g.Nodup→(∀ x ∈ g,x < n∧(x:Int) ∉ f)→f ++ z33 g ∈ zla n g.length f
 | [],f,_,_=>by simp [zla,z33]
 | x :: g,f,hn,h=>by
  obtain ⟨h1,h2⟩:=List.nodup_cons.1 hn
  obtain ⟨h3,h4⟩:=h x List.mem_cons_self
  rw [List.length_cons,zla,List.mem_flatMap]
  refine ⟨x,List.mem_range.2 h3, ?_⟩
  have:(f.any fun y=>decide (y = ((x:Nat):Int))) = false:=by
   rw [List.any_eq_false]
   intro y hy
   simp only [decide_eq_true_eq]
   exact fun e=>h4 (e ▸ hy)
  rw [this,cond_false]
  have ih:=zle g (f ++ [(x:Int)]) h2 (fun y hy=>by
   obtain ⟨k1,k2⟩:=h y (List.mem_cons_of_mem _ hy)
   refine ⟨k1,fun hm=>?_⟩
   rcases List.mem_append.1 hm with hm | hm
   ·exact k2 hm
   ·have:(y:Int) = (x:Int):=List.mem_singleton.1 hm
    exact h1 (by rw [show x = y by omega]; exact hy))
  rw [List.append_assoc] at ih
  exact ih
theorem minL_img {f f':List Int→List Int} {os:List (List Int)} {b b':List Int} (h:∀ o ∈ os,∃ o' ∈ os,f' o = f o') (h':∀ o ∈ os,∃ o' ∈ os,f o = f' o') (hb:∃ o ∈ os,b = f o) (hb':∃ o ∈ os,b' = f' o):ze7 f b os = ze7 f' b' os:=by
 have im:∀ {f:List Int→List Int} {b:List Int},(∃ o ∈ os,b = f o)→∃ o ∈ os,ze7 f b os = f o:=fun {f b} hb=>by
  rcases zgb f os b with e | e
  ·rw [e]; exact hb
  ·exact e
 obtain ⟨o1,g1,e1⟩:=im hb
 obtain ⟨o2,g2,e2⟩:=im hb'
 obtain ⟨o3,g3,e3⟩:=h' o1 g1
 obtain ⟨o4,g4,e4⟩:=h o2 g2
 refine zdi ?_ ?_
 ·rw [e1,e3]
  exact (zld f' os b').2 o3 g3
 ·rw [e2,e4]
  exact (zld f os b).2 o4 g4
theorem can_ren {m:Int × Int × List Int} (hd:z40 m = true) (hsq:m.2.1 = m.1) {names:List Int} (hn:z49 names m.1 = true):zwi (z6j m names) = zwi m:=by
 obtain ⟨n,r,en,hr,hn1,hn5,hnr,hr8,hl⟩:=z17 hd
 have e1:m.1.toNat = n:=by omega
 obtain ⟨L,rfl,h1,h2,h3⟩:=z6d hn
 have dR:=zcu (z33 L) hd
 have nm:∀ {o:List Int},o ∈ zla n n []→∃ O:List Nat,o = z33 O∧O.Nodup∧(∀ x ∈ O,x < m.1.toNat)∧O.length = m.1.toNat:=fun {o} ho=>by
  have:=zh0 hn5 ((zl9 hn5 o).2 ho)
  rw [← en] at this
  exact z6d this
 have nmo:∀ {O:List Nat},O.Nodup→(∀ x ∈ O,x < m.1.toNat)→O.length = m.1.toNat→z33 O ∈ zla n n []:=fun {O} a1 a2 a3=>by
  have:=zle (n:=n) O [] a1 (fun x hx=>⟨by have:=a2 x hx; omega,by simp⟩)
  rw [a3,e1] at this
  simpa using this
 have hid:(List.range n).map Int.ofNat ∈ zla n n []:=(zl9 hn5 _).1 (zxp hn5)
 have r1:=zx8 hd hsq
 have r2:=zx8 dR (show (z6j m (z33 L)).2.1 = (z6j m (z33 L)).1 from hsq)
 rw [e1] at r1
 rw [show (z6j m (z33 L)).1.toNat = n from e1] at r2
 unfold zwi
 show ((m.1,m.2.1,ze7 (zb7 (z6j m (z33 L))) (z6j m (z33 L)).2.2 (zla m.1.toNat m.1.toNat [])):Int × Int × List Int) = (m.1,m.2.1,ze7 (zb7 m) m.2.2 (zla m.1.toNat m.1.toNat []))
 rw [e1]
 refine congrArg (fun z=>(m.1,m.2.1,z)) (minL_img (fun o ho=>?_) (fun o ho=>?_) ⟨_,hid,by unfold zb7; rw [r2]⟩ ⟨_,hid,by unfold zb7; rw [r1]⟩)
 ·obtain ⟨O,rfl,o1,o2,o3⟩:=nm ho
  let K:List Nat:=(List.range n).map fun p=>O.getD (zb8 L p) 0
  have k3:K.length = m.1.toNat:=by simp [K,e1]
  have kg:∀ p,p < n→K.getD p 0 = O.getD (zb8 L p) 0:=fun p hp=>by
   show ((List.range n).map fun p=>O.getD (zb8 L p) 0).getD p 0 = _
   rw [List.getD_eq_getElem?_getD,List.getElem?_map,List.getElem?_range hp]; rfl
  have k1:K.Nodup:=by
   refine List.pairwise_map.2 (List.Pairwise.imp_of_mem (fun {a b} ha hb hne e=>hne ?_) List.nodup_range)
   have ha:=List.mem_range.1 ha
   have hb:=List.mem_range.1 hb
   have pa:=z3j (z37 h1 h2 h3 (show a < m.1.toNat by omega))
   have pb:=z3j (z37 h1 h2 h3 (show b < m.1.toNat by omega))
   have:=z60 o1 (by omega) (by omega) e
   rw [← pa.2,← pb.2,this]
  have k2:∀ x ∈ K,x < m.1.toNat:=fun x hx=>by
   obtain ⟨p,hp,rfl⟩:=List.mem_map.1 hx
   have hp:=List.mem_range.1 hp
   have pa:=z3j (z37 h1 h2 h3 (show p < m.1.toNat by omega))
   exact o2 _ (z1m 0 (by omega))
  refine ⟨z33 K,nmo k1 k2 k3, ?_⟩
  unfold zb7
  rw [zx7 hd h1 h2 h3 hsq k1 k2 k3]
  have:(L.map fun x=>K.getD x 0) = O:=by
   apply List.ext_getElem (by simp; omega)
   intro i hi hi'
   have hi2:i < L.length:=by simpa using hi
   rw [List.getElem_map]
   have hlt:=h2 _ (List.getElem_mem hi2)
   rw [kg _ (by omega)]
   have:zb8 L L[i] = i:=by
    have:=z5i h1 hi2
    rwa [List.getD_eq_getElem?_getD,List.getElem?_eq_getElem hi2,Option.getD_some] at this
   rw [this,List.getD_eq_getElem?_getD,List.getElem?_eq_getElem hi',Option.getD_some]
  rw [this]
 ·obtain ⟨O,rfl,o1,o2,o3⟩:=nm ho
  refine ⟨z33 (L.map fun x=>O.getD x 0),nmo ?_ ?_ (by simpa using h3), ?_⟩
  ·refine List.pairwise_map.2 (h1.imp_of_mem fun {a b} ha hb hne e=>hne ?_)
   exact z60 o1 (by have:=h2 a ha; omega) (by have:=h2 b hb; omega) e
  ·intro x hx
   obtain ⟨y,hy,rfl⟩:=List.mem_map.1 hx
   have:=h2 y hy
   exact o2 _ (z1m 0 (by omega))
  ·unfold zb7
   rw [zx7 hd h1 h2 h3 hsq o1 o2 o3]
theorem zb1 {m:Int × Int × List Int} (hd:z40 m = true) {i j:Nat} (hi:i < m.1.toNat) (hj:j < m.1.toNat):ent (z3l m) i j = ent m i j:=by
 obtain ⟨n,r,hn,hr,hn1,hn5,hnr,hr8,hl⟩:=z17 hd
 have e0:m.1.toNat = n:=by omega
 have e1:(m.1 * m.1).toNat = n * n:=by rw [hn]; norm_cast
 have:=z87 (n:=n) (r:=n) (i:=i) (j:=j) (by omega) (by omega)
 unfold ent z3l
 show (m.2.2.take (m.1 * m.1).toNat).getD (i * m.1.toNat + j) 0 = _
 rw [e1,List.getD_eq_getElem?_getD,List.getElem?_take,if_pos (by rw [e0]; omega),← List.getD_eq_getElem?_getD]
theorem zet {m:Int × Int × List Int} (hd:z40 m = true):z40 (z3l m) = true:=by
 obtain ⟨n,r,hn,hr,hn1,hn5,hnr,hr8,hl⟩:=z17 hd
 have e1:(m.1 * m.1).toNat = n * n:=by rw [hn]; norm_cast
 have h2:n * n≤r * n:=Nat.mul_le_mul_right n hnr
 have h3:((z3l m).2.2.length:Int) = m.1 * m.1:=by
  show ((m.2.2.take (m.1 * m.1).toNat).length:Int) = m.1 * m.1
  rw [e1,List.length_take,hl,Nat.min_eq_left h2,hn]
  norm_cast
 simp only [z40,Bool.and_eq_true,z3d,decide_eq_true_eq]
 exact ⟨by show 1≤m.1∧m.1≤5; omega,by show m.1≤m.1∧m.1≤8; omega,h3⟩
theorem z2k.square {m:Int × Int × List Int} {d:Nat→Int} (h:z2k m d):z2k (z3l m) d:=by
 refine ⟨z43.2 ⟨zet h.dim,fun x hx=>(z43.1 h.shaped).2 x (List.mem_of_mem_take hx)⟩,fun u hu=>⟨(h.good u hu).1,fun v hv=>?_⟩⟩
 rw [zb1 h.dim hu hv,zb1 h.dim hv hu]
 exact (h.good u hu).2 v hv
theorem zv8 {m:Int × Int × List Int} (hd:z40 m = true) {names:List Int} (hn:z49 names m.1 = true):z3l (z6j m names) = z6j (z3l m) names:=by
 obtain ⟨n,r,en,hr,hn1,hn5,hnr,hr8,hl⟩:=z17 hd
 obtain ⟨L,rfl,h1,h2,h3⟩:=z6d hn
 have dR:=zcu (z33 L) hd
 refine zlf (zet dR) rfl rfl (by simp [z3l,z6j]) fun p q hp hq=>?_
 have hp:p < m.1.toNat:=hp
 have hq:q < m.1.toNat:=hq
 have ap:=(z3j (z37 h1 h2 h3 hp)).1
 have aq:=(z3j (z37 h1 h2 h3 hq)).1
 rw [zb1 dR hp hq,z6f hd _ (by omega) hq]
 refine Eq.trans ?_ (z6f (zet hd) (z33 L) (p:=p) (q:=q) (show p < m.1.toNat from hp) hq).symm
 show _ = ent (z3l m) (ziy m.1.toNat ((z33 L).map Int.toNat) p) (zb8 ((z33 L).map Int.toNat) q)
 rw [z42]
 unfold ziy
 rw [if_pos hp,zb1 hd (by omega) (by omega)]
end Go.Fw
namespace Go.Fw
theorem acy_ren {m:Int × Int × List Int} {d:Nat→Int} (h:z2k m d) {names:List Int} (hn:z49 names m.1 = true):Acy m.1.toNat (z7w (z6j m names))↔Acy m.1.toNat (z7w m):=by
 obtain ⟨L,rfl,h1,h2,h3⟩:=z6d hn
 have hd:=h.dim
 obtain ⟨n,r,en,hr,hn1,hn5,hnr,hr8,hl⟩:=z17 hd
 have key:∀ {u v:Nat},u < m.1.toNat→v < m.1.toNat→z7w (z6j m (z33 L)) u v = z7w m (zb8 L u) (zb8 L v):=fun {u v} hu hv=>by
  unfold z7w
  rw [z6f hd _ (by omega) hv,z42]
  unfold ziy
  rw [if_pos hu]
 constructor
 ·rintro ⟨f,hf⟩
  refine ⟨fun x=>f (L.getD x 0),fun u v hu hv he=>?_⟩
  have g1:=h2 _ (z1m (l:=L) (j:=u) 0 (by omega))
  have g2:=h2 _ (z1m (l:=L) (j:=v) 0 (by omega))
  refine hf _ _ g1 g2 ?_
  rw [key g1 g2,z5i h1 (by omega),z5i h1 (by omega)]
  exact he
 ·rintro ⟨f,hf⟩
  refine ⟨fun x=>f (zb8 L x),fun u v hu hv he=>?_⟩
  rw [key hu hv] at he
  have g1:=(z3j (z37 h1 h2 h3 hu)).1
  have g2:=(z3j (z37 h1 h2 h3 hv)).1
  exact hf _ _ (by omega) (by omega) he
end Go.Fw
namespace Go.Fw
section
variable {ρ:Type}
namespace z2o
def g (n low high:Int):Bool:=inK n low high
end z2o
namespace z2o
def Z0 {ρ:Type} (N:Nat) (a b c:Int) (kr:Bool→Option ρ):Option ρ :=
 cond (lk N (decide (b≤a)))
 (
  kr (lk N (decide (a≤c))))
 (
  kr false)
def Spec:Prop:=∀  (v0 v1 v2:Int),∃ N0,∀ N,N0≤N→Z0 N v0 v1 v2 (fun v6=>some ((),(v6,()))) = some ((),((g v0 v1 v2),()))
theorem ok:Spec:=fun n low high=>⟨0,fun N hN=>by
 simp only [Z0,z1x,g,inK]
 cases decide (low≤n) <;> rfl⟩
end z2o
end
end Go.Fw
namespace Go.Fw
section
variable {ρ:Type}
namespace z27
def g (x:Int):Bool:=!inK x (-99) 99
end z27
namespace z27
def Z0 {ρ:Type} (N:Nat) (a:Int) (kr:Bool→Option ρ):Option ρ :=
 kr (!(lk N ((z2o.g a (-99) 99))))
def Spec:Prop:=∀  (v0:Int),∃ N0,∀ N,N0≤N→Z0 N v0 (fun v2=>some ((),(v2,()))) = some ((),((g v0),()))
theorem ok:Spec:=fun n=>⟨0,fun N hN=>by
 simp only [Z0,g,z1x,z2o.g]⟩
end z27
end
end Go.Fw
namespace Go.Fw
section
variable {ρ:Type}
namespace z0b
def go (p:Int→Bool):List Int→Nat→Int
 | [],_=>-1
 | x :: xs,j=>if p x = true then (j:Int) else go p xs (j + 1)
def g (s:List Int) (_:Unit):Int:=go z27.g s 0
end z0b
namespace z0b
def Z1 {ρ:Type} (N:Nat) (a:LI) (b:Unit) (kn:LI→Option ρ):Option ρ :=
 kn a
def Z4 {ρ:Type} (N:Nat) (a:LI) (kn:LI→I2 (Option ρ)):Option ρ :=
 kn a (a.length:Int) 0
def Z7 {ρ:Type} (N:Nat) (b:LI) (c a:Int) (kn:LI→I2 (Option ρ)) (k0:Option ρ) (kr:Int→Option ρ):Option ρ :=
 cond (lk N (decide (a < c)))
 (
  cond (lk N (inB a b.length)) (
   cond (lk N ((z27.g (b.getD a.toNat 0))))
   (
    kr a)
   (
    kn b c (w64 (a + 1)))) none)
 (
  k0)
def Z6L {ρ:Type} (N:Nat) (k0:Option ρ) (kr:Int→Option ρ):Nat→LI→Int→Int→Option ρ
 | 0,_,_,_=>none
 | M + 1,a,b,c=>Z7 N a b c (fun a b c=>Z6L N k0 kr M a b c) k0 kr
def Z6 N a b c k0 kr:=(Z6L N k0 kr N a b c:Option ρ)
def Z5 N a b c kn kr:=(Z6 N a b c kn kr:Option ρ)
def Z3 N a kn kr:=(Z4 N a (fun a b c=>Z5 N a b c kn kr):Option ρ)
def Z8 {ρ:Type} (N:Nat)  (kr:Int→Option ρ):Option ρ :=
 kr (-1)
def Z2 N a kr:=(Z3 N a (Z8 N kr) kr:Option ρ)
def Z0 N a b kr:=(Z1 N a b (fun a=>Z2 N a kr):Option ρ)
def Spec:Prop:=∀  (v0:LI) (v1:Unit),Ty.bd (.sl 0 (.int .i64)) v0→∃ N0,∀ N,N0≤N→Z0 N v0 v1 (fun v4=>some ((),(v4,()))) = some ((),((g v0 v1),()))
theorem loop {ρ:Type} (N:Nat) (kr:Int→Option ρ) (a:List Int) (ha:a.length≤maxLen):∀ (M j:Nat),j≤a.length→a.length - j < M →
  Z6L N (kr (-1)) kr M a (a.length:Int) (j:Int) = kr (go z27.g (a.drop j) j):=by
 intro M
 induction M with
 | zero=>intro j _ h; omega
 | succ M ih =>
  intro j hj hM
  simp only [Z6L,Z7]
  by_cases h:j < a.length
  ·rw [ct (dt (by omega)),ct (z1b h),Int.toNat_natCast,z1c (by omega),ih (j + 1) h (by omega),z3z 0 h,go]
   cases e:z27.g (a.getD j 0)
   ·rw [cf rfl,if_neg (by simp)]
   ·rw [ct rfl,if_pos rfl]
  ·rw [cf (df (by omega)),List.drop_of_length_le (by omega),go]
theorem ok:Spec:=fun a _ ha=>⟨a.length + 1,fun N hN=>by
 simp only [Z1,Z4,Z7,Z6,Z5,Z3,Z8,Z2,Z0]
 exact (loop N (fun t=>some ((),(t,()))) a ha.1 N 0 (by omega) (by omega)).trans rfl⟩
theorem go_pos (p:Int→Bool):∀ (l:List Int) (j:Nat),0≤go p l j↔∃ x ∈ l,p x = true
 | [],j=>by simp [go]
 | x :: xs,j=>by
  rw [go]
  by_cases h:p x = true
  ·rw [if_pos h]; simp [h]
  ·rw [if_neg h,go_pos p xs]; simp [h]
end z0b
end
end Go.Fw
namespace Go.Fw
section
variable {ρ:Type}
namespace z10
def g (s:List Int) (_:Unit):Bool:=s.any z27.g
end z10
namespace z10
def Z0 {ρ:Type} (N:Nat) (a:LI) (b:Unit) (kr:Bool→Option ρ):Option ρ :=
 kr (lk N (decide (0≤(z0b.g a ()))))
def Spec:Prop:=∀  (v0:LI) (v1:Unit),Ty.bd (.sl 0 (.int .i64)) v0→∃ N0,∀ N,N0≤N→Z0 N v0 v1 (fun v4=>some ((),(v4,()))) = some ((),((g v0 v1),()))
theorem ok:Spec:=fun a _ ha=>⟨0,fun N hN=>by
 simp only [Z0,z1x,g]
 have:=(show 0≤z0b.g a ()↔∃ x ∈ a,z27.g x = true from z0b.go_pos z27.g a 0)
 cases e:a.any z27.g
 ·rw [df (fun h=>by have:=this.1 h; rw [← List.any_eq_true,e] at this; cases this)]
 ·rw [dt (this.2 (List.any_eq_true.1 e))]⟩
end z10
end
end Go.Fw
namespace Go.Fw
section
variable {ρ:Type}
namespace z46
def g (m:Int × Int × List Int):Bool:=z1l m
end z46
namespace z46
def Z0 {ρ:Type} (N:Nat) (a:MT) (kr:Bool→Option ρ):Option ρ :=
 cond (lk N ((z2o.g a.1 1 5)))
 (
  cond (lk N ((z2o.g a.2.1 a.1 8)))
  (
   cond (lk N (decide ((a.2.2.length:Int) = (w64 (a.1 * a.2.1)))))
   (
    kr (!(lk N ((z10.g a.2.2 ())))))
   (
    kr false))
  (
   kr false))
 (
  kr false)
def Spec:Prop:=∀  (v0:MT),Ty.bd (.pair (.int .i64) (.pair (.int .i64) (.sl 0 (.int .i64)))) v0→∃ N0,∀ N,N0≤N→Z0 N v0 (fun v2=>some ((),(v2,()))) = some ((),((g v0),()))
theorem ok:Spec:=fun m hb=>⟨0,fun N hN=>by
 simp only [Z0,g,z1x,z2o.g,z1l,z40,z10.g,List.not_any_eq_all_not,entK]
 cases h1:inK m.1 1 5
 ·rfl
 cases h2:inK m.2.1 m.1 8
 ·rfl
 have e1:=z3d.1 h1
 have e2:=z3d.1 h2
 have e3:0≤m.1 * m.2.1:=Int.mul_nonneg (by omega) (by omega)
 have e4:m.1 * m.2.1≤5 * 8:=Int.mul_le_mul (by omega) (by omega) (by omega) (by omega)
 rw [z1g (by omega) (by omega)]
 cases h3:decide ((m.2.2.length:Int) = m.1 * m.2.1)
 ·rfl
 simp [z27.g]⟩
end z46
end
end Go.Fw
namespace Go.Fw
section
variable {ρ:Type}
namespace z13
def P (m:Int × Int × List Int) (i j:Int):Bool:=atP m i j
def g (m:Int × Int × List Int) (i j:Int):Int:=atK m i j
end z13
namespace z13
def Z0 {ρ:Type} (N:Nat) (a:MT) (b c:Int) (kr:Int→Option ρ):Option ρ :=
 cond (lk N (inB (w64 ((w64 (b * a.1)) + c)) a.2.2.length)) (
  kr (a.2.2.getD (w64 ((w64 (b * a.1)) + c)).toNat 0)) none
def Spec:Prop:=∀  (v0:MT) (v1 v2:Int),Ty.bd (.pair (.int .i64) (.pair (.int .i64) (.sl 0 (.int .i64)))) v0→P v0 v1 v2 = true→∃ N0,∀ N,N0≤N→Z0 N v0 v1 v2 (fun v6=>some ((),(v6,()))) = some ((),((g v0 v1 v2),()))
theorem ok:Spec:=fun m i j hb hp=>⟨0,fun N hN=>by
 obtain ⟨h1,h2,h3⟩:=zut hb.2.2.1 hp
 simp only [Z0,g,atK,h1]
 rw [ct (zyh h2 h3)]⟩
end z13
end
end Go.Fw
namespace Go.Fw
section
variable {ρ:Type}
namespace z29
def P (a b:Int):Bool:=decide (0≤a) && (decide (a < 9223372036854775808) && (decide (0≤b) && decide (b < 9223372036854775808)))
def g (a b:Int):Int:=(Int.gcd a b:Int)
end z29
namespace z29
def Z1 {ρ:Type} (N:Nat) (a b:Int) (kn:I2 (Option ρ)):Option ρ :=
 kn a b
def Z5 {ρ:Type} (N:Nat) (b a:Int) (kn:I2 (Option ρ)) (k0:Int→Option ρ):Option ρ :=
 cond (lk N (!(decide (a = 0))))
 (
  cond (lk N (!(decide (a = 0)))) (
   kn a (Int.tmod b a)) none)
 (
  k0 b)
def Z4L {ρ:Type} (N:Nat) (k0:Int→Option ρ):Nat→Int→Int→Option ρ
 | 0,_,_=>none
 | M + 1,a,b=>Z5 N a b (fun a b=>Z4L N k0 M a b) k0
def Z4 N a b k0:=(Z4L N k0 N a b:Option ρ)
def Z3 N a b kn:=(Z4 N a b kn:Option ρ)
def Z6 {ρ:Type} (N:Nat) (a:Int) (kr:Int→Option ρ):Option ρ :=
 kr (mx a (w64 (0 - a)))
def Z2 N a b kr:=(Z3 N a b (fun a=>Z6 N a kr):Option ρ)
def Z0 N a b kr:=(Z1 N a b (fun a b=>Z2 N a b kr):Option ρ)
def Spec:Prop:=∀  (v0 v1:Int),P v0 v1 = true→∃ N0,∀ N,N0≤N→Z0 N v0 v1 (fun v4=>some ((),(v4,()))) = some ((),((g v0 v1),()))
theorem loop {ρ:Type} (N:Nat) (k0:Int→Option ρ):∀ (M:Nat) (a b:Nat),b < M→Z4L N k0 M (a:Int) (b:Int) = k0 (Nat.gcd b a:Nat):=by
 intro M
 induction M with
 | zero=>intro a b h; omega
 | succ M ih =>
  intro a b hM
  simp only [Z4L,Z5]
  by_cases h:b = 0
  ·subst h
   rw [cf (by simp),Nat.gcd_zero_left]
  ·rw [ct (nt (by omega)),ct (nt (by omega)),show Int.tmod (a:Int) (b:Int) = ((a % b:Nat):Int) from rfl,ih _ _ (by have:=Nat.mod_lt a (Nat.pos_of_ne_zero h); omega),← Nat.gcd_rec]
theorem ok:Spec:=fun a b hp=>⟨b.toNat + 1,fun N hN=>by
 simp only [P,Bool.and_eq_true,decide_eq_true_eq] at hp
 obtain ⟨h1,h2,h3,h4⟩:=hp
 obtain ⟨x,rfl⟩:=Int.eq_ofNat_of_zero_le h1
 obtain ⟨y,rfl⟩:=Int.eq_ofNat_of_zero_le h3
 simp only [Z1,Z5,Z4,Z3,Z6,Z2,Z0,g]
 rw [loop N _ N x y (by omega),Nat.gcd_comm]
 have hl:Nat.gcd x y≤max x y:=by
  rcases Nat.eq_zero_or_pos x with h | h
  ·subst h; rw [Nat.gcd_zero_left]; omega
  ·have:=Nat.gcd_le_left y h; omega
 show some ((),(mx ((Nat.gcd x y:Nat):Int) (w64 (0 - ((Nat.gcd x y:Nat):Int))),())) = some ((),(((Nat.gcd x y:Nat):Int),()))
 rw [z1g (by omega) (by omega),mx_eq]
 congr 3
 omega⟩
end z29
end
end Go.Fw
namespace Go.Fw
section
variable {ρ:Type}
namespace z02
def P (m:Int × Int × List Int):Bool:=z1l m
abbrev g (m:Int × Int × List Int):List Int:=z6h m
end z02
namespace z02
def Z1 {ρ:Type} (N:Nat) (a:MT) (kn:I2 (LI→Option ρ)):Option ρ :=
 kn a.1 a.2.1 a.2.2
def Z3 {ρ:Type} (N:Nat) (a b:Int) (c:LI) (kn:LI→LI→I2 (LI→Option ρ)):Option ρ :=
 bo (
  cond (lk N (leB 0 a && decide (a < 1099511627776))) (
   cond (lk N (leB 0 a && decide (a < 1099511627776))) (
    kn (List.replicate a.toNat (0:Int)) (List.replicate a.toNat (0:Int)) a b c) none) none)
def Z5 {ρ:Type} (N:Nat) (b c:LI) (a d:Int) (e:LI) (kn:LI→LI→LI→I2 (LI→Option ρ)):Option ρ :=
 cond (lk N (leB 0 a && decide (a < 1099511627776))) (
  kn b c (List.replicate a.toNat (0:Int)) a d e) none
def Z8 {ρ:Type} (N:Nat) (a b c:LI) (d e:Int) (f:LI) (kn:LI→LI→LI→I4 (LI→Option ρ)):Option ρ :=
 kn a b c (a.length:Int) 0 d e f
def Z12 {ρ:Type} (N:Nat) (c d e:LI) (a b f g:Int) (h:LI) (kn:LI→LI→LI→I2 (Bool→I2 (LI→Option ρ))):Option ρ :=
 kn c d e a b (lk N (decide (b < a))) f g h
def Z14 {ρ:Type} (N:Nat) (b c a:LI) (d e:Int) (f:Bool) (g h:Int) (i:LI) (kn:LI→LI→LI→I4 (LI→Option ρ)) (k0:LI→Option ρ):Option ρ :=
 cond (f)
 (
  kn b c a d e g h i)
 (
  k0 a)
def Z18 {ρ:Type} (N:Nat) (b c d:LI) (e a f g:Int) (h:LI) (kn:LI→LI→LI→I5 (LI→Option ρ)):Option ρ :=
 kn b c d a e a f g h
def Z20 {ρ:Type} (N:Nat) (a c d:LI) (b e f g h:Int) (i:LI) (kn:LI→LI→LI→I5 (LI→Option ρ)) (k1:LI→LI→LI→I4 (LI→Option ρ)):Option ρ :=
 cond (lk N (inB b a.length)) (
  cond (lk N (!(decide ((a.getD b.toNat 0) = 0))))
  (
   k1 a c d e f g h i)
  (
   kn a c d b e f g h i)) none
def Z22 {ρ:Type} (N:Nat) (b c d:LI) (a e f g h:Int) (i:LI) (kn:LI→LI→LI→I5 (LI→Option ρ)):Option ρ :=
 cond (lk N (inB a b.length)) (
  cond (lk N (inB a c.length)) (
   kn (b.set a.toNat 1) (c.set a.toNat 1) d a e f g h i) none) none
def Z24 {ρ:Type} (N:Nat) (a b c:LI) (d e f g h:Int) (i:LI) (kn:LI→LI→LI→LI→I4 (LI→Option ρ)):Option ρ :=
 kn a b c ([d]:List Int) e f g h i
def Z27 {ρ:Type} (N:Nat) (a b c d:LI) (e f g h:Int) (i:LI) (kn:LI→LI→LI→LI→I5 (LI→Option ρ)):Option ρ :=
 kn a b c d 0 e f g h i
def Z31 {ρ:Type} (N:Nat) (b c d a:LI) (e f g h i:Int) (j:LI) (kn:LI→LI→LI→LI→I5 (LI→Option ρ)) (k2:LI→LI→LI→LI→I4 (LI→Option ρ)):Option ρ :=
 cond (lk N (decide (e < (a.length:Int))))
 (
  kn b c d a e f g h i j)
 (
  k2 b c d a f g h i j)
def Z35 {ρ:Type} (N:Nat) (c d e a:LI) (b f g h i:Int) (j:LI) (kn:LI→LI→LI→LI→I6 (LI→Option ρ)):Option ρ :=
 cond (lk N (inB b a.length)) (
  kn c d e a b (a.getD b.toNat 0) f g h i j) none
def Z37 {ρ:Type} (N:Nat) (a b c d:LI) (e f g h i j:Int) (l:LI) (kn:LI→LI→LI→LI→I8 (LI→Option ρ)):Option ρ :=
 kn a b c d e f g h (a.length:Int) 0 i j l
def Z41 {ρ:Type} (N:Nat) (c d e f:LI) (g h i j a b l m:Int) (o:LI) (kn:LI→LI→LI→LI→I6 (Bool→I2 (LI→Option ρ))):Option ρ :=
 kn c d e f g h i j a b (lk N (decide (b < a))) l m o
def Z43 {ρ:Type} (N:Nat) (a b c d:LI) (e l f g m o:Int) (p:Bool) (h i:Int) (j:LI) (kn:LI→LI→LI→LI→I8 (LI→Option ρ)) (k4:LI→LI→LI→LI→I5 (LI→Option ρ)):Option ρ :=
 cond (p)
 (
  kn a b c d e l f g m o h i j)
 (
  k4 a b c d e f g h i j)
def Z47 {ρ:Type} (N:Nat) (b c d e:LI) (f g h i j a l m:Int) (o:LI) (kn:LI→LI→LI→LI→Int→I8 (LI→Option ρ)):Option ρ :=
 kn b c d e f g a h i j a l m o
def Z49 {ρ:Type} (N:Nat) (f h i j:LI) (l a b m o p q c d:Int) (e:LI) (kn:LI→LI→LI→LI→I3 (I8 (LI→Option ρ))):Option ρ :=
 cond (lk N (z13.P (c,(d,e)) a b)) (
  cond (lk N (z13.P (c,(d,e)) b a)) (
   kn f h i j l a b (z13.g (c,(d,e)) a b) (w64 (0 - (z13.g (c,(d,e)) b a))) m o p q c d e) none) none
def Z51 {ρ:Type} (N:Nat) (a b c d:LI) (e f r g h i j l m o p:Int) (q:LI) (kn:LI→LI→LI→LI→I3 (I8 (LI→Option ρ))) (k5:LI→LI→LI→LI→I8 (LI→Option ρ)):Option ρ :=
 cond (lk N (decide (g = 0)))
 (
  cond (lk N (decide (h = 0)))
  (
   k5 a b c d e f i j l m o p q)
  (
   kn a b c d e f r g h i j l m o p q))
 (
  kn a b c d e f r g h i j l m o p q)
def Z52 {ρ:Type} (N:Nat) (b c i h:LI) (j d a e f l m o p q r:Int) (s:LI) (kn:LI→LI→LI→LI→I8 (LI→Option ρ)) (kr:LI→Option ρ):Option ρ :=
 let x1_:=(w64 ((b.getD d.toNat 0) * (mx e (w64 (0 - e)))))
 let x2_:=(w64 ((c.getD d.toNat 0) * (mx f (w64 (0 - f)))))
 let x0_:=(z29.g x1_ x2_)
 cond (lk N (decide (e = 0)))
 (
 kr ([]:List Int))
 (
 cond (lk N (decide (f = 0)))
 (
 kr ([]:List Int))
 (
 cond (lk N (!(((lk N (decide (0 < e))) == (lk N (decide (0 < f)))))))
 (
 kr ([]:List Int))
 (
 cond (lk N (decide (d = a)))
 (
 kr ([]:List Int))
 (
 cond (lk N (inB d b.length)) (
 cond (lk N (inB d c.length)) (
 cond (lk N (z29.P x1_ x2_)) (
 cond (lk N (!(decide (x0_ = 0)))) (
 cond (lk N (!(decide (x0_ = 0)))) (
 cond (lk N (inB a b.length)) (
 cond (lk N (decide ((b.getD a.toNat 0) = 0)))
 (
 cond (lk N (inB a b.length)) (
 cond (lk N (inB a c.length)) (
 cond (lk N (Nat.blt (h.length + ([a]:List Int).length) 1099511627776)) (
 kn (b.set a.toNat (w64 (Int.tdiv x1_ x0_))) (c.set a.toNat (w64 (Int.tdiv x2_ x0_))) i (h ++ ([a]:List Int)) j d l m o p q r s) none) none) none)
 (
 cond (lk N (inB a b.length)) (
 cond (lk N (!(decide ((b.getD a.toNat 0) = (w64 (Int.tdiv x1_ x0_))))))
 (
 kr ([]:List Int))
 (
 cond (lk N (inB a c.length)) (
 cond (lk N (!(decide ((c.getD a.toNat 0) = (w64 (Int.tdiv x2_ x0_))))))
 (
 kr ([]:List Int))
 (
 kn b c i h j d l m o p q r s)) none)) none)) none) none) none) none) none) none))))
def Z50 N a b c d e f g h i j l m o p q r kn k5 kr:=(Z51 N a b c d e f g h i j l m o p q r (fun a b c d e f g h i j l m o p q r=>Z52 N a b c d e f g h i j l m o p q r kn kr) k5:Option ρ)
def Z48 N a b c d e f g h i j l m o p kn k5 kr:=(Z49 N a b c d e f g h i j l m o p (fun a b c d e f g q r h i j l m o p=>Z50 N a b c d e f g q r h i j l m o p kn k5 kr):Option ρ)
def Z46 N a b c d e f g h i j l m o kn k5 kr:=(Z47 N a b c d e f g h i j l m o (fun a b c d e f p g h i j l m o=>Z48 N a b c d e f p g h i j l m o kn k5 kr):Option ρ)
def Z45 N a b c d e f g h i j l m o kn kr:=(Z46 N a b c d e f g h i j l m o kn kn kr:Option ρ)
def Z53 {ρ:Type} (N:Nat) (a b c d:LI) (e f g h i j l m:Int) (o:LI) (kn:LI→LI→LI→LI→I8 (LI→Option ρ)):Option ρ :=
 kn a b c d e f g h i (w64 (j + 1)) l m o
def Z44 N a b c d e f g h i j l m o kn kr:=(Z45 N a b c d e f g h i j l m o (fun a b c d e f g h i j l m o=>Z53 N a b c d e f g h i j l m o kn) kr:Option ρ)
def Z42 N a b c d e f g h i j p l m o kn k4 kr:=(Z43 N a b c d e f g h i j p l m o (fun a b c d e f g h i j l m o=>Z44 N a b c d e f g h i j l m o kn kr) k4:Option ρ)
def Z40 N a b c d e f g h i j l m o kn k4 kr:=(Z41 N a b c d e f g h i j l m o (fun a b c d e f g h i j p l m o=>Z42 N a b c d e f g h i j p l m o kn k4 kr):Option ρ)
def Z39L {ρ:Type} (N:Nat) (k4:LI→LI→LI→LI→I5 (LI→Option ρ)) (kr:LI→Option ρ):Nat→LI→LI→LI→LI→Int→Int→Int→Int→Int→Int→Int→Int→LI→Option ρ
 | 0,_,_,_,_,_,_,_,_,_,_,_,_,_=>none
 | M + 1,a,b,c,d,e,f,g,h,i,j,l,m,o=>Z40 N a b c d e f g h i j l m o (fun a b c d e f g h i j l m o=>Z39L N k4 kr M a b c d e f g h i j l m o) k4 kr
def Z39 N a b c d e f g h i j l m o k4 kr:=(Z39L N k4 kr N a b c d e f g h i j l m o:Option ρ)
def Z38 N a b c d e f g h i j l m o kn kr:=(Z39 N a b c d e f g h i j l m o kn kr:Option ρ)
def Z36 N a b c d e f g h i j l kn kr:=(Z37 N a b c d e f g h i j l (fun a b c d e f g h m o i j l=>Z38 N a b c d e f g h m o i j l kn kr):Option ρ)
def Z34 N a b c d e f g h i j kn kr:=(Z35 N a b c d e f g h i j (fun a b c d e l f g h i j=>Z36 N a b c d e l f g h i j kn kr):Option ρ)
def Z33 N a b c d e f g h i j kn kr:=(Z34 N a b c d e f g h i j kn kr:Option ρ)
def Z54 {ρ:Type} (N:Nat) (a b c d:LI) (e f g h i:Int) (j:LI) (kn:LI→LI→LI→LI→I5 (LI→Option ρ)):Option ρ :=
 kn a b c d (w64 (e + 1)) f g h i j
def Z32 N a b c d e f g h i j kn kr:=(Z33 N a b c d e f g h i j (fun a b c d e f g h i j=>Z54 N a b c d e f g h i j kn) kr:Option ρ)
def Z30 N a b c d e f g h i j kn k2 kr:=(Z31 N a b c d e f g h i j (fun a b c d e f g h i j=>Z32 N a b c d e f g h i j kn kr) k2:Option ρ)
def Z29L {ρ:Type} (N:Nat) (k2:LI→LI→LI→LI→I4 (LI→Option ρ)) (kr:LI→Option ρ):Nat→LI→LI→LI→LI→Int→Int→Int→Int→Int→LI→Option ρ
 | 0,_,_,_,_,_,_,_,_,_,_=>none
 | M + 1,a,b,c,d,e,f,g,h,i,j=>Z30 N a b c d e f g h i j (fun a b c d e f g h i j=>Z29L N k2 kr M a b c d e f g h i j) k2 kr
def Z29 N a b c d e f g h i j k2 kr:=(Z29L N k2 kr N a b c d e f g h i j:Option ρ)
def Z28 N a b c d e f g h i j kn kr:=(Z29 N a b c d e f g h i j kn kr:Option ρ)
def Z26 N a b c d e f g h i kn kr:=(Z27 N a b c d e f g h i (fun a b c d j e f g h i=>Z28 N a b c d j e f g h i kn kr):Option ρ)
def Z56 {ρ:Type} (N:Nat) (a b c d:LI) (e f g h:Int) (i:LI) (kn:LI→LI→LI→LI→I5 (LI→Option ρ)):Option ρ :=
 kn a b c d 1 e f g h i
def Z59 {ρ:Type} (N:Nat) (b c d a:LI) (e f g h i:Int) (j:LI) (kn:LI→LI→LI→LI→I7 (LI→Option ρ)):Option ρ :=
 kn b c d a e f g (a.length:Int) 0 h i j
def Z62 {ρ:Type} (N:Nat) (e c f a:LI) (d h i j b l m:Int) (o:LI) (kn:LI→LI→LI→LI→I7 (LI→Option ρ)) (k6:LI→LI→LI→LI→I5 (LI→Option ρ)):Option ρ :=
 cond (lk N (decide (b < j)))
 (
  cond (lk N (inB b a.length)) (
   cond (lk N (inB (a.getD b.toNat 0) c.length)) (
    cond (lk N (inB (a.getD b.toNat 0) c.length)) (
     cond (lk N (z29.P d (c.getD (a.getD b.toNat 0).toNat 0))) (
      cond (lk N (!(decide ((z29.g d (c.getD (a.getD b.toNat 0).toNat 0)) = 0)))) (
       kn e c f a (w64 ((w64 (Int.tdiv d (z29.g d (c.getD (a.getD b.toNat 0).toNat 0)))) * (c.getD (a.getD b.toNat 0).toNat 0))) h i j (w64 (b + 1)) l m o) none) none) none) none) none)
 (
  k6 e c f a d h i l m o)
def Z61L {ρ:Type} (N:Nat) (k6:LI→LI→LI→LI→I5 (LI→Option ρ)):Nat→LI→LI→LI→LI→Int→Int→Int→Int→Int→Int→Int→LI→Option ρ
 | 0,_,_,_,_,_,_,_,_,_,_,_,_=>none
 | M + 1,a,b,c,d,e,f,g,h,i,j,l,m=>Z62 N a b c d e f g h i j l m (fun a b c d e f g h i j l m=>Z61L N k6 M a b c d e f g h i j l m) k6
def Z61 N a b c d e f g h i j l m k6:=(Z61L N k6 N a b c d e f g h i j l m:Option ρ)
def Z60 N a b c d e f g h i j l m kn:=(Z61 N a b c d e f g h i j l m kn:Option ρ)
def Z58 N a b c d e f g h i j kn:=(Z59 N a b c d e f g h i j (fun a b c d e f g l m h i j=>Z60 N a b c d e f g l m h i j kn):Option ρ)
def Z64 {ρ:Type} (N:Nat) (a b c d:LI) (e f g h i:Int) (j:LI) (kn:LI→LI→LI→LI→I6 (LI→Option ρ)):Option ρ :=
 kn a b c d e 0 f g h i j
def Z67 {ρ:Type} (N:Nat) (b c d a:LI) (e f g h i j:Int) (l:LI) (kn:LI→LI→LI→LI→I8 (LI→Option ρ)):Option ρ :=
 kn b c d a e f g h (a.length:Int) 0 i j l
def Z70 {ρ:Type} (N:Nat) (d c e a:LI) (f h i j l b m o:Int) (p:LI) (kn:LI→LI→LI→LI→I8 (LI→Option ρ)) (k8:LI→LI→LI→LI→I5 (LI→Option ρ)):Option ρ :=
 cond (lk N (decide (b < l)))
 (
  cond (lk N (inB b a.length)) (
   cond (lk N (inB (a.getD b.toNat 0) c.length)) (
    cond (lk N (!(decide ((c.getD (a.getD b.toNat 0).toNat 0) = 0)))) (
     cond (lk N (inB (a.getD b.toNat 0) d.length)) (
      cond (lk N (inB (a.getD b.toNat 0) e.length)) (
       cond (lk N (inB (a.getD b.toNat 0) (e.set (a.getD b.toNat 0).toNat (w64 ((w64 (Int.tdiv f (c.getD (a.getD b.toNat 0).toNat 0))) * (d.getD (a.getD b.toNat 0).toNat 0)))).length)) (
        cond (lk N (z29.P h ((e.set (a.getD b.toNat 0).toNat (w64 ((w64 (Int.tdiv f (c.getD (a.getD b.toNat 0).toNat 0))) * (d.getD (a.getD b.toNat 0).toNat 0)))).getD (a.getD b.toNat 0).toNat 0))) (
         kn d c (e.set (a.getD b.toNat 0).toNat (w64 ((w64 (Int.tdiv f (c.getD (a.getD b.toNat 0).toNat 0))) * (d.getD (a.getD b.toNat 0).toNat 0)))) a f (z29.g h ((e.set (a.getD b.toNat 0).toNat (w64 ((w64 (Int.tdiv f (c.getD (a.getD b.toNat 0).toNat 0))) * (d.getD (a.getD b.toNat 0).toNat 0)))).getD (a.getD b.toNat 0).toNat 0)) i j l (w64 (b + 1)) m o p) none) none) none) none) none) none) none)
 (
  k8 d c e a h i j m o p)
def Z69L {ρ:Type} (N:Nat) (k8:LI→LI→LI→LI→I5 (LI→Option ρ)):Nat→LI→LI→LI→LI→Int→Int→Int→Int→Int→Int→Int→Int→LI→Option ρ
 | 0,_,_,_,_,_,_,_,_,_,_,_,_,_=>none
 | M + 1,a,b,c,d,e,f,g,h,i,j,l,m,o=>Z70 N a b c d e f g h i j l m o (fun a b c d e f g h i j l m o=>Z69L N k8 M a b c d e f g h i j l m o) k8
def Z69 N a b c d e f g h i j l m o k8:=(Z69L N k8 N a b c d e f g h i j l m o:Option ρ)
def Z68 N a b c d e f g h i j l m o kn:=(Z69 N a b c d e f g h i j l m o kn:Option ρ)
def Z66 N a b c d e f g h i j l kn:=(Z67 N a b c d e f g h i j l (fun a b c d e f g h m o i j l=>Z68 N a b c d e f g h m o i j l kn):Option ρ)
def Z72 {ρ:Type} (N:Nat) (b c d a:LI) (e f g h i:Int) (j:LI) (kn:LI→LI→LI→LI→I7 (LI→Option ρ)):Option ρ :=
 kn b c d a e f g (a.length:Int) 0 h i j
def Z75 {ρ:Type} (N:Nat) (e f c b:LI) (d g h i a j l:Int) (m:LI) (kn:LI→LI→LI→LI→I7 (LI→Option ρ)) (k10:LI→LI→LI→I4 (LI→Option ρ)):Option ρ :=
 cond (lk N (decide (a < i)))
 (
  cond (lk N (inB a b.length)) (
   cond (lk N (inB (b.getD a.toNat 0) c.length)) (
    cond (lk N (!(decide (d = 0)))) (
     cond (lk N (inB (b.getD a.toNat 0) c.length)) (
      kn e f (c.set (b.getD a.toNat 0).toNat (w64 (Int.tdiv (c.getD (b.getD a.toNat 0).toNat 0) d))) b d g h i (w64 (a + 1)) j l m) none) none) none) none)
 (
  k10 e f c g h j l m)
def Z74L {ρ:Type} (N:Nat) (k10:LI→LI→LI→I4 (LI→Option ρ)):Nat→LI→LI→LI→LI→Int→Int→Int→Int→Int→Int→Int→LI→Option ρ
 | 0,_,_,_,_,_,_,_,_,_,_,_,_=>none
 | M + 1,a,b,c,d,e,f,g,h,i,j,l,m=>Z75 N a b c d e f g h i j l m (fun a b c d e f g h i j l m=>Z74L N k10 M a b c d e f g h i j l m) k10
def Z74 N a b c d e f g h i j l m k10:=(Z74L N k10 N a b c d e f g h i j l m:Option ρ)
def Z73 N a b c d e f g h i j l m kn:=(Z74 N a b c d e f g h i j l m kn:Option ρ)
def Z71 N a b c j d e f g h i kn:=(Z72 N a b c j d e f g h i (fun a b c l d e f m o g h i=>Z73 N a b c l d e f m o g h i kn):Option ρ)
def Z65 N a b c d l e f g h i j kn:=(Z66 N a b c d l e f g h i j (fun a b c d e f g h i j=>Z71 N a b c d e f g h i j kn):Option ρ)
def Z63 N a b c d e f g h i j kn:=(Z64 N a b c d e f g h i j (fun a b c d e l f g h i j=>Z65 N a b c d e l f g h i j kn):Option ρ)
def Z57 N a b c d e f g h i j kn:=(Z58 N a b c d e f g h i j (fun a b c d e f g h i j=>Z63 N a b c d e f g h i j kn):Option ρ)
def Z55 N a b c d e f g h i kn:=(Z56 N a b c d e f g h i (fun a b c d j e f g h i=>Z57 N a b c d j e f g h i kn):Option ρ)
def Z25 N a b c d e f g h i kn kr:=(Z26 N a b c d e f g h i (fun a b c d e f g h i=>Z55 N a b c d e f g h i kn) kr:Option ρ)
def Z23 N a b c i d e f g h kn kr:=(Z24 N a b c i d e f g h (fun a b c j d e f g h=>Z25 N a b c j d e f g h kn kr):Option ρ)
def Z21 N a b c d e f g h i kn kr:=(Z22 N a b c d e f g h i (fun a b c d e f g h i=>Z23 N a b c d e f g h i kn kr):Option ρ)
def Z19 N a b c d e f g h i kn k1 kr:=(Z20 N a b c d e f g h i (fun a b c d e f g h i=>Z21 N a b c d e f g h i kn kr) k1:Option ρ)
def Z17 N a b c d e f g h kn k1 kr:=(Z18 N a b c d e f g h (fun a b c i d e f g h=>Z19 N a b c i d e f g h kn k1 kr):Option ρ)
def Z16 N a b c d e f g h kn kr:=(Z17 N a b c d e f g h kn kn kr:Option ρ)
def Z76 {ρ:Type} (N:Nat) (a b c:LI) (d e f g:Int) (h:LI) (kn:LI→LI→LI→I4 (LI→Option ρ)):Option ρ :=
 kn a b c d (w64 (e + 1)) f g h
def Z15 N a b c d e f g h kn kr:=(Z16 N a b c d e f g h (fun a b c d e f g h=>Z76 N a b c d e f g h kn) kr:Option ρ)
def Z13 N a b c d e i f g h kn k0 kr:=(Z14 N a b c d e i f g h (fun a b c d e f g h=>Z15 N a b c d e f g h kn kr) k0:Option ρ)
def Z11 N a b c d e f g h kn k0 kr:=(Z12 N a b c d e f g h (fun a b c d e i f g h=>Z13 N a b c d e i f g h kn k0 kr):Option ρ)
def Z10L {ρ:Type} (N:Nat) (k0 kr:LI→Option ρ):Nat→LI→LI→LI→Int→Int→Int→Int→LI→Option ρ
 | 0,_,_,_,_,_,_,_,_=>none
 | M + 1,a,b,c,d,e,f,g,h=>Z11 N a b c d e f g h (fun a b c d e f g h=>Z10L N k0 kr M a b c d e f g h) k0 kr
def Z10 N a b c d e f g h k0 kr:=(Z10L N k0 kr N a b c d e f g h:Option ρ)
def Z9 N a b c d e f g h kn kr:=(Z10 N a b c d e f g h kn kr:Option ρ)
def Z7 N a b c d e f kn kr:=(Z8 N a b c d e f (fun a b c g h d e f=>Z9 N a b c g h d e f kn kr):Option ρ)
def Z77 {ρ:Type} (N:Nat) (a:LI) (kr:LI→Option ρ):Option ρ :=
 cond (Nat.blt 0 a.length) (
  kr a) none
def Z6 N b c a d e f kr:=(Z7 N b c a d e f (fun a=>Z77 N a kr) kr:Option ρ)
def Z4 N a b c d e kr:=(Z5 N a b c d e (fun a b f c d e=>Z6 N a b f c d e kr):Option ρ)
def Z2 N a b c kr:=(Z3 N a b c (fun d e a b c=>Z4 N d e a b c kr):Option ρ)
def Z0 N a kr:=(Z1 N a (fun b c d=>Z2 N b c d kr):Option ρ)
def Spec:Prop:=∀  (v0:MT),Ty.bd (.pair (.int .i64) (.pair (.int .i64) (.sl 0 (.int .i64)))) v0→P v0 = true→∃ N0,∀ N,N0≤N→Z0 N v0 (fun v2=>some ((),(v2,()))) = some ((),((g v0),()))
theorem mx_abs {a:Int} (h:-99≤a∧a≤99):mx a (w64 (0 - a)) = z7f a:=by
 rw [z1g (by omega) (by omega),mx_eq]
 unfold z7f
 omega
theorem absK_neg (a:Int):z7f (-a) = z7f a:=by unfold z7f; omega
theorem pow4 {k:Nat} (h:k≤4):(99:Int) ^ k≤96059601:=by
 have h1:99 ^ k≤99 ^ 4:=Nat.pow_le_pow_right (by omega) h
 have h2:(99:Int) ^ k = ((99 ^ k:Nat):Int):=by rw [Int.natCast_pow]; rfl
 rw [h2]
 omega
theorem zxu {n:Nat} {A:Nat→Nat→Int} {x j:Nat} (hx:x < n) (hj:j < n) (h:¬ (A x j = 0∧A j x = 0)) (h':A x j = 0∨A j x = 0):¬ ∃ e,zb3 n A e:=by
 rintro ⟨e,he⟩
 rcases h' with z | z
 ·exact h ⟨z,zdk he hx hj z⟩
 ·exact h ⟨zdk he hj hx z,z⟩
section
variable {ρ:Type} {N:Nat} {m:Int × Int × List Int} {s p x j:Nat} {num0 num den out:List Int} {L:List Nat}
theorem core (hm:z1l m = true) (hn:m.1.toNat≤5) (hcl:zv2 m.1.toNat (ent m) num0) (hf:zmu m.1.toNat (ent m) s num0 L num den) (hp:p < L.length) (hx:L.getD p 0 = x) (hj:j < m.1.toNat) (h0:¬ (ent m x j = 0∧ent m j x = 0))
  (kn:List Int→List Int→List Int→List Int→Int→Int→Int→Int→Int→Int→Int→Int→List Int→Option ρ) (kr:List Int→Option ρ) (t34 t35 t62 t63:Int) :
  (Z52 N num den out (z33 L) (p:Int) (x:Int) (j:Int) (ent m x j) (-(ent m j x)) t34 t35 t62 t63 m.1 m.2.1 m.2.2 kn kr = kr []∧¬ ∃ e,zb3 m.1.toNat (ent m) e) ∨
  (∃ L' num' den',zmu m.1.toNat (ent m) s num0 L' num' den'∧(∃ u,L' = L ++ u)∧(∀ y ∈ L,∀ k,zqb (ent m) L num den y k→zqb (ent m) L' num' den' y k)∧zqb (ent m) L' num' den' x j ∧
   Z52 N num den out (z33 L) (p:Int) (x:Int) (j:Int) (ent m x j) (-(ent m j x)) t34 t35 t62 t63 m.1 m.2.1 m.2.2 kn kr = kn num' den' out (z33 L') (p:Int) (x:Int) t34 t35 t62 t63 m.1 m.2.1 m.2.2):=by
 have hxm:x ∈ L:=by rw [← hx]; exact z1m 0 hp
 have hxn:=hf.lt x hxm
 have hle:=hf.le
 simp only [Z52]
 by_cases z1:ent m x j = 0
 ·rw [ct (dt z1)]
  exact Or.inl ⟨rfl,zxu hxn hj h0 (Or.inl z1)⟩
 rw [cf (df z1)]
 by_cases z2:ent m j x = 0
 ·rw [ct (dt (by omega))]
  exact Or.inl ⟨rfl,zxu hxn hj h0 (Or.inr z2)⟩
 rw [cf (df (by omega))]
 by_cases sg:(0 < ent m x j↔0 < -(ent m j x))
 ·have sgb:(!(((lk N (decide (0 < ent m x j))) == (lk N (decide (0 < -(ent m j x))))))) = false:=by
   rw [z1x,z1x]
   by_cases h1:0 < ent m x j
   ·rw [dt h1,dt (sg.1 h1)]; rfl
   ·rw [df h1,df (fun h=>h1 (sg.2 h))]; rfl
  rw [cf sgb]
  have hne:¬ ((x:Int) = (j:Int)):=fun e=>by
   have e':x = j:=by omega
   subst e'
   omega
  rw [cf (df hne)]
  obtain ⟨Q,q1,q2,q3⟩:=hf.frac
  obtain ⟨c1,c2,c3,c4,c5⟩:=q3 x hxm
  have st:=stepN (A:=ent m) (num:=num) (den:=den) x j c1 c3 z1 z2
  have sk:=skew_of z1 z2 sg
  have hb:=z45 hm
  have e1:=mx_abs (hb x j)
  have e2:mx (-(ent m j x)) (w64 (0 - -(ent m j x))) = z7f (ent m j x):=by
   rw [mx_abs (by have:=hb j x; omega),absK_neg]
  have pw:=pow4 (k:=L.length - 1) (by omega)
  have hdQ:=Int.le_of_dvd q1 c4
  have a1:=zir (hb x j)
  have a2:=zir (hb j x)
  have a1':=zb2 z1
  have a2':=zb2 z2
  have b1:num.getD x 0 * z7f (ent m x j)≤96059601 * 99:=Int.mul_le_mul (by omega) a1 (by omega) (by omega)
  have b2:den.getD x 0 * z7f (ent m j x)≤96059601 * 99:=Int.mul_le_mul (by omega) a2 (by omega) (by omega)
  have hA:=st.a0p
  have hB:=st.b0p
  simp only [e1,e2,Int.toNat_natCast,z1g (show -9223372036854775808≤num.getD x 0 * z7f (ent m x j) by omega) (by omega),z1g (show -9223372036854775808≤den.getD x 0 * z7f (ent m j x) by omega) (by omega),z29.g]
  generalize hA0:num.getD x 0 * z7f (ent m x j) = A0 at *
  generalize hB0:den.getD x 0 * z7f (ent m j x) = B0 at *
  generalize hG:(Int.gcd A0 B0:Int) = G at *
  generalize ha:Int.tdiv A0 G = a at *
  generalize hb':Int.tdiv B0 G = b at *
  have gp:=st.gp
  have ap:=st.ap
  have bp:=st.bp
  have al:a≤A0:=by
   have h1:=Int.mul_le_mul_of_nonneg_left (show (1:Int)≤G by omega) (Int.le_of_lt ap)
   have h2:=st.ea
   omega
  have bl:b≤B0:=by
   have h1:=Int.mul_le_mul_of_nonneg_left (show (1:Int)≤G by omega) (Int.le_of_lt bp)
   have h2:=st.eb
   omega
  have i1:inB (x:Int) num.length = true:=z1b (by rw [hf.nl]; exact hxn)
  have i2:inB (x:Int) den.length = true:=z1b (by rw [hf.dl]; exact hxn)
  have i3:inB (j:Int) num.length = true:=z1b (by rw [hf.nl]; exact hj)
  have i4:inB (j:Int) den.length = true:=z1b (by rw [hf.dl]; exact hj)
  have hP:z29.P A0 B0 = true:=by
   simp only [z29.P,Bool.and_eq_true,decide_eq_true_eq]
   omega
  rw [ct i1,ct i2,ct hP,ct (nt (by omega)),ct (nt (by omega)),ct i3]
  simp only [z1g (show -9223372036854775808≤a by omega) (by omega),z1g (show -9223372036854775808≤b by omega) (by omega)]
  by_cases hz:num.getD j 0 = 0
  ·obtain ⟨hg,hnj⟩:=hf.grow hp hj hz (by rw [hx]; exact st) (fun y k=>zir (hb y k))
   have hxj:∀ y ∈ L,j≠y:=fun y hy e=>hnj (e ▸ hy)
   have hnl:j < num.length:=by rw [hf.nl]; exact hj
   have hdl:j < den.length:=by rw [hf.dl]; exact hj
   rw [ct (dt hz),ct i3,ct i4,ct (show Nat.blt ((z33 L).length + ([(j:Int)]).length) 1099511627776 = true by simp [z20,Nat.blt_eq]; omega),zca]
   refine Or.inr ⟨L ++ [j],num.set j a,den.set j b,hg,⟨_,rfl⟩,fun y hy k he=>he.grow hxj hnl hdl hy,Or.inr ⟨by simp, ?_⟩,rfl⟩
   have:=zn4 st sk
   rw [z2a hnl,if_neg (hxj x hxm),z2a hdl,if_pos rfl,z2a hnl,if_pos rfl,z2a hdl,if_neg (hxj x hxm)]
   exact this
  ·have hjm:j ∈ L:=Classical.byContradiction fun hc=>by
    have h1:num0.getD j 0≠0:=by rw [← hf.out j hj hc]; exact hz
    exact hcl j hj h1 x hxn (Or.inr z1) (hf.new x hxm)
   obtain ⟨d1,d2,d3,d4,d5⟩:=q3 j hjm
   have hgood:(∃ e,zb3 m.1.toNat (ent m) e)→num.getD j 0 = a∧den.getD j 0 = b:=by
    rintro ⟨e,he⟩
    have g1:=zn3 st hxn hj he (hf.good e he x hxm)
    have g2:=hf.good e he j hjm
    have p1:=(he j hj).1
    have p2:0 < e s:=(he s (by rw [← hf.hd]; exact hf.lt _ (z1m 0 hf.pos))).1
    have g3:(e s * e j) * (num.getD j 0 * b) = (e s * e j) * (a * den.getD j 0):=by grind
    have p3:=Int.mul_pos p2 p1
    exact frac_eq d1 d3 ap bp d5 st.co (Int.eq_of_mul_eq_mul_left (by omega) g3)
   rw [cf (df hz),ct i3]
   by_cases ea:num.getD j 0 = a
   ·rw [cf (nf ea),ct i4]
    by_cases eb:den.getD j 0 = b
    ·rw [cf (nf eb)]
     refine Or.inr ⟨L,num,den,hf,⟨[],by simp⟩,fun _ _ _ h=>h,Or.inr ⟨hjm, ?_⟩,rfl⟩
     rw [ea,eb]
     exact zn4 st sk
    ·rw [ct (nt eb)]
     exact Or.inl ⟨rfl,fun h=>eb (hgood h).2⟩
   ·rw [ct (nt ea)]
    exact Or.inl ⟨rfl,fun h=>ea (hgood h).1⟩
 ·have sgb:(!(((lk N (decide (0 < ent m x j))) == (lk N (decide (0 < -(ent m j x))))))) = true:=by
   rw [z1x,z1x]
   by_cases h1:0 < ent m x j
   ·rw [dt h1,df (fun h2=>sg ⟨fun _=>h2,fun _=>h1⟩)]; rfl
   ·rw [df h1,dt (Classical.byContradiction fun h2=>sg ⟨fun h=>absurd h h1,fun h=>absurd h h2⟩)]; rfl
  rw [ct sgb]
  refine Or.inl ⟨rfl, ?_⟩
  rintro ⟨e,he⟩
  have h1:=zad he hxn hj
  rw [zfn,Bool.and_eq_true,beq_iff_eq,decide_eq_decide] at h1
  have:=h1.1
  omega
theorem at_g (hd:0≤m.1) (a b:Nat):z13.g (m.1,(m.2.1,m.2.2)) (a:Int) (b:Int) = ent m a b:=z9i hd a b
theorem at_p (hd:z40 m = true) {a b:Nat} (ha:a < m.1.toNat) (hb:b < m.1.toNat):z13.P (m.1,(m.2.1,m.2.2)) (a:Int) (b:Int) = true:=by
 obtain ⟨n,r,hn,hr,hn1,hn5,hnr,hr8,hl⟩:=z17 hd
 exact zmg hd (by omega) hb
theorem inner (hm:z1l m = true) (hcl:zv2 m.1.toNat (ent m) num0) (k4:List Int→List Int→List Int→List Int→Int→Int→Int→Int→Int→List Int→Option ρ) (kr:List Int→Option ρ) (t34 t35:Int):∀ (M j:Nat) (L:List Nat) (num den:List Int),zmu m.1.toNat (ent m) s num0 L num den→p < L.length→L.getD p 0 = x→j≤m.1.toNat→m.1.toNat - j < M →
  (∀ k',k' < p→∀ k,k < m.1.toNat→zqb (ent m) L num den (L.getD k' 0) k)→(∀ k,k < j→zqb (ent m) L num den x k) →
  (Z39L N k4 kr M num den out (z33 L) (p:Int) (x:Int) t34 t35 (m.1.toNat:Int) (j:Int) m.1 m.2.1 m.2.2 = kr []∧¬ ∃ e,zb3 m.1.toNat (ent m) e) ∨
  (∃ L' num' den',zmu m.1.toNat (ent m) s num0 L' num' den'∧p < L'.length∧(∀ k',k' < p + 1→∀ k,k < m.1.toNat→zqb (ent m) L' num' den' (L'.getD k' 0) k) ∧
   Z39L N k4 kr M num den out (z33 L) (p:Int) (x:Int) t34 t35 (m.1.toNat:Int) (j:Int) m.1 m.2.1 m.2.2 = k4 num' den' out (z33 L') (p:Int) t34 t35 m.1 m.2.1 m.2.2):=by
 have hdim:=z28 hm
 obtain ⟨n,r,hn,hr,hn1,hn5,hnr,hr8,hl⟩:=z17 hdim
 intro M
 induction M with
 | zero=>intro j _ _ _ _ _ _ _ h; omega
 | succ M ih =>
  intro j L num den hf hp hx hj hM hE1 hE2
  have hxm:x ∈ L:=by rw [← hx]; exact z1m 0 hp
  have hxn:=hf.lt x hxm
  simp only [Z39L,Z40,Z41,Z42,Z43]
  by_cases hlt:j < m.1.toNat
  ·rw [ct' (by rw [z1x]; exact dt (by omega))]
   simp only [Z44,Z45,Z46,Z47,Z48,Z49]
   rw [ct (at_p hdim hxn hlt),ct (at_p hdim hlt hxn),at_g (by omega),at_g (by omega)]
   have hb:=z45 hm j x
   rw [show w64 (0 - ent m j x) = -(ent m j x) by rw [z1g (by omega) (by omega)]; omega]
   simp only [Z50,Z51]
   have next:∀ (L':List Nat) (num' den':List Int),zmu m.1.toNat (ent m) s num0 L' num' den'→(∃ u,L' = L ++ u)→(∀ y ∈ L,∀ k,zqb (ent m) L num den y k→zqb (ent m) L' num' den' y k)→zqb (ent m) L' num' den' x j →
     (Z39L N k4 kr M num' den' out (z33 L') (p:Int) (x:Int) t34 t35 (m.1.toNat:Int) ((j + 1:Nat):Int) m.1 m.2.1 m.2.2 = kr []∧¬ ∃ e,zb3 m.1.toNat (ent m) e) ∨
     (∃ L'' num'' den'',zmu m.1.toNat (ent m) s num0 L'' num'' den''∧p < L''.length∧(∀ k',k' < p + 1→∀ k,k < m.1.toNat→zqb (ent m) L'' num'' den'' (L''.getD k' 0) k) ∧
      Z39L N k4 kr M num' den' out (z33 L') (p:Int) (x:Int) t34 t35 (m.1.toNat:Int) ((j + 1:Nat):Int) m.1 m.2.1 m.2.2 = k4 num'' den'' out (z33 L'') (p:Int) t34 t35 m.1 m.2.1 m.2.2):=by
    intro L' num' den' hf' hu hk he
    obtain ⟨u,hu⟩:=hu
    have hget:∀ k',k' < L.length→L'.getD k' 0 = L.getD k' 0:=fun k' hk'=>by rw [hu,z2z hk']
    refine ih (j + 1) L' num' den' hf' (by rw [hu]; simp; omega) (by rw [hget p hp]; exact hx) hlt (by omega) (fun k' hk' k hkn=>?_) (fun k hk'=>?_)
    ·rw [hget k' (by omega)]
     exact hk _ (z1m 0 (by omega)) k (hE1 k' hk' k hkn)
    ·by_cases e:k = j
     ·subst e; exact he
     ·exact hk x hxm k (hE2 k (by omega))
   by_cases h0:ent m x j = 0∧ent m j x = 0
   ·rw [ct (dt h0.1),ct (dt (by omega))]
    simp only [Z53]
    rw [z1c (by rw [z0z]; omega)]
    exact next L num den hf ⟨[],by simp⟩ (fun _ _ _ h=>h) (Or.inl h0)
   ·have hz:∀ (X Y:Option ρ),(cond (lk N (decide (ent m x j = 0))) (cond (lk N (decide (-(ent m j x) = 0))) X Y) Y) = Y:=by
     intro X Y
     by_cases z1:ent m x j = 0
     ·rw [ct (dt z1),cf (df (fun z2=>h0 ⟨z1,by omega⟩))]
     ·rw [cf (df z1)]
    rw [hz]
    rcases core (N:=N) (out:=out) hm (by omega) hcl hf hp hx hlt h0 (fun num3 den4 out5 piece7 at8 i9 t34 t35 t62 t63 m1_0 m1_1 m1_2=>Z53 N num3 den4 out5 piece7 at8 i9 t34 t35 t62 t63 m1_0 m1_1 m1_2 (fun num3 den4 out5 piece7 at8 i9 t34 t35 t62 t63 m1_0 m1_1 m1_2=>Z39L N k4 kr M num3 den4 out5 piece7 at8 i9 t34 t35 t62 t63 m1_0 m1_1 m1_2)) kr t34 t35 (m.1.toNat:Int) (j:Int) with hc | ⟨L',num',den',h1,h2,h3,h4,h5⟩
    ·exact Or.inl hc
    ·rw [h5]
     simp only [Z53]
     rw [z1c (by rw [z0z]; omega)]
     exact next L' num' den' h1 h2 h3 h4
  ·rw [cf' (by rw [z1x]; exact df (by omega))]
   refine Or.inr ⟨L,num,den,hf,hp,fun k' hk' k hk=>?_,rfl⟩
   by_cases e:k' = p
   ·subst e; rw [hx]; exact hE2 k (by omega)
   ·exact hE1 k' (by omega) k hk
theorem middle (hN:10≤N) (hm:z1l m = true) (hcl:zv2 m.1.toNat (ent m) num0) (k2:List Int→List Int→List Int→List Int→Int→Int→Int→Int→List Int→Option ρ) (kr:List Int→Option ρ) (t34 t35:Int):∀ (M p:Nat) (L:List Nat) (num den:List Int),zmu m.1.toNat (ent m) s num0 L num den→p≤L.length→m.1.toNat - p < M →
  (∀ k',k' < p→∀ k,k < m.1.toNat→zqb (ent m) L num den (L.getD k' 0) k) →
  (Z29L N k2 kr M num den out (z33 L) (p:Int) t34 t35 m.1 m.2.1 m.2.2 = kr []∧¬ ∃ e,zb3 m.1.toNat (ent m) e) ∨
  (∃ L' num' den',zmu m.1.toNat (ent m) s num0 L' num' den'∧(∀ x ∈ L',∀ k,k < m.1.toNat→zqb (ent m) L' num' den' x k) ∧
   Z29L N k2 kr M num den out (z33 L) (p:Int) t34 t35 m.1 m.2.1 m.2.2 = k2 num' den' out (z33 L') t34 t35 m.1 m.2.1 m.2.2):=by
 have hdim:=z28 hm
 obtain ⟨n,r,hn,hr,hn1,hn5,hnr,hr8,hl⟩:=z17 hdim
 intro M
 induction M with
 | zero=>intro p _ _ _ _ _ h; omega
 | succ M ih =>
  intro p L num den hf hp hM hE
  have hle:=hf.le
  simp only [Z29L,Z30,Z31]
  by_cases hlt:p < L.length
  ·rw [ct (dt (by rw [z20]; omega))]
   simp only [Z32,Z33,Z34,Z35]
   rw [ct (z1b (by rw [z20]; exact hlt))]
   simp only [Z36,Z37,Z38,Z39,Int.toNat_natCast,z3m,hf.nl]
   have hin:=inner (ρ:=ρ) (N:=N) (out:=out) hm hcl (fun num3 den4 out5 piece7 at8 t34 t35 m1_0 m1_1 m1_2=>Z54 N num3 den4 out5 piece7 at8 t34 t35 m1_0 m1_1 m1_2 (fun num3 den4 out5 piece7 at8 t34 t35 m1_0 m1_1 m1_2=>Z29L N k2 kr M num3 den4 out5 piece7 at8 t34 t35 m1_0 m1_1 m1_2)) kr t34 t35 N 0 L num den hf hlt rfl (by omega) (by omega) hE (fun k hk=>by omega)
   rw [show ((0:Nat):Int) = 0 from rfl] at hin
   rcases hin with hc | ⟨L',num',den',h1,h2,h3,h4⟩
   ·exact Or.inl hc
   ·rw [h4]
    simp only [Z54]
    rw [z1c (by rw [z0z]; omega)]
    exact ih (p + 1) L' num' den' h1 h2 (by omega) h3
  ·rw [cf (df (by rw [z20]; omega))]
   refine Or.inr ⟨L,num,den,hf,fun x hx k hk=>?_,rfl⟩
   obtain ⟨k',hk',e⟩:=z92 hx
   rw [← e]
   exact hE k' (by omega) k hk
theorem common (hf:zmu m.1.toNat (ent m) s num0 L num den) (h5:m.1.toNat≤5) {Q:Int} (q1:0 < Q) (q2:Q≤96059601) (q3:∀ x ∈ L,0 < den.getD x 0∧den.getD x 0 ∣ Q) (k6:List Int→List Int→List Int→List Int→Int→Int→Int→Int→Int→List Int→Option ρ) (t34 t35:Int):∀ (M k:Nat) (c:Int),k≤L.length→L.length - k < M→0 < c→c ∣ Q→(∀ k',k' < k→den.getD (L.getD k' 0) 0 ∣ c) →
  ∃ c',0 < c'∧c' ∣ Q∧(∀ x ∈ L,den.getD x 0 ∣ c') ∧
   Z61L N k6 M num den out (z33 L) c t34 t35 ((z33 L).length:Int) (k:Int) m.1 m.2.1 m.2.2 = k6 num den out (z33 L) c' t34 t35 m.1 m.2.1 m.2.2:=by
 have hle:=hf.le
 intro M
 induction M with
 | zero=>intro k _ _ h; omega
 | succ M ih =>
  intro k c hk hM hc hcQ hd
  simp only [Z61L,Z62]
  by_cases hlt:k < L.length
  ·have hxm:L.getD k 0 ∈ L:=z1m 0 hlt
   obtain ⟨d1,d2⟩:=q3 _ hxm
   have i1:inB (k:Int) (z33 L).length = true:=z1b (by rw [z20]; exact hlt)
   have i2:inB ((L.getD k 0:Nat):Int) den.length = true:=z1b (by rw [hf.dl]; exact hf.lt _ hxm)
   obtain ⟨g1,g2,g3,g4,g5,g6,g7⟩:=lcm_step hc d1 hcQ d2 q1
   have b1:=Int.le_of_dvd q1 hcQ
   have b2:=Int.le_of_dvd q1 d2
   have b3:=Int.le_of_dvd q1 g5
   rw [ct (dt (by rw [z20]; omega)),ct i1]
   simp only [Int.toNat_natCast,z3m]
   rw [ct i2,ct i2,ct (show z29.P c (den.getD (L.getD k 0) 0) = true by
    simp only [z29.P,Bool.and_eq_true,decide_eq_true_eq]
    omega)]
   have eg:z29.g c (den.getD (L.getD k 0) 0) = (Int.gcd c (den.getD (L.getD k 0) 0):Int):=rfl
   rw [ct (nt (by rw [eg]; omega)),eg,z1g (n:=Int.tdiv c _) (by omega) (by omega),z1g (by omega) (by omega),z1c (by rw [z0z]; omega)]
   refine ih (k + 1) _ hlt (by omega) g4 g5 (fun k' hk'=>?_)
   by_cases e:k' = k
   ·subst e; exact g7
   ·exact Int.dvd_trans (hd k' (by omega)) g6
  ·rw [cf (df (by rw [z20]; omega))]
   refine ⟨c,hc,hcQ,fun x hx=>?_,rfl⟩
   obtain ⟨k',hk',e⟩:=z92 hx
   rw [← e]
   exact hd k' (by omega)
structure O2 (n:Nat) (L:List Nat) (num den out0:List Int) (c:Int) (k:Nat) (out:List Int) (g:Int):Prop where
 len:out.length = n
 old:∀ x,x < n→(∀ k',k' < k→x≠L.getD k' 0)→out.getD x 0 = out0.getD x 0
 val:∀ k',k' < k→out.getD (L.getD k' 0) 0 * den.getD (L.getD k' 0) 0 = c * num.getD (L.getD k' 0) 0∧0 < out.getD (L.getD k' 0) 0∧out.getD (L.getD k' 0) 0≤9227446944279201
 gcd:g = ((z9l ((List.range k).map fun t=>out.getD (L.getD t 0) 0):Nat):Int)
theorem O2.g_range {n:Nat} {out0:List Int} {c g:Int} {k:Nat} (h:O2 n L num den out0 c k out g):0≤g∧g≤9227446944279201∧(0 < k→0 < g):=by
 have h0:0≤g:=by rw [h.gcd]; omega
 by_cases e:k = 0
 ·subst e
  have:=h.gcd
  simp [z9l] at this
  omega
 ·obtain ⟨_,a1,a2⟩:=h.val 0 (by omega)
  have hd:g ∣ out.getD (L.getD 0 0) 0:=by
   rw [h.gcd]
   exact zgf (List.mem_map.2 ⟨0,List.mem_range.2 (by omega),rfl⟩)
  have:=Int.le_of_dvd a1 hd
  refine ⟨h0,by omega,fun _=>?_⟩
  rcases Int.lt_or_le 0 g with h' | h'
  ·exact h'
  ·have e:g = 0:=by omega
   rw [e] at hd
   have:=Int.zero_dvd.1 hd
   omega
theorem outs (hf:zmu m.1.toNat (ent m) s num0 L num den) (h5:m.1.toNat≤5) {c:Int} (c1:0 < c) (c2:c≤96059601) (q3:∀ x ∈ L,0 < num.getD x 0∧num.getD x 0≤96059601∧0 < den.getD x 0∧den.getD x 0 ∣ c) (out0:List Int) (k8:List Int→List Int→List Int→List Int→Int→Int→Int→Int→Int→List Int→Option ρ) (t34 t35:Int):∀ (M k:Nat) (out:List Int) (g:Int),k≤L.length→L.length - k < M→O2 m.1.toNat L num den out0 c k out g →
  ∃ out' g',O2 m.1.toNat L num den out0 c L.length out' g' ∧
   Z69L N k8 M num den out (z33 L) c g t34 t35 ((z33 L).length:Int) (k:Int) m.1 m.2.1 m.2.2 = k8 num den out' (z33 L) g' t34 t35 m.1 m.2.1 m.2.2:=by
 have hle:=hf.le
 intro M
 induction M with
 | zero=>intro k _ _ _ h; omega
 | succ M ih =>
  intro k out g hk hM ho
  simp only [Z69L,Z70]
  by_cases hlt:k < L.length
  ·have hxm:L.getD k 0 ∈ L:=z1m 0 hlt
   have hxn:=hf.lt _ hxm
   obtain ⟨d1,d2,d3,d4⟩:=q3 _ hxm
   have i1:inB (k:Int) (z33 L).length = true:=z1b (by rw [z20]; exact hlt)
   have i2:inB ((L.getD k 0:Nat):Int) den.length = true:=z1b (by rw [hf.dl]; exact hxn)
   have i3:inB ((L.getD k 0:Nat):Int) num.length = true:=z1b (by rw [hf.nl]; exact hxn)
   have i4:inB ((L.getD k 0:Nat):Int) out.length = true:=z1b (by rw [ho.len]; exact hxn)
   have hxo:L.getD k 0 < out.length:=by rw [ho.len]; exact hxn
   have hg:=ho.g_range
   have t1:Int.tdiv c (den.getD (L.getD k 0) 0) * den.getD (L.getD k 0) 0 = c:=Int.tdiv_mul_cancel d4
   have t2:0 < Int.tdiv c (den.getD (L.getD k 0) 0)∧Int.tdiv c (den.getD (L.getD k 0) 0)≤c:=by
    generalize Int.tdiv c (den.getD (L.getD k 0) 0) = t at t1 ⊢
    have:0 < t:=by
     rcases Int.lt_or_le 0 t with h' | h'
     ·exact h'
     ·have:=Int.mul_nonpos_of_nonpos_of_nonneg h' (Int.le_of_lt d3); omega
    have:=Int.mul_le_mul_of_nonneg_left (show (1:Int)≤den.getD (L.getD k 0) 0 by omega) (Int.le_of_lt this)
    exact ⟨by omega,by omega⟩
   have t3:0 < Int.tdiv c (den.getD (L.getD k 0) 0) * num.getD (L.getD k 0) 0:=Int.mul_pos t2.1 d1
   have t4:Int.tdiv c (den.getD (L.getD k 0) 0) * num.getD (L.getD k 0) 0≤96059601 * 96059601:=Int.mul_le_mul (by omega) d2 (by omega) (by omega)
   rw [ct (dt (by rw [z20]; omega)),ct i1]
   simp only [Int.toNat_natCast,z3m]
   rw [ct i2,ct (nt (by omega)),ct i3,ct i4]
   simp only [z1g (show -9223372036854775808≤Int.tdiv c (den.getD (L.getD k 0) 0) by omega) (by omega)]
   simp only [z1g (show -9223372036854775808≤Int.tdiv c (den.getD (L.getD k 0) 0) * num.getD (L.getD k 0) 0 by omega) (by omega)]
   generalize hv:Int.tdiv c (den.getD (L.getD k 0) 0) * num.getD (L.getD k 0) 0 = v at t3 t4 ⊢
   have hself:(out.set (L.getD k 0) v).getD (L.getD k 0) 0 = v:=by rw [z2a hxo,if_pos rfl]
   have hget:∀ t,t < k→(out.set (L.getD k 0) v).getD (L.getD t 0) 0 = out.getD (L.getD t 0) 0:=fun t ht'=>by
    rw [z2a hxo,if_neg (fun e=>by have:=z60 hf.nd hlt (by omega) e; omega)]
   rw [ct (z1b (by rw [List.length_set]; exact hxo)),hself,ct (show z29.P g v = true by
    simp only [z29.P,Bool.and_eq_true,decide_eq_true_eq]
    omega),z1c (by rw [z0z]; omega)]
   refine ih (k + 1) _ _ hlt (by omega) ⟨by rw [List.length_set]; exact ho.len, ?_, ?_, ?_⟩
   ·intro x hx hall
    rw [z2a hxo,if_neg (fun e=>hall k (by omega) e.symm)]
    exact ho.old x hx (fun t ht'=>hall t (by omega))
   ·intro t ht'
    by_cases e:t = k
    ·subst e
     rw [hself]
     refine ⟨?_,t3,by omega⟩
     rw [← hv]
     have e1:=t1
     grind
    ·rw [hget t (by omega)]
     exact ho.val t (by omega)
   ·rw [List.range_succ,List.map_append,List.map_cons,List.map_nil,hself]
    rw [show (List.range k).map (fun t=>(out.set (L.getD k 0) v).getD (L.getD t 0) 0) = (List.range k).map (fun t=>out.getD (L.getD t 0) 0) from List.map_congr_left (fun t ht'=>hget t (List.mem_range.1 ht'))]
    rw [ho.gcd]
    exact ztj _ _ v (by omega) rfl
  ·have e:k = L.length:=by omega
   subst e
   exact ⟨out,g,ho,by rw [cf (df (by rw [z20]; omega))]⟩
theorem divs (hf:zmu m.1.toNat (ent m) s num0 L num den) (h5:m.1.toNat≤5) {out2:List Int} {g:Int} (hg:0 < g) (hv:∀ x ∈ L,0 < out2.getD x 0∧out2.getD x 0≤9227446944279201) (k10:List Int→List Int→List Int→Int→Int→Int→Int→List Int→Option ρ) (t34 t35:Int):∀ (M k:Nat) (d:List Int),k≤L.length→L.length - k < M→T3 m (L,[]) out2 g k d →
  ∃ d',T3 m (L,[]) out2 g L.length d'∧Z74L N k10 M num den d (z33 L) g t34 t35 ((z33 L).length:Int) (k:Int) m.1 m.2.1 m.2.2 = k10 num den d' t34 t35 m.1 m.2.1 m.2.2:=by
 have hle:=hf.le
 intro M
 induction M with
 | zero=>intro k _ _ h; omega
 | succ M ih =>
  intro k d hk hM ht
  simp only [Z74L,Z75]
  by_cases hlt:k < L.length
  ·have hxm:L.getD k 0 ∈ L:=z1m 0 hlt
   have hxn:=hf.lt _ hxm
   obtain ⟨v1,v2⟩:=hv _ hxm
   have hcur:=ht.cur hf.nd hf.lt hlt
   have hdv:0≤Int.tdiv (out2.getD (L.getD k 0) 0) g∧Int.tdiv (out2.getD (L.getD k 0) 0) g≤9227446944279201:=by
    rw [Int.tdiv_eq_ediv_of_nonneg (by omega)]
    refine ⟨Int.ediv_nonneg (by omega) (by omega), ?_⟩
    have:=Int.ediv_le_self (a:=out2.getD (L.getD k 0) 0) g (by omega)
    omega
   have i4:inB ((L.getD k 0:Nat):Int) d.length = true:=z1b (by rw [ht.len]; exact hxn)
   have hcur':d.getD (L.getD k 0) 0 = out2.getD (L.getD k 0) 0:=hcur
   rw [ct (dt (by rw [z20]; omega)),ct (z1b (by rw [z20]; exact hlt))]
   simp only [Int.toNat_natCast,z3m]
   rw [ct i4,ct (nt (by omega)),ct i4,hcur',z1g (by omega) (by omega),z1c (by rw [z0z]; omega)]
   exact ih (k + 1) _ hlt (by omega) (ht.step hf.nd hf.lt hlt)
  ·have e:k = L.length:=by omega
   subst e
   exact ⟨d,ht,by rw [cf (df (by rw [z20]; omega))]⟩
theorem outer (hN:10≤N) (hm:z1l m = true) (kr:List Int→Option ρ):∀ (M i:Nat) (num den out:List Int),OInv m.1.toNat (ent m) num out→den.length = m.1.toNat→i≤m.1.toNat→(∀ x,x < i→num.getD x 0≠0)→m.1.toNat - i < M →
  Z10L N (fun out5=>Z77 N out5 kr) kr M num den out (m.1.toNat:Int) (i:Int) m.1 m.2.1 m.2.2 = kr (z6h m):=by
 have hdim:=z28 hm
 obtain ⟨n,r,hn,hr,hn1,hn5,hnr,hr8,hl⟩:=z17 hdim
 intro M
 induction M with
 | zero=>intro i _ _ _ _ _ _ _ h; omega
 | succ M ih =>
  intro i num den out hO hdl hi hpos hM
  simp only [Z10L,Z11,Z12,Z13,Z14]
  by_cases hlt:i < m.1.toNat
  ·rw [ct' (by rw [z1x]; exact dt (by omega))]
   simp only [Z15,Z16,Z17,Z18,Z19,Z20]
   rw [ct (z1b (by rw [hO.nl]; exact hlt)),Int.toNat_natCast]
   by_cases hz:num.getD i 0 = 0
   ·rw [cf (nf hz)]
    simp only [Z21,Z22]
    rw [ct (z1b (by rw [hO.nl]; exact hlt)),ct (z1b (by rw [hdl]; exact hlt)),Int.toNat_natCast]
    simp only [Z23,Z24,Z25,Z26,Z27,Z28,Z29]
    have hnl:i < num.length:=by rw [hO.nl]; exact hlt
    have hdl':i < den.length:=by rw [hdl]; exact hlt
    have f0:zmu m.1.toNat (ent m) i num [i] (num.set i 1) (den.set i 1):=by
     refine ⟨by rw [List.length_set]; exact hO.nl,by rw [List.length_set]; exact hdl,by simp,fun x hx=>by rw [List.mem_singleton] at hx; omega,rfl,by simp, ?_, ?_, ?_, ?_⟩
     ·intro x hx hni
      rw [z2a hnl,if_neg (fun e=>hni (by simp [e]))]
     ·intro x hx
      rw [List.mem_singleton] at hx; subst hx; exact hz
     ·refine ⟨1,by omega,by simp,fun x hx=>?_⟩
      rw [List.mem_singleton] at hx
      subst hx
      rw [z2a hnl,if_pos rfl,z2a hdl',if_pos rfl]
      exact ⟨by omega,by simp,by omega,Int.dvd_refl _,by decide⟩
     ·intro e he x hx
      rw [List.mem_singleton] at hx
      subst hx
      rw [z2a hnl,if_pos rfl,z2a hdl',if_pos rfl]
    have hmid:=middle (ρ:=ρ) (out:=out) hN hm hO.closed (fun num3 den4 out5 piece7 t34 t35 m1_0 m1_1 m1_2=>Z55 N num3 den4 out5 piece7 t34 t35 m1_0 m1_1 m1_2 (fun num3 den4 out5 t34 t35 m1_0 m1_1 m1_2=>Z76 N num3 den4 out5 t34 t35 m1_0 m1_1 m1_2 (fun num3 den4 out5 t34 t35 m1_0 m1_1 m1_2=>Z10L N (fun out5=>Z77 N out5 kr) kr M num3 den4 out5 t34 t35 m1_0 m1_1 m1_2))) kr (m.1.toNat:Int) (i:Int) N 0 [i] (num.set i 1) (den.set i 1) f0 (by omega) (by omega) (fun k' hk'=>by omega)
    rw [show ((0:Nat):Int) = 0 from rfl,show z33 [i] = [(i:Int)] from rfl] at hmid
    rcases hmid with ⟨h1,h2⟩ | ⟨L,num',den',hf,hE,h1⟩
    ·rw [h1,zto h2]
    ·rw [h1]
     have hle:=hf.le
     obtain ⟨Q,q1,q2,q3⟩:=hf.frac
     have pw:=pow4 (k:=L.length - 1) (by omega)
     simp only [Z55,Z56,Z57,Z58,Z59,Z60,Z61]
     obtain ⟨c,c1,c2,c3,c4⟩:=common (ρ:=ρ) (N:=N) (out:=out) (num:=num') (m:=m) hf (by omega) q1 (by omega) (fun x hx=>⟨(q3 x hx).2.2.1,(q3 x hx).2.2.2.1⟩) (fun num3 den4 out5 piece7 common16 t34 t35 m1_0 m1_1 m1_2=>Z63 N num3 den4 out5 piece7 common16 t34 t35 m1_0 m1_1 m1_2 (fun num3 den4 out5 t34 t35 m1_0 m1_1 m1_2=>Z76 N num3 den4 out5 t34 t35 m1_0 m1_1 m1_2 (fun num3 den4 out5 t34 t35 m1_0 m1_1 m1_2=>Z10L N (fun out5=>Z77 N out5 kr) kr M num3 den4 out5 t34 t35 m1_0 m1_1 m1_2))) (m.1.toNat:Int) (i:Int) N 0 1 (by omega) (by omega) (by omega) (Int.one_dvd _) (fun k' hk'=>by omega)
     rw [show ((0:Nat):Int) = 0 from rfl] at c4
     rw [c4]
     have cQ:=Int.le_of_dvd q1 c2
     simp only [Z63,Z64,Z65,Z66,Z67,Z68,Z69]
     obtain ⟨out2,g2,o1,o2⟩:=outs (ρ:=ρ) (N:=N) (num:=num') (m:=m) hf (by omega) c1 (by omega) (fun x hx=>⟨(q3 x hx).1,by have:=(q3 x hx).2.1; omega,(q3 x hx).2.2.1,c3 x hx⟩) out (fun num3 den4 out5 piece7 g19 t34 t35 m1_0 m1_1 m1_2=>Z71 N num3 den4 out5 piece7 g19 t34 t35 m1_0 m1_1 m1_2 (fun num3 den4 out5 t34 t35 m1_0 m1_1 m1_2=>Z76 N num3 den4 out5 t34 t35 m1_0 m1_1 m1_2 (fun num3 den4 out5 t34 t35 m1_0 m1_1 m1_2=>Z10L N (fun out5=>Z77 N out5 kr) kr M num3 den4 out5 t34 t35 m1_0 m1_1 m1_2))) (m.1.toNat:Int) (i:Int) N 0 out 0 (by omega) (by omega) ⟨hO.ol,fun _ _ _=>rfl,fun k hk=>by omega,rfl⟩
     rw [show ((0:Nat):Int) = 0 from rfl] at o2
     rw [o2]
     have hg2:=o1.g_range.2.2 hf.pos
     have hval:∀ x ∈ L,out2.getD x 0 * den'.getD x 0 = c * num'.getD x 0∧0 < out2.getD x 0∧out2.getD x 0≤9227446944279201:=by
      intro x hx
      obtain ⟨k,hk,e⟩:=z92 hx
      rw [← e]
      exact o1.val k hk
     simp only [Z71,Z72,Z73,Z74]
     obtain ⟨out3,p1,p2⟩:=divs (ρ:=ρ) (N:=N) (num:=num') (m:=m) hf (by omega) hg2 (fun x hx=>(hval x hx).2) (fun num3 den4 out5 t34 t35 m1_0 m1_1 m1_2=>Z76 N num3 den4 out5 t34 t35 m1_0 m1_1 m1_2 (fun num3 den4 out5 t34 t35 m1_0 m1_1 m1_2=>Z10L N (fun out5=>Z77 N out5 kr) kr M num3 den4 out5 t34 t35 m1_0 m1_1 m1_2)) (m.1.toNat:Int) (i:Int) N 0 out2 (by omega) (by omega) ⟨o1.len,fun _ _ _=>rfl,fun k hk=>by omega⟩
     rw [show ((0:Nat):Int) = 0 from rfl] at p2
     rw [p2]
     have hgl:g2 = ((z9l (L.map fun x=>out2.getD x 0):Nat):Int):=by
      rw [← zjv L (fun x=>out2.getD x 0)]
      exact o1.gcd
     obtain ⟨r1,r2,r3⟩:=hO.piece (out3:=out3) hf hE c1 hg2 (fun x hx=>(hval x hx).1) hgl (fun x hx=>by
      obtain ⟨k,hk,e⟩:=z92 hx
      have:=p1.val k hk
      rw [← e]
      rw [show out3.getD (L.getD k 0) 0 = _ from this]
      refine Int.tdiv_mul_cancel ?_
      rw [hgl]
      exact zgf (List.mem_map.2 ⟨L.getD k 0,z1m 0 hk,rfl⟩)) (fun x hx hni=>by
      have hne:∀ k',k' < L.length→x≠L.getD k' 0:=fun k' hk' e=>hni (by rw [e]; exact z1m 0 hk')
      rw [p1.out x hx hne,o1.old x hx hne]) p1.len
     simp only [Z76]
     rw [z1c (by rw [z0z]; omega)]
     exact ih (i + 1) num' den' out3 r1 hf.dl hlt (fun x hx=>by
      by_cases e:x = i
      ·subst e; exact r2
      ·exact r3 x (by omega) (hpos x (by omega))) (by omega)
   ·rw [ct (nt hz)]
    simp only [Z76]
    rw [z1c (by rw [z0z]; omega)]
    exact ih (i + 1) num den out hO hdl hlt (fun x hx=>by
     by_cases e:x = i
     ·subst e; exact hz
     ·exact hpos x (by omega)) (by omega)
  ·rw [cf' (by rw [z1x]; exact df (by omega))]
   simp only [Z77]
   rw [hO.fac (fun x hx=>hpos x (by omega)),ct' (by rw [hO.ol,Nat.blt_eq]; omega)]
end
theorem ok:Spec:=fun m hb hp=>⟨10,fun N hN=>by
 have hm:z1l m = true:=hp
 have hdim:=z28 hm
 obtain ⟨n,r,hn,hr,hn1,hn5,hnr,hr8,hl⟩:=z17 hdim
 have hz:∀ x,(List.replicate m.1.toNat (0:Int)).getD x 0 = 0:=fun x=>by
  rw [List.getD_eq_getElem?_getD,List.getElem?_replicate]
  split <;> rfl
 have hc:(leB 0 m.1 && decide (m.1 < 1099511627776)) = true:=by rw [zfo (by omega),dt (by omega)]; rfl
 simp only [Z0,Z1,Z2,Z3]
 rw [ct hc,ct hc]
 have key:Z4 N (List.replicate m.1.toNat 0) (List.replicate m.1.toNat 0) m.1 m.2.1 m.2.2 (fun t2=>some ((),(t2,()))) = some ((),(g m,())):=by
  simp only [Z4,Z5]
  rw [ct hc]
  simp only [Z6,Z7,Z8,Z9,Z10,List.length_replicate]
  have:=outer (ρ:=Unit × List Int × Unit) hN hm (fun t2=>some ((),(t2,()))) N 0 (List.replicate m.1.toNat 0) (List.replicate m.1.toNat 0) (List.replicate m.1.toNat 0) ⟨by simp,by simp,fun y hy h=>absurd (hz y) h,fun j hj h=>absurd (hz j) h⟩ (by simp) (by omega) (fun x hx=>by omega) (by omega)
  exact this
 rw [key]
 simp only [bo,z3h]⟩
end z02
end
end Go.Fw
namespace Go.Fw
section
variable {ρ:Type}
namespace z1o
def g (m:Int × Int × List Int):Bool:=z1l m && !decide (z6h m = [])
end z1o
namespace z1o
def Z0 {ρ:Type} (N:Nat) (a:MT) (kr:Bool→Option ρ):Option ρ :=
 cond (lk N ((z46.g a)))
 (
  cond (lk N (z02.P a)) (
   kr (lk N (!(decide ((z02.g a).length = 0))))) none)
 (
  kr false)
def Spec:Prop:=∀  (v0:MT),Ty.bd (.pair (.int .i64) (.pair (.int .i64) (.sl 0 (.int .i64)))) v0→∃ N0,∀ N,N0≤N→Z0 N v0 (fun v2=>some ((),(v2,()))) = some ((),((g v0),()))
theorem ok:Spec:=fun m hb=>⟨0,fun N hN=>by
 simp only [Z0,z1x,g,z46.g,z02.P,z02.g]
 cases z1l m
 ·rfl
 ·by_cases h:z6h m = []
  ·rw [dt h,dt (by rw [h]; rfl)]; rfl
  ·rw [df h,df (fun e=>h (List.length_eq_zero_iff.1 e))]; rfl⟩
end z1o
end
end Go.Fw
namespace Go.Fw
section
variable {ρ:Type}
namespace z06
def g (m:Int × Int × List Int):Bool:=z1o.g m && decide (zj0 m = [])
end z06
namespace z06
def Z1 {ρ:Type} (N:Nat) (a:MT) (kn:I2 (LI→Option ρ)):Option ρ :=
 kn a.1 a.2.1 a.2.2
def Z3 {ρ:Type} (N:Nat) (a b:Int) (c:LI) (kn:I2 (LI→Option ρ)) (kr:Bool→Option ρ):Option ρ :=
 cond (!(lk N ((z1o.g (a,(b,c))))))
 (
  kr false)
 (
  kn a b c)
def Z5 {ρ:Type} (N:Nat) (a b:Int) (c:LI) (kn:I2 (LI→LI→Option ρ)):Option ρ :=
 kn a b c ([]:List Int)
def Z8 {ρ:Type} (N:Nat) (a b:Int) (c d:LI) (kn:I3 (LI→LI→Option ρ)):Option ρ :=
 kn 0 a b c d
def Z11 {ρ:Type} (N:Nat) (a b c:Int) (d e:LI) (kn:I3 (LI→LI→Option ρ)) (k0:I2 (LI→LI→Option ρ)):Option ρ :=
 cond (lk N (decide (a < b)))
 (
  kn (w64 (a + 1)) b c d (mAdd e a))
 (
  k0 b c d e)
def Z10L {ρ:Type} (N:Nat) (k0:I2 (LI→LI→Option ρ)):Nat→Int→Int→Int→LI→LI→Option ρ
 | 0,_,_,_,_,_=>none
 | M + 1,a,b,c,d,e=>Z11 N a b c d e (fun a b c d e=>Z10L N k0 M a b c d e) k0
def Z10 N a b c d e k0:=(Z10L N k0 N a b c d e:Option ρ)
def Z9 N a b c d e kn:=(Z10 N a b c d e kn:Option ρ)
def Z7 N a b c d kn:=(Z8 N a b c d (fun e a b c d=>Z9 N e a b c d kn):Option ρ)
def Z14 {ρ:Type} (N:Nat) (a b:Int) (c d:LI) (kn:I4 (LI→LI→Option ρ)):Option ρ :=
 kn a 0 a b c d
def Z18 {ρ:Type} (N:Nat) (a b c d:Int) (e f:LI) (kn:I2 (Bool→I2 (LI→LI→Option ρ))):Option ρ :=
 kn a b (lk N (decide (b < a))) c d e f
def Z20 {ρ:Type} (N:Nat) (b c:Int) (d:Bool) (e f:Int) (g a:LI) (kn:I4 (LI→LI→Option ρ)) (k2:LI→Option ρ):Option ρ :=
 cond (d)
 (
  kn b c e f g a)
 (
  k2 a)
def Z24 {ρ:Type} (N:Nat) (b c a d:Int) (e f:LI) (kn:I6 (LI→LI→Option ρ)):Option ρ :=
 kn b c a 0 a d e f
def Z28 {ρ:Type} (N:Nat) (c d a b e f:Int) (g h:LI) (kn:I4 (Bool→I2 (LI→LI→Option ρ))):Option ρ :=
 kn c d a b (lk N (decide (b < a))) e f g h
def Z30 {ρ:Type} (N:Nat) (a b g h:Int) (i:Bool) (c d:Int) (e f:LI) (kn:I6 (LI→LI→Option ρ)) (k4:I4 (LI→LI→Option ρ)):Option ρ :=
 cond (i)
 (
  kn a b g h c d e f)
 (
  k4 a b c d e f)
def Z34 {ρ:Type} (N:Nat) (b c d a e f:Int) (g h:LI) (kn:I7 (LI→LI→Option ρ)):Option ρ :=
 kn a b c d a e f g h
def Z36 {ρ:Type} (N:Nat) (a b c d e f g:Int) (h i:LI) (kn:Int→Bool→I6 (LI→LI→Option ρ)):Option ρ :=
 kn a false b c d e f g h i
def Z39 {ρ:Type} (N:Nat) (b:Int) (c:Bool) (d e f g a h:Int) (i j:LI) (kn:Int→Bool→I8 (LI→LI→Option ρ)):Option ρ :=
 kn b c d e f g a 0 a h i j
def Z42 {ρ:Type} (N:Nat) (b:Int) (o:Bool) (h i j l m a c d:Int) (e f:LI) (kn:Int→Bool→I8 (LI→LI→Option ρ)) (k6:Int→Bool→I6 (LI→LI→Option ρ)):Option ρ :=
 cond (lk N (decide (a < m)))
 (
  cond (o)
  (
   kn b true h i j l m (w64 (a + 1)) c d e f)
  (
   cond (lk N (zgc f a))
   (
    cond (lk N (z13.P (c,(d,e)) a b)) (
     kn b (lk N (decide (0 < (z13.g (c,(d,e)) a b)))) h i j l m (w64 (a + 1)) c d e f) none)
   (
    kn b false h i j l m (w64 (a + 1)) c d e f)))
 (
  k6 b o h i j l c d e f)
def Z41L {ρ:Type} (N:Nat) (k6:Int→Bool→I6 (LI→LI→Option ρ)):Nat→Int→Bool→Int→Int→Int→Int→Int→Int→Int→Int→LI→LI→Option ρ
 | 0,_,_,_,_,_,_,_,_,_,_,_,_=>none
 | M + 1,a,b,c,d,e,f,g,h,i,j,l,m=>Z42 N a b c d e f g h i j l m (fun a b c d e f g h i j l m=>Z41L N k6 M a b c d e f g h i j l m) k6
def Z41 N a b c d e f g h i j l m k6:=(Z41L N k6 N a b c d e f g h i j l m:Option ρ)
def Z40 N a b c d e f g h i j l m kn:=(Z41 N a b c d e f g h i j l m kn:Option ρ)
def Z38 N a b c d e f g h i j kn:=(Z39 N a b c d e f g h i j (fun a b c d e f l m g h i j=>Z40 N a b c d e f l m g h i j kn):Option ρ)
def Z43 {ρ:Type} (N:Nat) (i:Int) (j:Bool) (a b c d e f:Int) (g h:LI) (kn:I6 (LI→LI→Option ρ)):Option ρ :=
 cond (!(j))
 (
  kn a b c d e f g (zta h i))
 (
  kn a b c d e f g h)
def Z37 N a b c d e f g h i j kn:=(Z38 N a b c d e f g h i j (fun a b c d e f g h i j=>Z43 N a b c d e f g h i j kn):Option ρ)
def Z35 N a b c d e f g h i kn:=(Z36 N a b c d e f g h i (fun a j b c d e f g h i=>Z37 N a j b c d e f g h i kn):Option ρ)
def Z33 N a b c d e f g h kn:=(Z34 N a b c d e f g h (fun i a b c d e f g h=>Z35 N i a b c d e f g h kn):Option ρ)
def Z32 N a b c d e f g h kn:=(Z33 N a b c d e f g h kn:Option ρ)
def Z44 {ρ:Type} (N:Nat) (a b c d e f:Int) (g h:LI) (kn:I6 (LI→LI→Option ρ)):Option ρ :=
 kn a b c (w64 (d + 1)) e f g h
def Z31 N a b c d e f g h kn:=(Z32 N a b c d e f g h (fun a b c d e f g h=>Z44 N a b c d e f g h kn):Option ρ)
def Z29 N a b c d i e f g h kn k4:=(Z30 N a b c d i e f g h (fun a b c d e f g h=>Z31 N a b c d e f g h kn) k4:Option ρ)
def Z27 N a b c d e f g h kn k4:=(Z28 N a b c d e f g h (fun a b c d i e f g h=>Z29 N a b c d i e f g h kn k4):Option ρ)
def Z26L {ρ:Type} (N:Nat) (k4:I4 (LI→LI→Option ρ)):Nat→Int→Int→Int→Int→Int→Int→LI→LI→Option ρ
 | 0,_,_,_,_,_,_,_,_=>none
 | M + 1,a,b,c,d,e,f,g,h=>Z27 N a b c d e f g h (fun a b c d e f g h=>Z26L N k4 M a b c d e f g h) k4
def Z26 N a b c d e f g h k4:=(Z26L N k4 N a b c d e f g h:Option ρ)
def Z25 N a b c d e f g h kn:=(Z26 N a b c d e f g h kn:Option ρ)
def Z23 N a b c d e f kn:=(Z24 N a b c d e f (fun a b g h c d e f=>Z25 N a b g h c d e f kn):Option ρ)
def Z22 N a b c d e f kn:=(Z23 N a b c d e f kn:Option ρ)
def Z45 {ρ:Type} (N:Nat) (a b c d:Int) (e f:LI) (kn:I4 (LI→LI→Option ρ)):Option ρ :=
 kn a (w64 (b + 1)) c d e f
def Z21 N a b c d e f kn:=(Z22 N a b c d e f (fun a b c d e f=>Z45 N a b c d e f kn):Option ρ)
def Z19 N a b g c d e f kn k2:=(Z20 N a b g c d e f (fun a b c d e f=>Z21 N a b c d e f kn) k2:Option ρ)
def Z17 N a b c d e f kn k2:=(Z18 N a b c d e f (fun a b g c d e f=>Z19 N a b g c d e f kn k2):Option ρ)
def Z16L {ρ:Type} (N:Nat) (k2:LI→Option ρ):Nat→Int→Int→Int→Int→LI→LI→Option ρ
 | 0,_,_,_,_,_,_=>none
 | M + 1,a,b,c,d,e,f=>Z17 N a b c d e f (fun a b c d e f=>Z16L N k2 M a b c d e f) k2
def Z16 N a b c d e f k2:=(Z16L N k2 N a b c d e f:Option ρ)
def Z15 N a b c d e f kn:=(Z16 N a b c d e f kn:Option ρ)
def Z13 N a b c d kn:=(Z14 N a b c d (fun e f a b c d=>Z15 N e f a b c d kn):Option ρ)
def Z46 {ρ:Type} (N:Nat) (a:LI) (kr:Bool→Option ρ):Option ρ :=
 kr (lk N (decide ((a.length:Int) = 0)))
def Z12 N b c d a kr:=(Z13 N b c d a (fun a=>Z46 N a kr):Option ρ)
def Z6 N a b c d kr:=(Z7 N a b c d (fun a b c d=>Z12 N a b c d kr):Option ρ)
def Z4 N a b c kr:=(Z5 N a b c (fun a b c d=>Z6 N a b c d kr):Option ρ)
def Z2 N a b c kr:=(Z3 N a b c (fun a b c=>Z4 N a b c kr) kr:Option ρ)
def Z0 N a kr:=(Z1 N a (fun b c d=>Z2 N b c d kr):Option ρ)
def Spec:Prop:=∀  (v0:MT),Ty.bd (.pair (.int .i64) (.pair (.int .i64) (.sl 0 (.int .i64)))) v0→∃ N0,∀ N,N0≤N→Z0 N v0 (fun v2=>some ((),(v2,()))) = some ((),((g v0),()))
section
variable {ρ:Type} {N:Nat} {m:Int × Int × List Int}
theorem inner (hd:z40 m = true) {v:Nat} (hv:v < m.1.toNat) (a b c d:Int) (L:List Int) (k6:Int→Bool→Int→Int→Int→Int→Int→Int→List Int→List Int→Option ρ):∀ (M j:Nat) (led:Bool),j≤m.1.toNat→m.1.toNat - j < M →
  Z41L N k6 M (v:Int) led a b c d m.1 (j:Int) m.1 m.2.1 m.2.2 L = k6 (v:Int) (led || ((List.range m.1.toNat).drop j).any fun i=>zgc L (i:Int) && z7w m i v) a b c d m.1 m.2.1 m.2.2 L:=by
 obtain ⟨n,r,hn,hr,_,hn5,hnr,_,_⟩:=z17 hd
 intro M
 induction M with
 | zero=>intro j _ _ h; omega
 | succ M ih =>
  intro j led hj hM
  simp only [Z41L,Z1,Z3,Z5,Z8,Z11,Z10,Z9,Z7,Z14,Z18,Z20,Z24,Z28,Z30,Z34,Z36,Z39,Z42,Z41,Z40,Z38,Z43,Z37,Z35,Z33,Z32,Z44,Z31,Z29,Z27,Z26,Z25,Z23,Z22,Z45,Z21,Z19,Z17,Z16,Z15,Z13,Z46,Z12,Z6,Z4,Z2,Z0]
  by_cases h:j < m.1.toNat
  ·have e1:z13.P (m.1,(m.2.1,m.2.2)) (j:Int) (v:Int) = true:=zmg hd (by omega) hv
   have e2:z13.g (m.1,(m.2.1,m.2.2)) (j:Int) (v:Int) = ent m j v:=z9i (by omega) j v
   rw [ct (dt (by omega)),ct e1,e2,z1c (by rw [z0z]; omega),ih (j + 1) _ h (by omega),ih (j + 1) _ h (by omega),ih (j + 1) _ h (by omega),z3q h,List.any_cons]
   simp only [z1x]
   show _ = k6 (v:Int) (led || (zgc L (j:Int) && decide (0 < ent m j v) || _)) a b c d m.1 m.2.1 m.2.2 L
   cases led
   ·cases zgc L (j:Int)
    ·rfl
    ·simp
   ·rfl
  ·rw [cf (df (by omega)),List.drop_of_length_le (by simp; omega)]
   simp
theorem row (hd:z40 m = true) (a b:Int) (k4:Int→Int→Int→Int→List Int→List Int→Option ρ) (hN:m.1.toNat < N):∀ (M j:Nat) (L:List Int),j≤m.1.toNat→m.1.toNat - j < M →
  Z26L N k4 M a b m.1 (j:Int) m.1 m.2.1 m.2.2 L = k4 a b m.1 m.2.1 m.2.2 (((List.range m.1.toNat).drop j).foldl (visL m) L):=by
 obtain ⟨n,r,hn,hr,_,hn5,hnr,_,_⟩:=z17 hd
 intro M
 induction M with
 | zero=>intro j _ _ h; omega
 | succ M ih =>
  intro j L hj hM
  simp only [Z26L,Z1,Z3,Z5,Z8,Z11,Z10,Z9,Z7,Z14,Z18,Z20,Z24,Z28,Z30,Z34,Z36,Z39,Z42,Z41,Z40,Z38,Z43,Z37,Z35,Z33,Z32,Z44,Z31,Z29,Z27,Z26,Z25,Z23,Z22,Z45,Z21,Z19,Z17,Z16,Z15,Z13,Z46,Z12,Z6,Z4,Z2,Z0]
  by_cases h:j < m.1.toNat
  ·have hin:=fun (k:Int→Bool→Int→Int→Int→Int→Int→Int→List Int→List Int→Option ρ)=>inner (N:=N) hd h a b m.1 (j:Int) L k N 0 false (by omega) (by omega)
   simp only [show ((0:Nat):Int) = 0 from rfl,List.drop_zero,Bool.false_or] at hin
   rw [ct' (by rw [z1x]; exact dt (by omega)),hin,z1c (by rw [z0z]; omega),ih (j + 1) _ h (by omega),ih (j + 1) _ h (by omega),z3q h,List.foldl_cons]
   show _ = k4 a b m.1 m.2.1 m.2.2 (((List.range m.1.toNat).drop (j + 1)).foldl (visL m) (cond (ledL m L j) L (zta L (j:Int))))
   show cond (!(ledL m L j)) _ _ = _
   cases ledL m L j <;> rfl
  ·rw [cf' (by rw [z1x]; exact df (by omega)),List.drop_of_length_le (by simp; omega)]; rfl
theorem rounds (hd:z40 m = true) (k2:List Int→Option ρ) (hN:m.1.toNat < N):∀ (M j:Nat) (L:List Int),j≤m.1.toNat→m.1.toNat - j < M →
  Z16L N k2 M m.1 (j:Int) m.1 m.2.1 m.2.2 L = k2 (ze8 (fun L=>(List.range m.1.toNat).foldl (visL m) L) (m.1.toNat - j) L):=by
 obtain ⟨n,r,hn,hr,_,hn5,hnr,_,_⟩:=z17 hd
 intro M
 induction M with
 | zero=>intro j _ _ h; omega
 | succ M ih =>
  intro j L hj hM
  simp only [Z16L,Z1,Z3,Z5,Z8,Z11,Z10,Z9,Z7,Z14,Z18,Z20,Z24,Z28,Z30,Z34,Z36,Z39,Z42,Z41,Z40,Z38,Z43,Z37,Z35,Z33,Z32,Z44,Z31,Z29,Z27,Z26,Z25,Z23,Z22,Z45,Z21,Z19,Z17,Z16,Z15,Z13,Z46,Z12,Z6,Z4,Z2,Z0]
  by_cases h:j < m.1.toNat
  ·have hin:=fun (k:Int→Int→Int→Int→List Int→List Int→Option ρ)=>row (N:=N) hd m.1 (j:Int) k hN N 0 L (by omega) (by omega)
   simp only [show ((0:Nat):Int) = 0 from rfl,List.drop_zero] at hin
   rw [ct' (by rw [z1x]; exact dt (by omega)),hin,z1c (by rw [z0z]; omega),ih (j + 1) _ h (by omega),show m.1.toNat - j = (m.1.toNat - (j + 1)) + 1 by omega]
   rfl
  ·rw [cf' (by rw [z1x]; exact df (by omega)),show m.1.toNat - j = 0 by omega]; rfl
theorem fill (hd:z40 m = true) (k0:Int→Int→List Int→List Int→Option ρ):∀ (M j:Nat),j≤m.1.toNat→m.1.toNat - j < M →
  Z10L N k0 M (j:Int) m.1 m.2.1 m.2.2 ((List.range j).map fun (i:Nat)=>(i:Int)) = k0 m.1 m.2.1 m.2.2 ((List.range m.1.toNat).map fun (i:Nat)=>(i:Int)):=by
 obtain ⟨n,r,hn,hr,_,hn5,hnr,_,_⟩:=z17 hd
 intro M
 induction M with
 | zero=>intro j _ h; omega
 | succ M ih =>
  intro j hj hM
  simp only [Z10L,Z1,Z3,Z5,Z8,Z11,Z10,Z9,Z7,Z14,Z18,Z20,Z24,Z28,Z30,Z34,Z36,Z39,Z42,Z41,Z40,Z38,Z43,Z37,Z35,Z33,Z32,Z44,Z31,Z29,Z27,Z26,Z25,Z23,Z22,Z45,Z21,Z19,Z17,Z16,Z15,Z13,Z46,Z12,Z6,Z4,Z2,Z0]
  by_cases h:j < m.1.toNat
  ·have e1:mAdd ((List.range j).map fun (i:Nat)=>(i:Int)) (j:Int) = (List.range (j + 1)).map fun (i:Nat)=>(i:Int):=by
    have:zgc ((List.range j).map fun (i:Nat)=>(i:Int)) (j:Int) = false:=by
     unfold zgc
     refine df fun hm=>?_
     obtain ⟨x,hx,e⟩:=List.mem_map.1 hm
     have:=List.mem_range.1 hx
     omega
    unfold mAdd
    rw [this,List.range_succ,List.map_append]
    rfl
   rw [ct (dt (by omega)),e1,z1c (by rw [z0z]; omega),ih (j + 1) h (by omega)]
  ·rw [cf (df (by omega)),show j = m.1.toNat by omega]
end
theorem ok:Spec:=fun m hb=>⟨6,fun N hN=>by
 simp only [Z1,Z3,Z5,Z8,Z11,Z10,Z9,Z7,Z14,Z18,Z20,Z24,Z28,Z30,Z34,Z36,Z39,Z42,Z41,Z40,Z38,Z43,Z37,Z35,Z33,Z32,Z44,Z31,Z29,Z27,Z26,Z25,Z23,Z22,Z45,Z21,Z19,Z17,Z16,Z15,Z13,Z46,Z12,Z6,Z4,Z2,Z0,z1x,g]
 cases h:z1o.g m
 ·rfl
 have hd:z40 m = true:=by
  simp only [z1o.g,z1l,Bool.and_eq_true] at h
  exact h.1.1
 obtain ⟨n,r,hn,hr,_,hn5,hnr,_,_⟩:=z17 hd
 have h1:=fun (k0:Int→Int→List Int→List Int→Option (Unit × Bool × Unit))=>fill (N:=N) hd k0 N 0 (by omega) (by omega)
 have h2:=fun (k2:List Int→Option (Unit × Bool × Unit)) (L:List Int)=>rounds (N:=N) hd k2 (by omega) N 0 L (by omega) (by omega)
 simp only [show ((0:Nat):Int) = 0 from rfl,List.range_zero,List.map_nil,Nat.sub_zero] at h1 h2
 rw [h1,h2]
 show some ((),(decide (((zj0 m).length:Int) = 0),())) = _
 have:decide (((zj0 m).length:Int) = 0) = decide (zj0 m = []):=by
  by_cases e:zj0 m = []
  ·rw [dt e,e]; rfl
  ·rw [df e,df (fun h=>e (List.length_eq_zero_iff.1 (by omega)))]
 rw [this]
 rfl⟩
end z06
end
end Go.Fw
namespace Go.Fw
section
variable {ρ:Type}
namespace z0t
def P (a:List Int):Bool:=decide (a.length < 1099511627776)
abbrev g (a:List Int):List Int:=a
end z0t
namespace z0t
def Z0 {ρ:Type} (N:Nat) (a:LI) (kr:LI→Option ρ):Option ρ :=
 cond (lk N (decide (0 < a.length)))
 (
  cond (lk N (Nat.blt (([]:List Int).length + a.length) 1099511627776)) (
   kr (([]:List Int) ++ a)) none)
 (
  z7e (
   kr ([]:List Int))
  (
   cond (lk N (Nat.blt (([]:List Int).length + a.length) 1099511627776)) (
    kr (([]:List Int) ++ a)) none))
def Spec:Prop:=∀  (v0:LI),Ty.bd (.sl 0 (.int .i64)) v0→P v0 = true→∃ N0,∀ N,N0≤N→Z0 N v0 (fun v2=>some ((),(v2,()))) = some ((),((g v0),()))
theorem ok:Spec:=fun a hb hp=>⟨0,fun N hN=>by
 have hl:a.length < 1099511627776:=by simpa [P] using hp
 have hc:Nat.blt (([]:List Int).length + a.length) 1099511627776 = true:=by simpa using hl
 simp only [Z0,z1x,g,hc,cond_true,List.nil_append]
 by_cases h:0 < a.length
 ·simp [h]
 ·have:a = []:=List.eq_nil_of_length_eq_zero (by omega)
  subst this
  simp [z3h]⟩
end z0t
end
end Go.Fw
namespace Go.Fw
section
variable {ρ:Type}
namespace z0h
def P (m:Int × Int × List Int) (k:Int):Bool:=z1l m && (decide (0≤k) && decide (k < m.1))
def g (m:Int × Int × List Int) (k:Int):Int × Int × List Int:=z6q m k.toNat
end z0h
namespace z0h
def Z1 {ρ:Type} (N:Nat) (a:MT) (b:Int) (kn:I3 (LI→I2 (Option ρ))):Option ρ :=
 kn b a.1 a.2.1 a.2.2 0 0
def Z3 {ρ:Type} (N:Nat) (d b c:Int) (a:LI) (e f:Int) (kn:LI→I3 (LI→I4 (Option ρ))):Option ρ :=
 z7e (
  cond (lk N (z0t.P a)) (
   bo (
    kn (z0t.g a) d b c a e f b c)) none)
 (
  cond (lk N (z0t.P a)) (
   kn (z0t.g a) d b c a e f b c) none)
def Z6 {ρ:Type} (N:Nat) (a:LI) (b c d:Int) (e:LI) (f g h i:Int) (kn:LI→I4 (LI→I4 (Option ρ))):Option ρ :=
 kn a b 0 c d e f g h i
def Z10 {ρ:Type} (N:Nat) (a:LI) (h b i c:Int) (j:LI) (d e f g:Int) (kn:LI→I4 (LI→I4 (Option ρ))) (k0:LI→I4 (Option ρ)):Option ρ :=
 cond (lk N (decide (b < c)))
 (
  kn a h b i c j d e f g)
 (
  k0 a d e f g)
def Z14 {ρ:Type} (N:Nat) (a:LI) (b c d e:Int) (f:LI) (g h i j:Int) (kn:LI→I5 (LI→I4 (Option ρ))):Option ρ :=
 kn a b c 0 d e f g h i j
def Z18 {ρ:Type} (N:Nat) (b:LI) (c d e a f:Int) (g:LI) (h i j l:Int) (kn:LI→I5 (LI→I4 (Option ρ))) (k2:LI→I4 (LI→I4 (Option ρ))):Option ρ :=
 cond (lk N (decide (e < a)))
 (
  kn b c d e a f g h i j l)
 (
  k2 b c d a f g h i j l)
def Z22 {ρ:Type} (N:Nat) (d:LI) (e a b c f:Int) (g:LI) (h i j l:Int) (kn:LI→I6 (LI→I4 (Option ρ))):Option ρ :=
 cond (lk N (inB (w64 ((w64 (a * c)) + b)) d.length)) (
  kn d e a b (w64 ((w64 (a * c)) + b)) c f g h i j l) none
def Z24 {ρ:Type} (N:Nat) (h:LI) (a e f i b c:Int) (d:LI) (j l m o:Int) (kn:LI→I8 (LI→I4 (Option ρ))):Option ρ :=
 cond (lk N (z13.P (b,(c,d)) e a)) (
  cond (lk N (z13.P (b,(c,d)) a f)) (
   kn h a e f i (z13.g (b,(c,d)) e a) (z13.g (b,(c,d)) a f) b c d j l m o) none) none
def Z27 {ρ:Type} (N:Nat) (d:LI) (a b c e f g h i:Int) (j:LI) (l m o p:Int) (kn:LI→I6 (Bool→I2 (LI→I4 (Option ρ)))):Option ρ :=
 cond (lk N (decide (b = a)))
 (
  kn d a b c e f g true h i j l m o p)
 (
  kn d a b c e f g (lk N (decide (c = a))) h i j l m o p)
def Z28 {ρ:Type} (N:Nat) (a:LI) (b c d e o p:Int) (q:Bool) (f g:Int) (h:LI) (i j l m:Int) (kn:LI→I5 (LI→I4 (Option ρ))):Option ρ :=
 cond (q)
 (
  kn (a.set e.toNat (w64 (0 - (a.getD e.toNat 0)))) b c d f g h i j l m)
 (
  cond (lk N (decide (0 < o)))
  (
   cond (lk N (decide (0 < p)))
   (
    kn (a.set e.toNat (w64 ((a.getD e.toNat 0) + (w64 (o * p))))) b c d f g h i j l m)
   (
    cond (lk N (decide (o < 0)))
    (
     cond (lk N (decide (p < 0)))
     (
      kn (a.set e.toNat (w64 ((a.getD e.toNat 0) - (w64 (o * p))))) b c d f g h i j l m)
     (
      kn a b c d f g h i j l m))
    (
     kn a b c d f g h i j l m)))
  (
   cond (lk N (decide (o < 0)))
   (
    cond (lk N (decide (p < 0)))
    (
     kn (a.set e.toNat (w64 ((a.getD e.toNat 0) - (w64 (o * p))))) b c d f g h i j l m)
    (
     kn a b c d f g h i j l m))
   (
    kn a b c d f g h i j l m)))
def Z26 N a b c d e f g h i j l m o p kn:=(Z27 N a b c d e f g h i j l m o p (fun a b c d e f g q h i j l m o p=>Z28 N a b c d e f g q h i j l m o p kn):Option ρ)
def Z25 N a b c d e f g h i j l m o p kn:=(Z26 N a b c d e f g h i j l m o p kn:Option ρ)
def Z23 N a b c d e f g h i j l m kn:=(Z24 N a b c d e f g h i j l m (fun a b c d e o p f g h i j l m=>Z25 N a b c d e o p f g h i j l m kn):Option ρ)
def Z21 N a b c d e f g h i j l kn:=(Z22 N a b c d e f g h i j l (fun a b c d m e f g h i j l=>Z23 N a b c d m e f g h i j l kn):Option ρ)
def Z20 N a b c d e f g h i j l kn:=(Z21 N a b c d e f g h i j l kn:Option ρ)
def Z29 {ρ:Type} (N:Nat) (a:LI) (b c d e f:Int) (g:LI) (h i j l:Int) (kn:LI→I5 (LI→I4 (Option ρ))):Option ρ :=
 kn a b c (w64 (d + 1)) e f g h i j l
def Z19 N a b c d e f g h i j l kn:=(Z20 N a b c d e f g h i j l (fun a b c d e f g h i j l=>Z29 N a b c d e f g h i j l kn):Option ρ)
def Z17 N a b c d e f g h i j l kn k2:=(Z18 N a b c d e f g h i j l (fun a b c d e f g h i j l=>Z19 N a b c d e f g h i j l kn) k2:Option ρ)
def Z16L {ρ:Type} (N:Nat) (k2:LI→I4 (LI→I4 (Option ρ))):Nat→LI→Int→Int→Int→Int→Int→LI→Int→Int→Int→Int→Option ρ
 | 0,_,_,_,_,_,_,_,_,_,_,_=>none
 | M + 1,a,b,c,d,e,f,g,h,i,j,l=>Z17 N a b c d e f g h i j l (fun a b c d e f g h i j l=>Z16L N k2 M a b c d e f g h i j l) k2
def Z16 N a b c d e f g h i j l k2:=(Z16L N k2 N a b c d e f g h i j l:Option ρ)
def Z15 N a b c d e f g h i j l kn:=(Z16 N a b c d e f g h i j l kn:Option ρ)
def Z13 N a b c d e f g h i j kn:=(Z14 N a b c d e f g h i j (fun a b c l d e f g h i j=>Z15 N a b c l d e f g h i j kn):Option ρ)
def Z12 N a b c d e f g h i j kn:=(Z13 N a b c d e f g h i j kn:Option ρ)
def Z30 {ρ:Type} (N:Nat) (a:LI) (b c d e:Int) (f:LI) (g h i j:Int) (kn:LI→I4 (LI→I4 (Option ρ))):Option ρ :=
 kn a b (w64 (c + 1)) d e f g h i j
def Z11 N a b c d e f g h i j kn:=(Z12 N a b c d e f g h i j (fun a b c d e f g h i j=>Z30 N a b c d e f g h i j kn):Option ρ)
def Z9 N a b c d e f g h i j kn k0:=(Z10 N a b c d e f g h i j (fun a b c d e f g h i j=>Z11 N a b c d e f g h i j kn) k0:Option ρ)
def Z8L {ρ:Type} (N:Nat) (k0:LI→I4 (Option ρ)):Nat→LI→Int→Int→Int→Int→LI→Int→Int→Int→Int→Option ρ
 | 0,_,_,_,_,_,_,_,_,_,_=>none
 | M + 1,a,b,c,d,e,f,g,h,i,j=>Z9 N a b c d e f g h i j (fun a b c d e f g h i j=>Z8L N k0 M a b c d e f g h i j) k0
def Z8 N a b c d e f g h i j k0:=(Z8L N k0 N a b c d e f g h i j:Option ρ)
def Z7 N a b c d e f g h i j kn:=(Z8 N a b c d e f g h i j kn:Option ρ)
def Z5 N a b c d e f g h i kn:=(Z6 N a b c d e f g h i (fun a b j c d e f g h i=>Z7 N a b j c d e f g h i kn):Option ρ)
def Z31 {ρ:Type} (N:Nat) (a:LI) (d e b c:Int) (kr:LI→I2 (Option ρ)):Option ρ :=
 kr a b c
def Z4 N a f g h i b c d e kr:=(Z5 N a f g h i b c d e (fun a b c d e=>Z31 N a b c d e kr):Option ρ)
def Z2 N a b c d e f kr:=(Z3 N a b c d e f (fun g a b c d e f h i=>Z4 N g a b c d e f h i kr):Option ρ)
def Z0 N b a kr:=(Z1 N b a (fun a c d e f g=>Z2 N a c d e f g kr):Option ρ)
def Spec:Prop:=∀  (v0:MT) (v1:Int),Ty.bd (.pair (.int .i64) (.pair (.int .i64) (.sl 0 (.int .i64)))) v0→P v0 v1 = true→∃ N0,∀ N,N0≤N→Z0 N v0 v1 (fun v4_2 v4_0 v4_1=>some ((),((v4_0,(v4_1,v4_2)),()))) = some ((),((g v0 v1),()))
section
variable {ρ:Type} {N:Nat} {m:Int × Int × List Int} {k:Nat}
theorem at_g (hd:0≤m.1) (a b:Nat):z13.g (m.1,(m.2.1,m.2.2)) (a:Int) (b:Int) = ent m a b:=z9i hd a b
theorem at_p (hd:z40 m = true) {a b:Nat} (ha:a < m.2.1.toNat) (hb:b < m.1.toNat):z13.P (m.1,(m.2.1,m.2.2)) (a:Int) (b:Int) = true:=zmg hd ha hb
def cur (m:Int × Int × List Int) (k p:Nat):List Int:=zq9 m.2.2.length p (zxx m k) (fun p=>m.2.2.getD p 0)
theorem inner (hs:z1l m = true) (hk:k < m.1.toNat) (k2:List Int→Int→Int→Int→Int→List Int→Int→Int→Int→Int→Option ρ) (t0 t1 o0 o1:Int) {i:Nat} (hi:i < m.2.1.toNat):∀ (M j:Nat),j≤m.1.toNat→m.1.toNat - j < M →
  Z16L N k2 M (cur m k (i * m.1.toNat + j)) (k:Int) (i:Int) (j:Int) m.1 m.2.1 m.2.2 t0 t1 o0 o1 = k2 (cur m k (i * m.1.toNat + m.1.toNat)) (k:Int) (i:Int) m.1 m.2.1 m.2.2 t0 t1 o0 o1:=by
 have hd:=z28 hs
 obtain ⟨n,r,hn,hr,hn1,hn5,hnr,hr8,hl⟩:=z17 hd
 intro M
 induction M with
 | zero=>intro j _ h; omega
 | succ M ih =>
  intro j hj hM
  simp only [Z16L,Z17,Z18]
  by_cases h:j < m.1.toNat
  ·have hlt:i * m.1.toNat + j < m.2.2.length:=by
    have:=z87 (n:=n) (r:=r) (i:=i) (j:=j) (by omega) (by omega)
    rw [hl,hn]; exact this
   have hidx:w64 (w64 ((i:Int) * m.1) + (j:Int)) = ((i * m.1.toNat + j:Nat):Int):=by
    have e:(i:Int) * m.1 = ((i * m.1.toNat:Nat):Int):=by rw [hn,Int.natCast_mul]; simp
    have hb:i * m.1.toNat≤8 * 5:=Nat.mul_le_mul (by omega) (by omega)
    have e2:w64 (((i * m.1.toNat:Nat):Int)) = ((i * m.1.toNat:Nat):Int):=z1g (by omega) (by omega)
    rw [e,e2,z1g (by omega) (by omega)]
    omega
   have b1:=z45 hs i j
   have b2:=z45 hs i k
   have b3:=z45 hs k j
   have hbc:=zk3 (f:=false) b1 b2 b3
   have hF:=zqt (m:=m) (k:=k) (i:=i) h
   have hcl:(cur m k (i * m.1.toNat + j)).length = m.2.2.length:=zd0
   have hset:∀ v,v = zxx m k (i * m.1.toNat + j)→(cur m k (i * m.1.toNat + j)).set (i * m.1.toNat + j) v = cur m k (i * m.1.toNat + (j + 1)):=fun v hv=>by
    subst hv
    exact zss hlt
   have hsame:zxx m k (i * m.1.toNat + j) = ent m i j→cur m k (i * m.1.toNat + j) = cur m k (i * m.1.toNat + (j + 1)):=fun hv=>(zmy hv).symm
   have iB:inB (((i * m.1.toNat + j:Nat):Int)) (cur m k (i * m.1.toNat + j)).length = true:=z1b (by rw [hcl]; exact hlt)
   have pij:=at_p hd hi h
   rw [ct (dt (by omega))]
   simp only [Z19,Z20,Z21,Z22,Z23,Z24,Z25]
   have fin:∀ c,c = cur m k (i * m.1.toNat + (j + 1))→Z29 N c (k:Int) (i:Int) (j:Int) m.1 m.2.1 m.2.2 t0 t1 o0 o1 (fun out5_2 k1 i6 j7 m2_0 m2_1 m2_2 t4_0 t4_1 out5_0 out5_1=>Z16L N k2 M out5_2 k1 i6 j7 m2_0 m2_1 m2_2 t4_0 t4_1 out5_0 out5_1) = k2 (cur m k (i * m.1.toNat + m.1.toNat)) (k:Int) (i:Int) m.1 m.2.1 m.2.2 t0 t1 o0 o1:=by
    intro c hc
    subst hc
    simp only [Z29]
    rw [z1c (by rw [z0z]; omega)]
    exact ih (j + 1) h (by omega)
   have hcg:(cur m k (i * m.1.toNat + j)).getD (i * m.1.toNat + j) 0 = ent m i j:=by
    refine (upto_get hlt 0).trans ?_
    rw [if_neg (by omega)]
    rfl
   rw [hidx,ct iB,ct (at_p hd hi hk),ct (at_p hd (show k < m.2.1.toNat by omega) h),at_g (by omega),at_g (by omega)]
   simp only [Z26,Z27,Z28,Int.toNat_natCast,hcg]
   by_cases hik:i = k
   ·rw [ct (dt (by omega)),ct' rfl,z1g (by omega) (by omega)]
    refine fin _ (hset _ ?_)
    rw [hF,dt hik,Int.zero_sub]; rfl
   ·rw [cf (df (by omega))]
    by_cases hjk:j = k
    ·rw [ct' (by rw [z1x]; exact dt (by omega)),z1g (by omega) (by omega)]
     refine fin _ (hset _ ?_)
     rw [hF,df hik,dt hjk,Int.zero_sub]; rfl
    ·rw [cf' (by rw [z1x]; exact df (by omega))]
     rw [df hik,df hjk] at hF
     simp only [zww,Bool.or_self,Bool.false_eq_true,if_false] at hF
     have wbc:w64 (ent m i k * ent m k j) = ent m i k * ent m k j:=z1g (by omega) (by omega)
     rw [wbc]
     by_cases a1:0 < ent m i k
     ·rw [ct (dt a1)]
      by_cases a2:0 < ent m k j
      ·rw [ct (dt a2),z1g (by omega) (by omega)]
       refine fin _ (hset _ ?_)
       rw [hF,if_pos ⟨a1,a2⟩]
      ·rw [cf (df a2),cf (df (by omega))]
       refine fin _ (hsame ?_)
       rw [hF,if_neg (by omega),if_neg (by omega)]
     ·rw [cf (df a1)]
      by_cases a2:ent m i k < 0
      ·rw [ct (dt a2)]
       by_cases a3:ent m k j < 0
       ·rw [ct (dt a3),z1g (by omega) (by omega)]
        refine fin _ (hset _ ?_)
        rw [hF,if_neg (by omega),if_pos ⟨a2,a3⟩]
       ·rw [cf (df a3)]
        refine fin _ (hsame ?_)
        rw [hF,if_neg (by omega),if_neg (by omega)]
      ·rw [cf (df a2)]
       refine fin _ (hsame ?_)
       rw [hF,if_neg (by omega),if_neg (by omega)]
  ·rw [cf (df (by omega)),show j = m.1.toNat by omega]
theorem outer (hN:10≤N) (hs:z1l m = true) (hk:k < m.1.toNat) (k0:List Int→Int→Int→Int→Int→Option ρ) (t0 t1 o0 o1:Int):∀ (M i:Nat),i≤m.2.1.toNat→m.2.1.toNat - i < M →
  Z8L N k0 M (cur m k (i * m.1.toNat)) (k:Int) (i:Int) m.1 m.2.1 m.2.2 t0 t1 o0 o1 = k0 (cur m k (m.2.1.toNat * m.1.toNat)) t0 t1 o0 o1:=by
 have hd:=z28 hs
 obtain ⟨n,r,hn,hr,hn1,hn5,hnr,hr8,hl⟩:=z17 hd
 intro M
 induction M with
 | zero=>intro i _ h; omega
 | succ M ih =>
  intro i hi hM
  simp only [Z8L,Z9,Z10]
  by_cases h:i < m.2.1.toNat
  ·rw [ct (dt (by omega))]
   simp only [Z11,Z12,Z13,Z14,Z15,Z16]
   have hin:=inner (ρ:=ρ) (N:=N) hs hk (fun out5_2 k1 i6 m2_0 m2_1 m2_2 t4_0 t4_1 out5_0 out5_1=>Z30 N out5_2 k1 i6 m2_0 m2_1 m2_2 t4_0 t4_1 out5_0 out5_1 (fun out5_2 k1 i6 m2_0 m2_1 m2_2 t4_0 t4_1 out5_0 out5_1=>Z8L N k0 M out5_2 k1 i6 m2_0 m2_1 m2_2 t4_0 t4_1 out5_0 out5_1)) t0 t1 o0 o1 h N 0 (by omega) (by omega)
   rw [show ((0:Nat):Int) = 0 from rfl,Nat.add_zero] at hin
   rw [hin]
   simp only [Z30]
   rw [z1c (by rw [z0z]; omega)]
   have:=ih (i + 1) h (by omega)
   rw [Nat.add_mul,Nat.one_mul] at this
   exact this
  ·rw [cf (df (by omega)),show i = m.2.1.toNat by omega]
end
theorem ok:Spec:=fun m k hb hp=>⟨10,fun N hN=>by
 simp only [P,Bool.and_eq_true,decide_eq_true_eq] at hp
 obtain ⟨hs,h0,h1⟩:=hp
 obtain ⟨x,rfl⟩:=Int.eq_ofNat_of_zero_le h0
 have hd:=z28 hs
 obtain ⟨n,r,hn,hr,hn1,hn5,hnr,hr8,hl⟩:=z17 hd
 have hlen:m.2.2.length≤8 * 5:=by rw [hl]; exact Nat.mul_le_mul hr8 hn5
 simp only [Z0,Z1,Z2,Z3]
 rw [ct (show z0t.P m.2.2 = true from dt (by omega)),ct (show z0t.P m.2.2 = true from dt (by omega))]
 simp only [bo,z3h]
 simp only [Z4,Z5,Z6,Z7,Z8]
 have hstart:cur m x 0 = m.2.2:=by
  unfold cur
  rw [zmx]
  exact zdh 0 rfl
 have hend:cur m x (m.2.1.toNat * m.1.toNat) = (z6q m x).2.2:=by
  have e:m.2.1.toNat * m.1.toNat = m.2.2.length:=by rw [hl,hn,hr]; simp
  rw [e]
  exact zmz
 have:=outer (ρ:=Unit × (Int × Int × List Int) × Unit) hN hs (show x < m.1.toNat by omega) (fun out5_2 t4_0 t4_1 out5_0 out5_1=>Z31 N out5_2 t4_0 t4_1 out5_0 out5_1 (fun t4_2 t4_0 t4_1=>some ((),((t4_0,(t4_1,t4_2)),())))) 0 0 m.1 m.2.1 N 0 (by omega) (by omega)
 rw [Nat.zero_mul,hstart,hend] at this
 exact this⟩
end z0h
end
end Go.Fw
namespace Go.Fw
section
variable {ρ:Type}
namespace z1f
def g (m:Int × Int × List Int) (k:Int):(Int × Int × List Int) × Bool :=
 if ((z1l m && !decide (z6h m = [])) && (inK k 0 (m.1 - 1) && (z1l (z6q m k.toNat) && !decide (z6h (z6q m k.toNat) = [])))) = true then (z6q m k.toNat,true) else ((0,0,[]),false)
end z1f
namespace z1f
def Z0 {ρ:Type} (N:Nat) (a:MT) (b:Int) (kr:LI→Bool→I2 (Option ρ)):Option ρ :=
 cond (!(lk N ((z1o.g a))))
 (
  kr ([]:List Int) false 0 0)
 (
  cond (!(lk N ((z2o.g b 0 (w64 (a.1 - 1))))))
  (
   kr ([]:List Int) false 0 0)
  (
   cond (lk N (z0h.P a b)) (
    cond (!(lk N ((z1o.g (z0h.g a b)))))
    (
     kr ([]:List Int) false 0 0)
    (
     kr (z0h.g a b).2.2 true (z0h.g a b).1 (z0h.g a b).2.1)) none))
def Spec:Prop:=∀  (v0:MT) (v1:Int),Ty.bd (.pair (.int .i64) (.pair (.int .i64) (.sl 0 (.int .i64)))) v0→∃ N0,∀ N,N0≤N→Z0 N v0 v1 (fun v4_2 v5 v4_0 v4_1=>some ((),((v4_0,(v4_1,v4_2)),(v5,())))) = some ((),((g v0 v1).1,((g v0 v1).2,())))
theorem ok:Spec:=fun m k hb=>⟨0,fun N hN=>by
 simp only [Z0,z1x,g,z1o.g,z2o.g]
 cases h1:(z1l m && !decide (z6h m = []))
 ·rfl
 have hs:z1l m = true:=by
  simp only [Bool.and_eq_true] at h1
  exact h1.1
 have hd:=z28 hs
 obtain ⟨n,r,hn,hr,hn1,hn5,hnr,hr8,hl⟩:=z17 hd
 rw [z1g (by omega) (by omega)]
 cases h2:inK k 0 (m.1 - 1)
 ·rfl
 have h3:=z3d.1 h2
 have hP:z0h.P m k = true:=by
  simp only [z0h.P,Bool.and_eq_true,decide_eq_true_eq]
  exact ⟨hs,by omega,by omega⟩
 rw [hP]
 have hg:z0h.g m k = z6q m k.toNat:=rfl
 rw [hg]
 cases (z1l (z6q m k.toNat) && !decide (z6h (z6q m k.toNat) = [])) <;> rfl⟩
end z1f
end
end Go.Fw
namespace Go.Fw
theorem zth {m:Int × Int × List Int} {d:Nat→Int} (h:z2k m d):z06.g m = true↔Acy m.1.toNat (z7w m):=by
 have h0:z1o.g m = true:=by
  show (z1l m && !decide (z6h m = [])) = true
  rw [zdb]; exact h.ok
 unfold z06.g
 rw [h0,Bool.true_and,decide_eq_true_iff]
 exact zy6 m
theorem zqw {m:Int × Int × List Int} {d:Nat→Int} (h:z2k m d) {k:Nat} (hk:k < m.1.toNat) (hs:z2c (z6q m k) = true):z1f.g m (k:Int) = (z6q m k,true):=by
 unfold z1f.g
 have:=zdj m (k:Int)
 rw [Int.toNat_natCast] at this ⊢
 obtain ⟨n,r,en,hr,hn1,hn5,hnr,hr8,hl⟩:=z17 h.dim
 have h2:inK (k:Int) 0 (m.1 - 1) = true:=z3d.2 ⟨by omega,by omega⟩
 rw [this,h.ok,h2,hs]
 rfl
end Go.Fw
namespace Go.Fw
section
variable {ρ:Type}
namespace z0s
def go (v:Int):List Int→Nat→Int
 | [],_=>-1
 | x :: xs,j=>if v = x then (j:Int) else go v xs (j + 1)
def g (s:List Int) (v:Int):Int:=go v s 0
end z0s
namespace z0s
def Z1 {ρ:Type} (N:Nat) (a:LI) (b:Int) (kn:LI→Int→Option ρ):Option ρ :=
 kn a b
def Z4 {ρ:Type} (N:Nat) (a:LI) (b:Int) (kn:LI→I3 (Option ρ)):Option ρ :=
 kn a b (a.length:Int) 0
def Z7 {ρ:Type} (N:Nat) (b:LI) (c d a:Int) (kn:LI→I3 (Option ρ)) (k0:Option ρ) (kr:Int→Option ρ):Option ρ :=
 cond (lk N (decide (a < d)))
 (
  cond (lk N (inB a b.length)) (
   cond (lk N (decide (c = (b.getD a.toNat 0))))
   (
    kr a)
   (
    kn b c d (w64 (a + 1)))) none)
 (
  k0)
def Z6L {ρ:Type} (N:Nat) (k0:Option ρ) (kr:Int→Option ρ):Nat→LI→Int→Int→Int→Option ρ
 | 0,_,_,_,_=>none
 | M + 1,a,b,c,d=>Z7 N a b c d (fun a b c d=>Z6L N k0 kr M a b c d) k0 kr
def Z6 N a b c d k0 kr:=(Z6L N k0 kr N a b c d:Option ρ)
def Z5 N a b c d kn kr:=(Z6 N a b c d kn kr:Option ρ)
def Z3 N a b kn kr:=(Z4 N a b (fun a b c d=>Z5 N a b c d kn kr):Option ρ)
def Z8 {ρ:Type} (N:Nat)  (kr:Int→Option ρ):Option ρ :=
 kr (-1)
def Z2 N a b kr:=(Z3 N a b (Z8 N kr) kr:Option ρ)
def Z0 N a b kr:=(Z1 N a b (fun a b=>Z2 N a b kr):Option ρ)
def Spec:Prop:=∀  (v0:LI) (v1:Int),Ty.bd (.sl 0 (.int .i64)) v0→∃ N0,∀ N,N0≤N→Z0 N v0 v1 (fun v4=>some ((),(v4,()))) = some ((),((g v0 v1),()))
theorem loop {ρ:Type} (N:Nat) (kr:Int→Option ρ) (v:Int) (a:List Int) (ha:a.length≤maxLen):∀ (M j:Nat),j≤a.length→a.length - j < M →
  Z6L N (kr (-1)) kr M a v (a.length:Int) (j:Int) = kr (go v (a.drop j) j):=by
 intro M
 induction M with
 | zero=>intro j _ h; omega
 | succ M ih =>
  intro j hj hM
  simp only [Z6L,Z7]
  by_cases h:j < a.length
  ·rw [ct (dt (by omega)),ct (z1b h),Int.toNat_natCast,z1c (by omega),ih (j + 1) h (by omega),z3z 0 h,go]
   by_cases e:v = a.getD j 0
   ·rw [ct (dt e),if_pos e]
   ·rw [cf (df e),if_neg e]
  ·rw [cf (df (by omega)),List.drop_of_length_le (by omega),go]
theorem ok:Spec:=fun a v ha=>⟨a.length + 1,fun N hN=>by
 simp only [Z1,Z4,Z7,Z6,Z5,Z3,Z8,Z2,Z0]
 exact (loop N (fun t=>some ((),(t,()))) v a ha.1 N 0 (by omega) (by omega)).trans rfl⟩
theorem go_pos (v:Int):∀ (l:List Int) (j:Nat),0≤go v l j↔v ∈ l
 | [],j=>by simp [go]
 | x :: xs,j=>by
  rw [go]
  by_cases h:v = x
  ·rw [if_pos h]; simp [h]
  ·rw [if_neg h,go_pos v xs]; simp [h]
end z0s
end
end Go.Fw
namespace Go.Fw
section
variable {ρ:Type}
namespace z1q
def g (s:List Int) (v:Int):Bool:=s.any fun x=>decide (x = v)
end z1q
namespace z1q
def Z0 {ρ:Type} (N:Nat) (a:LI) (b:Int) (kr:Bool→Option ρ):Option ρ :=
 kr (lk N (decide (0≤(z0s.g a b))))
def Spec:Prop:=∀  (v0:LI) (v1:Int),Ty.bd (.sl 0 (.int .i64)) v0→∃ N0,∀ N,N0≤N→Z0 N v0 v1 (fun v4=>some ((),(v4,()))) = some ((),((g v0 v1),()))
theorem ok:Spec:=fun a v ha=>⟨0,fun N hN=>by
 simp only [Z0,z1x,g]
 have:=(show 0≤z0s.g a v↔v ∈ a from z0s.go_pos v a 0)
 have h2:(a.any fun x=>decide (x = v)) = true↔v ∈ a:=by simp
 cases e:a.any fun x=>decide (x = v)
 ·rw [df (fun h=>by rw [h2.2 (this.1 h)] at e; cases e)]
 ·rw [dt (this.2 (h2.1 e))]⟩
end z1q
end
end Go.Fw
namespace Go.Fw
section
variable {ρ:Type}
namespace z1i
def g (l:List Int) (n:Int):Bool:=z49 l n
end z1i
namespace z1i
def Z1 {ρ:Type} (N:Nat) (a:LI) (b:Int) (kn:LI→Int→Option ρ):Option ρ :=
 kn a b
def Z3 {ρ:Type} (N:Nat) (a:LI) (b:Int) (kn:LI→Int→Option ρ) (kr:Bool→Option ρ):Option ρ :=
 cond (lk N (!(decide ((a.length:Int) = b))))
 (
  kr false)
 (
  kn a b)
def Z6 {ρ:Type} (N:Nat) (a:LI) (b:Int) (kn:LI→Int→LI→I2 (Option ρ)):Option ρ :=
 kn a b a (a.length:Int) 0
def Z9 {ρ:Type} (N:Nat) (c:LI) (d:Int) (b:LI) (e a:Int) (kn:LI→Int→LI→I2 (Option ρ)) (k0:Option ρ) (kr:Bool→Option ρ):Option ρ :=
 cond (lk N (decide (a < e)))
 (
  cond (lk N (inB a b.length)) (
   cond (!(lk N ((z2o.g (b.getD a.toNat 0) 0 (w64 (d - 1))))))
   (
    kr false)
   (
    cond (lk N (leB 0 a && leB a c.length)) (
     cond (lk N ((z1q.g (c.take a.toNat) (b.getD a.toNat 0))))
     (
      kr false)
     (
      kn c d b e (w64 (a + 1)))) none)) none)
 (
  k0)
def Z8L {ρ:Type} (N:Nat) (k0:Option ρ) (kr:Bool→Option ρ):Nat→LI→Int→LI→Int→Int→Option ρ
 | 0,_,_,_,_,_=>none
 | M + 1,a,b,c,d,e=>Z9 N a b c d e (fun a b c d e=>Z8L N k0 kr M a b c d e) k0 kr
def Z8 N a b c d e k0 kr:=(Z8L N k0 kr N a b c d e:Option ρ)
def Z7 N a b c d e kn kr:=(Z8 N a b c d e kn kr:Option ρ)
def Z5 N a b kn kr:=(Z6 N a b (fun a b c d e=>Z7 N a b c d e kn kr):Option ρ)
def Z10 {ρ:Type} (N:Nat)  (kr:Bool→Option ρ):Option ρ :=
 kr true
def Z4 N a b kr:=(Z5 N a b (Z10 N kr) kr:Option ρ)
def Z2 N a b kr:=(Z3 N a b (fun a b=>Z4 N a b kr) kr:Option ρ)
def Z0 N a b kr:=(Z1 N a b (fun a b=>Z2 N a b kr):Option ρ)
def Spec:Prop:=∀  (v0:LI) (v1:Int),Ty.bd (.sl 0 (.int .i64)) v0→∃ N0,∀ N,N0≤N→Z0 N v0 v1 (fun v4=>some ((),(v4,()))) = some ((),((g v0 v1),()))
theorem loop {ρ:Type} (N:Nat) (k0:Option ρ) (kr:Bool→Option ρ) (l:List Int) (hl:l.length≤maxLen):∀ (M j:Nat),j≤l.length→l.length - j < M →
  Z8L N k0 kr M l (l.length:Int) l (l.length:Int) (j:Int) = cond (((List.range l.length).drop j).all (zec l (l.length:Int))) k0 (kr false):=by
 intro M
 induction M with
 | zero=>intro j _ h; omega
 | succ M ih =>
  intro j hj hM
  simp only [Z8L,Z9]
  by_cases h:j < l.length
  ·have e1:z2o.g (l.getD j 0) 0 (w64 ((l.length:Int) - 1)) = inK (l.getD j 0) 0 ((l.length:Int) - 1):=by
    rw [z1g (by omega) (by rw [z0z] at hl; omega)]; rfl
   have e2:(leB 0 (j:Int) && leB (j:Int) l.length) = true:=by rw [zfo (by omega),zfo (by omega)]; rfl
   rw [ct (dt (by omega)),ct (z1b h),Int.toNat_natCast,e1,ct e2,z1c (by omega),ih (j + 1) h (by omega),z3q h,List.all_cons,zec]
   simp only [z1x,z1q.g]
   cases inK (l.getD j 0) 0 ((l.length:Int) - 1)
   ·rfl
   ·cases ((l.take j).any fun x=>decide (x = l.getD j 0)) <;> rfl
  ·rw [cf (df (by omega)),List.drop_of_length_le (by simp; omega)]; rfl
theorem ok:Spec:=fun l n hb=>⟨l.length + 1,fun N hN=>by
 simp only [Z1,Z3,Z6,Z9,Z8,Z7,Z5,Z10,Z4,Z2,Z0,g,z49]
 by_cases h:(l.length:Int) = n
 ·subst h
  have:=loop N (some ((),(true,()))) (fun t=>some ((),(t,()))) l hb.1 N 0 (by omega) (by omega)
  rw [show ((0:Nat):Int) = 0 from rfl,List.drop_zero] at this
  rw [cf (nf rfl),this,dt rfl]
  cases (List.range l.length).all (zec l (l.length:Int)) <;> rfl
 ·rw [ct (nt h),df h]; rfl⟩
end z1i
end
end Go.Fw
namespace Go.Fw
section
variable {ρ:Type}
namespace z04
def g (m:Int × Int × List Int) (names:List Int):(Int × Int × List Int) × Bool :=
 if ((z1l m && !decide (z6h m = [])) && z49 names m.1) = true then (z6j m names,true) else ((0,0,[]),false)
end z04
namespace z04
def Z1 {ρ:Type} (N:Nat) (a:MT) (b:LI) (kn:LI→I2 (LI→I2 (Option ρ))):Option ρ :=
 kn b a.1 a.2.1 a.2.2 0 0
def Z3 {ρ:Type} (N:Nat) (b:LI) (a c:Int) (d:LI) (e f:Int) (kn:LI→I2 (LI→I2 (Option ρ))) (kr:LI→Bool→I2 (Option ρ)):Option ρ :=
 cond (!(lk N ((z1o.g (a,(c,d))))))
 (
  kr ([]:List Int) false 0 0)
 (
  cond (!(lk N ((z1i.g b a))))
  (
   kr ([]:List Int) false 0 0)
  (
   kn b a c d e f))
def Z5 {ρ:Type} (N:Nat) (d:LI) (b c:Int) (a:LI) (e f:Int) (kn:LI→LI→I2 (LI→I4 (Option ρ))):Option ρ :=
 z7e (
  cond (lk N (leB 0 (a.length:Int) && decide ((a.length:Int) < 1099511627776))) (
   bo (
    kn (List.replicate (a.length:Int).toNat (0:Int)) d b c a e f b c)) none)
 (
  cond (lk N (leB 0 (a.length:Int) && decide ((a.length:Int) < 1099511627776))) (
   kn (List.replicate (a.length:Int).toNat (0:Int)) d b c a e f b c) none)
def Z8 {ρ:Type} (N:Nat) (a b:LI) (c d:Int) (e:LI) (f g h i:Int) (kn:LI→LI→I3 (LI→I4 (Option ρ))):Option ρ :=
 kn a b 0 c d e f g h i
def Z12 {ρ:Type} (N:Nat) (a h:LI) (b i c:Int) (j:LI) (d e f g:Int) (kn:LI→LI→I3 (LI→I4 (Option ρ))) (k0:LI→I4 (Option ρ)):Option ρ :=
 cond (lk N (decide (b < c)))
 (
  kn a h b i c j d e f g)
 (
  k0 a d e f g)
def Z16 {ρ:Type} (N:Nat) (b c:LI) (a d e:Int) (f:LI) (g h i j:Int) (kn:LI→LI→I4 (LI→I4 (Option ρ))):Option ρ :=
 kn b c a a d e f g h i j
def Z18 {ρ:Type} (N:Nat) (d b:LI) (a l c e:Int) (f:LI) (g h i j:Int) (kn:LI→LI→I4 (LI→I4 (Option ρ))):Option ρ :=
 cond (lk N (decide (a < c)))
 (
  cond (lk N (inB a b.length)) (
   kn d b a (b.getD a.toNat 0) c e f g h i j) none)
 (
  kn d b a l c e f g h i j)
def Z20 {ρ:Type} (N:Nat) (a b:LI) (c d e f:Int) (g:LI) (h i j l:Int) (kn:LI→LI→I5 (LI→I4 (Option ρ))):Option ρ :=
 kn a b c d 0 e f g h i j l
def Z23 {ρ:Type} (N:Nat) (h c:LI) (d i a b e:Int) (f:LI) (j l m o:Int) (kn:LI→LI→I5 (LI→I4 (Option ρ))) (k2:LI→LI→I3 (LI→I4 (Option ρ))):Option ρ :=
 cond (lk N (decide (a < b)))
 (
  cond (lk N (inB a c.length)) (
   cond (lk N (z13.P (b,(e,f)) d a)) (
    cond (lk N (inB (w64 ((w64 (i * b)) + (c.getD a.toNat 0))) h.length)) (
     kn (h.set (w64 ((w64 (i * b)) + (c.getD a.toNat 0))).toNat (z13.g (b,(e,f)) d a)) c d i (w64 (a + 1)) b e f j l m o) none) none) none)
 (
  k2 h c d b e f j l m o)
def Z22L {ρ:Type} (N:Nat) (k2:LI→LI→I3 (LI→I4 (Option ρ))):Nat→LI→LI→Int→Int→Int→Int→Int→LI→Int→Int→Int→Int→Option ρ
 | 0,_,_,_,_,_,_,_,_,_,_,_,_=>none
 | M + 1,a,b,c,d,e,f,g,h,i,j,l,m=>Z23 N a b c d e f g h i j l m (fun a b c d e f g h i j l m=>Z22L N k2 M a b c d e f g h i j l m) k2
def Z22 N a b c d e f g h i j l m k2:=(Z22L N k2 N a b c d e f g h i j l m:Option ρ)
def Z21 N a b c d e f g h i j l m kn:=(Z22 N a b c d e f g h i j l m kn:Option ρ)
def Z19 N a b c d e f g h i j l kn:=(Z20 N a b c d e f g h i j l (fun a b c d m e f g h i j l=>Z21 N a b c d m e f g h i j l kn):Option ρ)
def Z17 N a b c d e f g h i j l kn:=(Z18 N a b c d e f g h i j l (fun a b c d e f g h i j l=>Z19 N a b c d e f g h i j l kn):Option ρ)
def Z15 N a b c d e f g h i j kn:=(Z16 N a b c d e f g h i j (fun a b c l d e f g h i j=>Z17 N a b c l d e f g h i j kn):Option ρ)
def Z14 N a b c d e f g h i j kn:=(Z15 N a b c d e f g h i j kn:Option ρ)
def Z24 {ρ:Type} (N:Nat) (a b:LI) (c d e:Int) (f:LI) (g h i j:Int) (kn:LI→LI→I3 (LI→I4 (Option ρ))):Option ρ :=
 kn a b (w64 (c + 1)) d e f g h i j
def Z13 N a b c d e f g h i j kn:=(Z14 N a b c d e f g h i j (fun a b c d e f g h i j=>Z24 N a b c d e f g h i j kn):Option ρ)
def Z11 N a b c d e f g h i j kn k0:=(Z12 N a b c d e f g h i j (fun a b c d e f g h i j=>Z13 N a b c d e f g h i j kn) k0:Option ρ)
def Z10L {ρ:Type} (N:Nat) (k0:LI→I4 (Option ρ)):Nat→LI→LI→Int→Int→Int→LI→Int→Int→Int→Int→Option ρ
 | 0,_,_,_,_,_,_,_,_,_,_=>none
 | M + 1,a,b,c,d,e,f,g,h,i,j=>Z11 N a b c d e f g h i j (fun a b c d e f g h i j=>Z10L N k0 M a b c d e f g h i j) k0
def Z10 N a b c d e f g h i j k0:=(Z10L N k0 N a b c d e f g h i j:Option ρ)
def Z9 N a b c d e f g h i j kn:=(Z10 N a b c d e f g h i j kn:Option ρ)
def Z7 N a b c d e f g h i kn:=(Z8 N a b c d e f g h i (fun a b j c d e f g h i=>Z9 N a b j c d e f g h i kn):Option ρ)
def Z25 {ρ:Type} (N:Nat) (a:LI) (d e b c:Int) (kr:LI→Bool→I2 (Option ρ)):Option ρ :=
 kr a true b c
def Z6 N a f g h i b c d e kr:=(Z7 N a f g h i b c d e (fun a b c d e=>Z25 N a b c d e kr):Option ρ)
def Z4 N a b c d e f kr:=(Z5 N a b c d e f (fun g a b c d e f h i=>Z6 N g a b c d e f h i kr):Option ρ)
def Z2 N a b c d e f kr:=(Z3 N a b c d e f (fun a b c d e f=>Z4 N a b c d e f kr) kr:Option ρ)
def Z0 N b a kr:=(Z1 N b a (fun a c d e f g=>Z2 N a c d e f g kr):Option ρ)
def Spec:Prop:=∀  (v0:MT) (v1:LI),Ty.bd (.pair (.int .i64) (.pair (.int .i64) (.sl 0 (.int .i64)))) v0→Ty.bd (.sl 0 (.int .i64)) v1→∃ N0,∀ N,N0≤N→Z0 N v0 v1 (fun v4_2 v5 v4_0 v4_1=>some ((),((v4_0,(v4_1,v4_2)),(v5,())))) = some ((),((g v0 v1).1,((g v0 v1).2,())))
section
variable {ρ:Type} {N:Nat} {m:Int × Int × List Int} {L:List Nat}
theorem at_g (hd:0≤m.1) (a b:Nat):z13.g (m.1,(m.2.1,m.2.2)) (a:Int) (b:Int) = ent m a b:=z9i hd a b
theorem at_p (hd:z40 m = true) {a b:Nat} (ha:a < m.2.1.toNat) (hb:b < m.1.toNat):z13.P (m.1,(m.2.1,m.2.2)) (a:Int) (b:Int) = true:=zmg hd ha hb
def cur (m:Int × Int × List Int) (L:List Nat) (st:List Int) (t:Nat):List Int:=zwt m.2.2.length t (z9h m.1.toNat L) (fun p=>m.2.2.getD (z9h m.1.toNat L p) 0) (fun p=>st.getD p 0)
theorem inner (hd:z40 m = true) (h1:L.Nodup) (h2:∀ x ∈ L,x < m.1.toNat) (h3:L.length = m.1.toNat) (st:List Int) (k2:List Int→List Int→Int→Int→Int→List Int→Int→Int→Int→Int→Option ρ) (t0 t1 o0 o1:Int) {i:Nat} (hi:i < m.2.1.toNat):∀ (M j:Nat),j≤m.1.toNat→m.1.toNat - j < M →
  Z22L N k2 M (cur m L st (i * m.1.toNat + j)) (z33 L) (i:Int) ((z9w m.1.toNat L i:Nat):Int) (j:Int) m.1 m.2.1 m.2.2 t0 t1 o0 o1 = k2 (cur m L st (i * m.1.toNat + m.1.toNat)) (z33 L) (i:Int) m.1 m.2.1 m.2.2 t0 t1 o0 o1:=by
 obtain ⟨n,r,hn,hr,hn1,hn5,hnr,hr8,hl⟩:=z17 hd
 have hnr':m.1.toNat≤m.2.1.toNat:=by omega
 intro M
 induction M with
 | zero=>intro j _ h; omega
 | succ M ih =>
  intro j hj hM
  simp only [Z22L,Z23]
  by_cases h:j < m.1.toNat
  ·have hx:=h2 _ (z1m (l:=L) (j:=j) 0 (by omega))
   have hrow:=zqi h1 h2 h3 hnr' hi
   have hlt:z9w m.1.toNat L i * m.1.toNat + L.getD j 0 < m.2.2.length:=by
    have:=z87 (n:=m.1.toNat) (r:=m.2.1.toNat) hrow hx
    rw [hl]
    have e:m.2.1.toNat * m.1.toNat = r * n:=by rw [hn,hr]; rfl
    omega
   have hidx:w64 (w64 (((z9w m.1.toNat L i:Nat):Int) * m.1) + ((L.getD j 0:Nat):Int)) = ((z9w m.1.toNat L i * m.1.toNat + L.getD j 0:Nat):Int):=by
    have e:((z9w m.1.toNat L i:Nat):Int) * m.1 = ((z9w m.1.toNat L i * m.1.toNat:Nat):Int):=by rw [hn,Int.natCast_mul]; simp
    have hb:z9w m.1.toNat L i * m.1.toNat≤8 * 5:=Nat.mul_le_mul (by omega) (by omega)
    have e2:w64 (((z9w m.1.toNat L i * m.1.toNat:Nat):Int)) = ((z9w m.1.toNat L i * m.1.toNat:Nat):Int):=z1g (by omega) (by omega)
    rw [e,e2,z1g (by omega) (by omega)]
    omega
   have hset:(cur m L st (i * m.1.toNat + j)).set (z9w m.1.toNat L i * m.1.toNat + L.getD j 0) (ent m i j) = cur m L st (i * m.1.toNat + (j + 1)):=by
    have e:=zsv (total:=m.2.2.length) (t:=i * m.1.toNat + j) (p:=z9w m.1.toNat L i * m.1.toNat + L.getD j 0) (back:=z9h m.1.toNat L) (F:=fun p=>m.2.2.getD (z9h m.1.toNat L p) 0) (G:=fun p=>st.getD p 0) hlt (zgj h1 h2 h3 hnr' h) (fun q _ hq=>zus h1 h2 h3 hnr' h hq)
    simp only [zgj h1 h2 h3 hnr' h] at e
    exact e
   rw [ct (dt (by omega)),ct (z1b (by rw [z20]; omega)),ct (at_p hd hi h)]
   simp only [Int.toNat_natCast,z3m,hidx]
   rw [ct (z1b (by rw [cur,zd6]; exact hlt)),at_g (by omega),hset,z1c (by rw [z0z]; omega)]
   exact ih (j + 1) h (by omega)
  ·rw [cf (df (by omega)),show j = m.1.toNat by omega]
theorem outer (hN:10≤N) (hd:z40 m = true) (h1:L.Nodup) (h2:∀ x ∈ L,x < m.1.toNat) (h3:L.length = m.1.toNat) (st:List Int) (k0:List Int→Int→Int→Int→Int→Option ρ) (t0 t1 o0 o1:Int):∀ (M i:Nat),i≤m.2.1.toNat→m.2.1.toNat - i < M →
  Z10L N k0 M (cur m L st (i * m.1.toNat)) (z33 L) (i:Int) m.1 m.2.1 m.2.2 t0 t1 o0 o1 = k0 (cur m L st (m.2.1.toNat * m.1.toNat)) t0 t1 o0 o1:=by
 obtain ⟨n,r,hn,hr,hn1,hn5,hnr,hr8,hl⟩:=z17 hd
 intro M
 induction M with
 | zero=>intro i _ h; omega
 | succ M ih =>
  intro i hi hM
  simp only [Z10L,Z11,Z12]
  by_cases h:i < m.2.1.toNat
  ·have hin:=inner (ρ:=ρ) (N:=N) hd h1 h2 h3 st (fun out5_2 names1 i6 m2_0 m2_1 m2_2 t4_0 t4_1 out5_0 out5_1=>Z24 N out5_2 names1 i6 m2_0 m2_1 m2_2 t4_0 t4_1 out5_0 out5_1 (fun out5_2 names1 i6 m2_0 m2_1 m2_2 t4_0 t4_1 out5_0 out5_1=>Z10L N k0 M out5_2 names1 i6 m2_0 m2_1 m2_2 t4_0 t4_1 out5_0 out5_1)) t0 t1 o0 o1 h N 0 (by omega) (by omega)
   rw [show ((0:Nat):Int) = 0 from rfl,Nat.add_zero] at hin
   have hnext:=ih (i + 1) h (by omega)
   rw [Nat.add_mul,Nat.one_mul] at hnext
   rw [ct (dt (by omega))]
   simp only [Z13,Z14,Z15,Z16,Z17,Z18]
   by_cases hin':i < m.1.toNat
   ·rw [ct (dt (by omega)),ct (z1b (by rw [z20]; omega)),Int.toNat_natCast,z3m]
    rw [z9w,if_pos hin'] at hin
    simp only [Z19,Z20,Z21,Z22]
    rw [hin]
    simp only [Z24]
    rw [z1c (by rw [z0z]; omega)]
    exact hnext
   ·rw [cf (df (by omega))]
    rw [z9w,if_neg hin'] at hin
    simp only [Z19,Z20,Z21,Z22]
    rw [hin]
    simp only [Z24]
    rw [z1c (by rw [z0z]; omega)]
    exact hnext
  ·rw [cf (df (by omega)),show i = m.2.1.toNat by omega]
theorem cur_start (L:List Nat):cur m L (List.replicate m.2.2.length 0) 0 = List.replicate m.2.2.length 0:=by
 unfold cur
 rw [zn8]
 exact zdh 0 (by simp)
theorem cur_end (hd:z40 m = true) (h1:L.Nodup) (h2:∀ x ∈ L,x < m.1.toNat) (h3:L.length = m.1.toNat) (st:List Int):cur m L st (m.2.1.toNat * m.1.toNat) = (z6j m (z33 L)).2.2:=by
 obtain ⟨n,r,hn,hr,hn1,hn5,hnr,hr8,hl⟩:=z17 hd
 have e:m.2.1.toNat * m.1.toNat = m.2.2.length:=by rw [hl,hn,hr]; simp
 rw [e]
 unfold cur z6j
 rw [z42]
 exact zn9 (fun p hp=>by
  have:=y6k h1 h2 h3 (r:=m.2.1.toNat) (by omega) (by omega) (q:=p) (by omega)
  omega)
end
theorem ok:Spec:=fun m names hb hv=>⟨10,fun N hN=>by
 have e0:z1o.g (m.1,(m.2.1,m.2.2)) = (z1l m && !decide (z6h m = [])):=rfl
 have e1:z1i.g names m.1 = z49 names m.1:=rfl
 simp only [Z0,Z1,Z2,Z3,e0,e1,g,z1x]
 cases h1:(z1l m && !decide (z6h m = []))
 ·rfl
 have hs:z1l m = true:=by
  simp only [Bool.and_eq_true] at h1
  exact h1.1
 have hd:=z28 hs
 cases hnm:z49 names m.1
 ·rfl
 obtain ⟨L,rfl,g1,g2,g3⟩:=z6d hnm
 obtain ⟨n,r,hn,hr,hn1,hn5,hnr,hr8,hl⟩:=z17 hd
 have hlen:m.2.2.length≤8 * 5:=by rw [hl]; exact Nat.mul_le_mul hr8 hn5
 have hc:(leB 0 (m.2.2.length:Int) && decide ((m.2.2.length:Int) < 1099511627776)) = true:=by rw [zfo (by omega),dt (by omega)]; rfl
 simp only [Bool.not_true,cond_false,Z4,Z5]
 rw [ct hc,ct hc]
 simp only [bo,z3h]
 rw [Int.toNat_natCast]
 simp only [Z6,Z7,Z8,Z9,Z10]
 have:=outer (ρ:=Unit × (Int × Int × List Int) × Bool × Unit) hN hd g1 g2 g3 (List.replicate m.2.2.length 0) (fun out6_2 t4_0 t4_1 out6_0 out6_1=>Z25 N out6_2 t4_0 t4_1 out6_0 out6_1 (fun t4_2 t5 t4_0 t4_1=>some ((),((t4_0,(t4_1,t4_2)),(t5,()))))) 0 0 m.1 m.2.1 N 0 (by omega) (by omega)
 rw [Nat.zero_mul,cur_start,cur_end hd g1 g2 g3] at this
 exact this⟩
end z04
end
end Go.Fw
namespace Go.Fw
section
variable {ρ:Type}
namespace z1s
def g (xs:List Int) (i:Int) (ys:List Int):List Int:=ztc xs i ys
def P (xs:List Int) (i:Int) (ys:List Int):Bool:=insP xs i ys
end z1s
namespace z1s
theorem ok:True:=trivial
end z1s
end
end Go.Fw
namespace Go.Fw
section
variable {ρ:Type}
namespace z0i
def P (n:Int):Bool:=decide (0≤n) && decide (n≤5)
def g (n:Int):List (List Int):=zk1 n.toNat
end z0i
namespace z0i
def Z1 {ρ:Type} (N:Nat) (a:Int) (kn:Int→Option ρ):Option ρ :=
 kn a
def Z3 {ρ:Type} (N:Nat) (a:Int) (kn:LL→Int→Option ρ):Option ρ :=
 kn ([([]:List Int)]:List (LI)) a
def Z6 {ρ:Type} (N:Nat) (a:LL) (b:Int) (kn:LL→I2 (Option ρ)):Option ρ :=
 kn a b 0
def Z10 {ρ:Type} (N:Nat) (a:LL) (b c:Int) (kn:LL→I2 (Option ρ)) (k0:LL→Option ρ):Option ρ :=
 cond (lk N (decide (c < b)))
 (
  kn a b c)
 (
  k0 a)
def Z14 {ρ:Type} (N:Nat) (a:LL) (b c:Int) (kn:LL→I2 (Option ρ)):Option ρ :=
 kn a b c
def Z17 {ρ:Type} (N:Nat) (a:LL) (b c:Int) (kn:LL→I4 (Option ρ)):Option ρ :=
 kn a b c (a.length:Int) 0
def Z21 {ρ:Type} (N:Nat) (c d:LL) (e f a b:Int) (kn:LL→LL→I4 (Bool→Option ρ)):Option ρ :=
 kn c d e f a b (lk N (decide (b < a)))
def Z23 {ρ:Type} (N:Nat) (a d:LL) (b c e f:Int) (g:Bool) (kn:LL→LL→I4 (Option ρ)) (k2:LL→I2 (Option ρ)):Option ρ :=
 cond (g)
 (
  kn a d b c e f)
 (
  k2 a b c)
def Z27 {ρ:Type} (N:Nat) (c a:LL) (d e f b:Int) (kn:LL→LL→I2 (LI→I2 (Option ρ))):Option ρ :=
 cond (lk N (inB b a.length)) (
  kn c a d e (a.getD b.toNat []) f b) none
def Z29 {ρ:Type} (N:Nat) (a b:LL) (c d:Int) (e:LI) (f g:Int) (kn:LL→LL→I2 (LI→I3 (Option ρ))):Option ρ :=
 kn a b c d e 0 f g
def Z32 {ρ:Type} (N:Nat) (d e:LL) (f b:Int) (a:LI) (c h i:Int) (kn:LL→LL→I2 (LI→I3 (Option ρ))) (k4:LL→LL→I4 (Option ρ)):Option ρ :=
 cond (lk N (decide (c≤(a.length:Int))))
 (
  cond (lk N (z0t.P a)) (
   cond (lk N (z1s.P (z0t.g a) c ([b]:List Int))) (
    cond (lk N (Nat.blt (d.length + ([(z1s.g (z0t.g a) c ([b]:List Int))]:List (LI)).length) 1099511627776)) (
     kn (d ++ ([(z1s.g (z0t.g a) c ([b]:List Int))]:List (LI))) e f b a (w64 (c + 1)) h i) none) none) none)
 (
  k4 d e f b h i)
def Z31L {ρ:Type} (N:Nat) (k4:LL→LL→I4 (Option ρ)):Nat→LL→LL→Int→Int→LI→Int→Int→Int→Option ρ
 | 0,_,_,_,_,_,_,_,_=>none
 | M + 1,a,b,c,d,e,f,g,h=>Z32 N a b c d e f g h (fun a b c d e f g h=>Z31L N k4 M a b c d e f g h) k4
def Z31 N a b c d e f g h k4:=(Z31L N k4 N a b c d e f g h:Option ρ)
def Z30 N a b c d e f g h kn:=(Z31 N a b c d e f g h kn:Option ρ)
def Z28 N a b c d e f g kn:=(Z29 N a b c d e f g (fun a b c d e h f g=>Z30 N a b c d e h f g kn):Option ρ)
def Z26 N a b c d e f kn:=(Z27 N a b c d e f (fun a b c d g e f=>Z28 N a b c d g e f kn):Option ρ)
def Z25 N a b c d e f kn:=(Z26 N a b c d e f kn:Option ρ)
def Z33 {ρ:Type} (N:Nat) (a b:LL) (c d e f:Int) (kn:LL→LL→I4 (Option ρ)):Option ρ :=
 kn a b c d e (w64 (f + 1))
def Z24 N a b c d e f kn:=(Z25 N a b c d e f (fun a b c d e f=>Z33 N a b c d e f kn):Option ρ)
def Z22 N a b c d e f g kn k2:=(Z23 N a b c d e f g (fun a b c d e f=>Z24 N a b c d e f kn) k2:Option ρ)
def Z20 N a b c d e f kn k2:=(Z21 N a b c d e f (fun a b c d e f g=>Z22 N a b c d e f g kn k2):Option ρ)
def Z19L {ρ:Type} (N:Nat) (k2:LL→I2 (Option ρ)):Nat→LL→LL→Int→Int→Int→Int→Option ρ
 | 0,_,_,_,_,_,_=>none
 | M + 1,a,b,c,d,e,f=>Z20 N a b c d e f (fun a b c d e f=>Z19L N k2 M a b c d e f) k2
def Z19 N a b c d e k2:=(Z19L N k2 N ([]:List (LI)) a b c d e:Option ρ)
def Z18 N a b c d e kn:=(Z19 N a b c d e kn:Option ρ)
def Z16 N c a b kn:=(Z17 N c a b (fun d a b e f=>Z18 N d a b e f kn):Option ρ)
def Z34 {ρ:Type} (N:Nat) (a:LL) (b c:Int) (kn:LL→I2 (Option ρ)):Option ρ :=
 kn a b c
def Z15 N c a b kn:=(Z16 N c a b (fun d a b=>Z34 N d a b kn):Option ρ)
def Z13 N a b c kn:=(Z14 N a b c (fun a b c=>Z15 N a b c kn):Option ρ)
def Z12 N a b c kn:=(Z13 N a b c kn:Option ρ)
def Z35 {ρ:Type} (N:Nat) (a:LL) (b c:Int) (kn:LL→I2 (Option ρ)):Option ρ :=
 kn a b (w64 (c + 1))
def Z11 N a b c kn:=(Z12 N a b c (fun a b c=>Z35 N a b c kn):Option ρ)
def Z9 N a b c kn k0:=(Z10 N a b c (fun a b c=>Z11 N a b c kn) k0:Option ρ)
def Z8L {ρ:Type} (N:Nat) (k0:LL→Option ρ):Nat→LL→Int→Int→Option ρ
 | 0,_,_,_=>none
 | M + 1,a,b,c=>Z9 N a b c (fun a b c=>Z8L N k0 M a b c) k0
def Z8 N a b c k0:=(Z8L N k0 N a b c:Option ρ)
def Z7 N a b c kn:=(Z8 N a b c kn:Option ρ)
def Z5 N a b kn:=(Z6 N a b (fun a b c=>Z7 N a b c kn):Option ρ)
def Z36 {ρ:Type} (N:Nat) (a:LL) (kr:LL→Option ρ):Option ρ :=
 kr a
def Z4 N a b kr:=(Z5 N a b (fun a=>Z36 N a kr):Option ρ)
def Z2 N a kr:=(Z3 N a (fun b a=>Z4 N b a kr):Option ρ)
def Z0 N a kr:=(Z1 N a (fun a=>Z2 N a kr):Option ρ)
def Spec:Prop:=∀  (v0:Int),P v0 = true→∃ N0,∀ N,N0≤N→Z0 N v0 (fun v2=>some ((),(v2,()))) = some ((),((g v0),()))
theorem inner {ρ:Type} {N:Nat} {l:List Int} (hl:l.length≤5) (t15:List (List Int)) (n k t16 t17:Int) (k4:List (List Int)→List (List Int)→Int→Int→Int→Int→Option ρ):∀ (M i:Nat) (next:List (List Int)),i≤l.length + 1→next.length + (l.length + 1 - i)≤10000→l.length + 1 - i < M →
  Z31L N k4 M next t15 n k l (i:Int) t16 t17 = k4 (next ++ ((List.range (l.length + 1)).drop i).map fun i=>ztc l ((i:Nat):Int) [k]) t15 n k t16 t17:=by
 intro M
 induction M with
 | zero=>intro i next _ _ h; omega
 | succ M ih =>
  intro i next hi hs hM
  simp only [Z31L,Z32]
  by_cases h:i < l.length + 1
  ·have h1:z0t.P l = true:=dt (by omega)
   have h1g:z0t.g l = l:=rfl
   have h2:z1s.P l (i:Int) [k] = true:=by
    show insP l (i:Int) [k] = true
    simp only [insP,Bool.and_eq_true,decide_eq_true_eq,Int.toNat_natCast]
    exact ⟨Nat.ble_eq_true_of_le (by omega),by omega,rfl,Nat.ble_eq_true_of_le (by simp; omega)⟩
   have h2g:z1s.g l (i:Int) [k] = ztc l (i:Int) [k]:=rfl
   have h3:Nat.blt (next.length + ([ztc l (i:Int) [k]]:List (List Int)).length) 1099511627776 = true:=Nat.ble_eq_true_of_le (by simp; omega)
   rw [ct (dt (by omega)),ct h1,h1g,ct h2,h2g,ct h3,z1c (by rw [z0z]; omega),ih (i + 1) _ h (by simp; omega) (by omega),z3q h,List.map_cons,List.append_assoc]
   rfl
  ·rw [cf (df (by omega)),List.drop_of_length_le (by simp; omega)]
   simp
theorem mid {ρ:Type} {N:Nat} (hN:10≤N) {t15:List (List Int)} (ht:∀ o ∈ t15,o.length≤5) (ht2:t15.length≤1000) (n k:Int) (k2:List (List Int)→Int→Int→Option ρ):∀ (M j:Nat) (next:List (List Int)),j≤t15.length→next.length + (t15.length - j) * 6≤10000→t15.length - j < M →
  Z19L N k2 M next t15 n k (t15.length:Int) (j:Int) = k2 (next ++ (t15.drop j).flatMap (insAll k)) n k:=by
 intro M
 induction M with
 | zero=>intro i next _ _ h; omega
 | succ M ih =>
  intro j next hj hs hM
  simp only [Z19L,Z20,Z21,Z22,Z23]
  by_cases h:j < t15.length
  ·have hl:=ht _ (z1m (l:=t15) [] h)
   rw [ct (dt (by omega))]
   simp only [Z24,Z25,Z26,Z27]
   rw [ct (z1b h),Int.toNat_natCast]
   simp only [Z28,Z29,Z30,Z31]
   have hin:=inner (ρ:=ρ) (N:=N) hl t15 n k (t15.length:Int) (j:Int) (fun next5 t15 n0 k4 t16 t17=>Z33 N next5 t15 n0 k4 t16 t17 (fun next5 t15 n0 k4 t16 t17=>Z19L N k2 M next5 t15 n0 k4 t16 t17)) N 0 next (by omega) (by omega) (by omega)
   rw [show ((0:Nat):Int) = 0 from rfl,List.drop_zero] at hin
   rw [hin]
   simp only [Z33]
   have e:(t15.length - j) * 6 = (t15.length - (j + 1)) * 6 + 6:=by omega
   rw [z1c (by rw [z0z]; omega),ih (j + 1) _ h (by rw [List.length_append,List.length_map,List.length_range]; omega) (by omega),z3z (l:=t15) [] h,List.flatMap_cons,List.append_assoc]
   rfl
  ·rw [cf (df (by omega)),List.drop_of_length_le (by omega)]
   simp
theorem outer {ρ:Type} {N n:Nat} (hN:1000≤N) (hn:n≤5) (k0:List (List Int)→Option ρ):∀ (M k:Nat),k≤n→n - k < M →
  Z8L N k0 M (zk1 k) (n:Int) (k:Int) = k0 (zk1 n):=by
 intro M
 induction M with
 | zero=>intro k _ h; omega
 | succ M ih =>
  intro k hk hM
  simp only [Z8L,Z9,Z10]
  by_cases h:k < n
  ·rw [ct (dt (by omega))]
   simp only [Z11,Z12,Z13,Z14,Z15,Z16,Z17,Z18,Z19]
   have hlen:=zk0 (n:=k) (by omega)
   have hm:=mid (ρ:=ρ) (N:=N) (by omega) (t15:=zk1 k) (fun o ho=>by rw [ordN_len (by omega) o ho]; omega) (by omega) (n:Int) (k:Int) (fun next5 n0 k4=>Z34 N next5 n0 k4 (fun out3 n0 k4=>Z35 N out3 n0 k4 (fun out3 n0 k4=>Z8L N k0 M out3 n0 k4))) N 0 [] (Nat.zero_le _) (by simp; omega) (by omega)
   rw [show ((0:Nat):Int) = 0 from rfl,List.drop_zero,List.nil_append] at hm
   rw [hm]
   simp only [Z34,Z35]
   rw [z1c (by rw [z0z]; omega)]
   exact ih (k + 1) h (by omega)
  ·rw [cf (df (by omega)),show k = n by omega]
theorem ok:Spec:=fun n hp=>⟨1000,fun N hN=>by
 simp only [P,Bool.and_eq_true,decide_eq_true_eq] at hp
 obtain ⟨n,rfl⟩:=Int.eq_ofNat_of_zero_le hp.1
 simp only [Z0,Z1,Z2,Z3,Z4,Z5,Z6,Z7,Z8]
 refine (outer hN (by omega) _ N 0 (Nat.zero_le _) (by omega)).trans ?_
 rw [g,Int.toNat_natCast]
 rfl⟩
end z0i
end
end Go.Fw
namespace Go.Fw
section
variable {ρ:Type}
namespace z32
def g (_:Int):Bool:=false
end z32
namespace z32
def Z0 {ρ:Type} (N:Nat) (a:Int) (kr:Bool→Option ρ):Option ρ :=
 kr (lk N (!(decide (a = a))))
def Spec:Prop:=∀  (v0:Int),∃ N0,∀ N,N0≤N→Z0 N v0 (fun v2=>some ((),(v2,()))) = some ((),((g v0),()))
theorem ok:Spec:=fun x=>⟨0,fun N hN=>by simp [Z0,z1x,g]⟩
end z32
end
end Go.Fw
namespace Go.Fw
section
variable {ρ:Type}
namespace z2e
def g (x y:Int):Int:=if x = y then 0 else if x < y then -1 else 1
end z2e
namespace z2e
def Z0 {ρ:Type} (N:Nat) (b a:Int) (kr:Int→Option ρ):Option ρ :=
 cond (lk N ((z32.g b)))
 (
  cond (lk N ((z32.g a)))
  (
   kr 0)
  (
   kr (-1)))
 (
  cond (lk N ((z32.g a)))
  (
   kr 1)
  (
   cond (lk N (decide (b < a)))
   (
    kr (-1))
   (
    cond (lk N (decide (a < b)))
    (
     kr 1)
    (
     kr 0))))
def Spec:Prop:=∀  (v0 v1:Int),∃ N0,∀ N,N0≤N→Z0 N v0 v1 (fun v4=>some ((),(v4,()))) = some ((),((g v0 v1),()))
theorem ok:Spec:=fun x y=>⟨0,fun N hN=>by
 simp only [Z0,z1x,g,z32.g,cond_false]
 by_cases h:x < y
 ·rw [dt h,if_neg (by omega),if_pos h]; rfl
 ·rw [df h]
  by_cases h2:y < x
  ·rw [dt h2,if_neg (by omega),if_neg h]; rfl
  ·rw [df h2,if_pos (by omega)]; rfl⟩
end z2e
end
end Go.Fw
namespace Go.Fw
section
variable {ρ:Type}
namespace z0m
abbrev g (a b:List Int):Int:=zf8 a b
end z0m
namespace z0m
def Z1 {ρ:Type} (N:Nat) (a b:LI) (kn:LI→LI→Option ρ):Option ρ :=
 kn a b
def Z4 {ρ:Type} (N:Nat) (a b:LI) (kn:LI→LI→LI→I2 (Option ρ)):Option ρ :=
 kn a b a (a.length:Int) 0
def Z7 {ρ:Type} (N:Nat) (d b c:LI) (e a:Int) (kn:LI→LI→LI→I2 (Option ρ)) (k0:LI→LI→Option ρ) (kr:Int→Option ρ):Option ρ :=
 cond (lk N (decide (a < e)))
 (
  cond (lk N (inB a c.length)) (
   cond (lk N (decide ((b.length:Int)≤a)))
   (
    kr 1)
   (
    cond (lk N (inB a b.length)) (
     cond (lk N (!(decide ((z2e.g (c.getD a.toNat 0) (b.getD a.toNat 0)) = 0))))
     (
      kr (z2e.g (c.getD a.toNat 0) (b.getD a.toNat 0)))
     (
      kn d b c e (w64 (a + 1)))) none)) none)
 (
  k0 d b)
def Z6L {ρ:Type} (N:Nat) (k0:LI→LI→Option ρ) (kr:Int→Option ρ):Nat→LI→LI→LI→Int→Int→Option ρ
 | 0,_,_,_,_,_=>none
 | M + 1,a,b,c,d,e=>Z7 N a b c d e (fun a b c d e=>Z6L N k0 kr M a b c d e) k0 kr
def Z6 N a b c d e k0 kr:=(Z6L N k0 kr N a b c d e:Option ρ)
def Z5 N a b c d e kn kr:=(Z6 N a b c d e kn kr:Option ρ)
def Z3 N a b kn kr:=(Z4 N a b (fun a b c d e=>Z5 N a b c d e kn kr):Option ρ)
def Z8 {ρ:Type} (N:Nat) (a b:LI) (kr:Int→Option ρ):Option ρ :=
 cond (lk N (decide ((a.length:Int) < (b.length:Int))))
 (
  kr (-1))
 (
  kr 0)
def Z2 N a b kr:=(Z3 N a b (fun a b=>Z8 N a b kr) kr:Option ρ)
def Z0 N a b kr:=(Z1 N a b (fun a b=>Z2 N a b kr):Option ρ)
def Spec:Prop:=∀  (v0 v1:LI),Ty.bd (.sl 0 (.int .i64)) v0→Ty.bd (.sl 0 (.int .i64)) v1→∃ N0,∀ N,N0≤N→Z0 N v0 v1 (fun v4=>some ((),(v4,()))) = some ((),((g v0 v1),()))
theorem loop {ρ:Type} (N:Nat) (k0:List Int→List Int→Option ρ) (kr:Int→Option ρ) (a b:List Int) (ha:a.length≤maxLen) (h0:k0 a b = if a.length < b.length then kr (-1) else kr 0):∀ (M j:Nat),j≤a.length→j≤b.length→a.length - j < M →
  Z6L N k0 kr M a b a (a.length:Int) (j:Int) = kr (zf8 (a.drop j) (b.drop j)):=by
 intro M
 induction M with
 | zero=>intro j _ _ h; omega
 | succ M ih =>
  intro j hj hb hM
  simp only [Z6L,Z7]
  by_cases h:j < a.length
  ·rw [ct (dt (by omega)),ct (z1b h),z3z 0 h]
   by_cases h2:j < b.length
   ·rw [cf (df (by omega)),ct (z1b h2),Int.toNat_natCast,z1c (by omega),z3z (l:=b) 0 h2,zf8,ih (j + 1) h h2 (by omega)]
    by_cases e:a.getD j 0 = b.getD j 0
    ·rw [cf (nf (by rw [z2e.g,if_pos e])),if_pos e]
    ·rw [ct (nt (by simp only [z2e.g,if_neg e]; split <;> omega)),if_neg e]
     simp only [z2e.g,if_neg e]
   ·rw [ct (dt (by omega)),List.drop_of_length_le (l:=b) (by omega)]
    rfl
  ·rw [cf (df (by omega)),List.drop_of_length_le (by omega),h0]
   by_cases h2:j < b.length
   ·rw [if_pos (by omega),z3z (l:=b) 0 h2]; rfl
   ·rw [if_neg (by omega),List.drop_of_length_le (l:=b) (by omega)]; rfl
theorem ok:Spec:=fun a b ha hb=>⟨a.length + 1,fun N hN=>by
 simp only [Z1,Z4,Z7,Z6,Z5,Z3,Z8,Z2,Z0]
 refine (loop N _ (fun t=>some ((),(t,()))) a b ha.1 ?_ N 0 (by omega) (by omega) (by omega)).trans rfl
 by_cases h:a.length < b.length
 ·rw [ct (dt (by omega)),if_pos h]
 ·rw [cf (df (by omega)),if_neg h]⟩
end z0m
end
end Go.Fw
namespace Go.Fw
section
variable {ρ:Type}
namespace z08
def g (m:Int × Int × List Int):(Int × Int × List Int) × Bool:=if ((z1l m && !decide (z6h m = [])) && decide (m.2.1 = m.1)) = true then (canI m,true) else ((0,0,[]),false)
end z08
namespace z08
def Z1 {ρ:Type} (N:Nat) (a:MT) (kn:I2 (LI→I2 (Option ρ))):Option ρ :=
 kn a.1 a.2.1 a.2.2 0 0
def Z3 {ρ:Type} (N:Nat) (a b:Int) (c:LI) (d e:Int) (kn:I2 (LI→I2 (Option ρ))) (kr:LI→Bool→I2 (Option ρ)):Option ρ :=
 cond (!(lk N ((z1o.g (a,(b,c))))))
 (
  kr ([]:List Int) false 0 0)
 (
  cond (lk N (!(decide (b = a))))
  (
   kr ([]:List Int) false 0 0)
  (
   kn a b c d e))
def Z5 {ρ:Type} (N:Nat) (a b:Int) (c:LI) (d e:Int) (kn:I2 (LI→I4 (LI→Option ρ))):Option ρ :=
 kn a b c d e a b c
def Z8 {ρ:Type} (N:Nat) (a b:Int) (c:LI) (d e f h:Int) (i:LI) (kn:LL→I4 (LI→I4 (LI→Option ρ))):Option ρ :=
 cond (lk N (z0i.P a)) (
  kn (z0i.g a) ((z0i.g a).length:Int) 0 a b c d e f h i) none
def Z11 {ρ:Type} (N:Nat) (b:LL) (j:LI) (f a c d:Int) (e:LI) (h i l m:Int) (kn:LL→LI→I4 (LI→I4 (Option ρ))) (k0:LI→I4 (Option ρ)):Option ρ :=
 cond (lk N (decide (a < f)))
 (
  cond (lk N (inB a b.length)) (
   cond (lk N (decide (a = 0)))
   (
    kn b (z04.g (c,(d,e)) (b.getD a.toNat [])).1.2.2 f (w64 (a + 1)) c d e h i (z04.g (c,(d,e)) (b.getD a.toNat [])).1.1 (z04.g (c,(d,e)) (b.getD a.toNat [])).1.2.1)
   (
    cond (lk N (decide ((z0m.g (z04.g (c,(d,e)) (b.getD a.toNat [])).1.2.2 j) < 0)))
    (
     kn b (z04.g (c,(d,e)) (b.getD a.toNat [])).1.2.2 f (w64 (a + 1)) c d e h i (z04.g (c,(d,e)) (b.getD a.toNat [])).1.1 (z04.g (c,(d,e)) (b.getD a.toNat [])).1.2.1)
    (
     kn b j f (w64 (a + 1)) c d e h i l m))) none)
 (
  k0 j h i l m)
def Z12 {ρ:Type} (N:Nat) (b:LL) (f a c d:Int) (e:LI) (h i l m:Int) (j:LI) (kn:LL→LI→I4 (LI→I4 (Option ρ))) (k0:LI→I4 (Option ρ)):Option ρ :=
 cond (lk N (decide (a < f)))
 (
  cond (lk N (inB a b.length)) (
   cond (lk N (decide (a = 0)))
   (
    kn b (z04.g (c,(d,e)) (b.getD a.toNat [])).1.2.2 f (w64 (a + 1)) c d e h i (z04.g (c,(d,e)) (b.getD a.toNat [])).1.1 (z04.g (c,(d,e)) (b.getD a.toNat [])).1.2.1)
   (
    cond (lk N (decide ((z0m.g (z04.g (c,(d,e)) (b.getD a.toNat [])).1.2.2 j) < 0)))
    (
     kn b (z04.g (c,(d,e)) (b.getD a.toNat [])).1.2.2 f (w64 (a + 1)) c d e h i (z04.g (c,(d,e)) (b.getD a.toNat [])).1.1 (z04.g (c,(d,e)) (b.getD a.toNat [])).1.2.1)
    (
     none))) none)
 (
  none)
def Z10L {ρ:Type} (N:Nat) (k0:LI→I4 (Option ρ)):Nat→LL→LI→Int→Int→Int→Int→LI→Int→Int→Int→Int→Option ρ
 | 0,_,_,_,_,_,_,_,_,_,_,_=>none
 | M + 1,a,b,c,d,e,f,g,h,i,j,l=>Z11 N a b c d e f g h i j l (fun a b c d e f g h i j l=>Z10L N k0 M a b c d e f g h i j l) k0
def Z10 N a b c d e f g h i j l k0:=(Z12 N a b c d e f g h i j l (fun a l b c d e f g h i j=>Z10L N k0 N a l b c d e f g h i j) k0:Option ρ)
def Z9 N a b c d e f g h i j l kn:=(Z10 N a b c d e f g h i j l kn:Option ρ)
def Z7 N a b c d e f g h kn:=(Z8 N a b c d e f g h (fun i j l a b c d e f g h=>Z9 N i j l a b c d e f g h kn):Option ρ)
def Z13 {ρ:Type} (N:Nat) (a:LI) (d e b c:Int) (kr:LI→Bool→I2 (Option ρ)):Option ρ :=
 kr a true b c
def Z6 N f g h a b c d e kr:=(Z7 N f g h a b c d e (fun e a b c d=>Z13 N e a b c d kr):Option ρ)
def Z4 N a b c d e kr:=(Z5 N a b c d e (fun a b c d e f g h=>Z6 N a b c d e f g h kr):Option ρ)
def Z2 N a b c d e kr:=(Z3 N a b c d e (fun a b c d e=>Z4 N a b c d e kr) kr:Option ρ)
def Z0 N a kr:=(Z1 N a (fun b c d e f=>Z2 N b c d e f kr):Option ρ)
def Spec:Prop:=∀  (v0:MT),Ty.bd (.pair (.int .i64) (.pair (.int .i64) (.sl 0 (.int .i64)))) v0→∃ N0,∀ N,N0≤N→Z0 N v0 (fun v2_2 v3 v2_0 v2_1=>some ((),((v2_0,(v2_1,v2_2)),(v3,())))) = some ((),((g v0).1,((g v0).2,())))
theorem ren_at {m:Int × Int × List Int} (hok:(z1l m && !decide (z6h m = [])) = true) {o:List Int} (ho:z49 o m.1 = true):z04.g (m.1,(m.2.1,m.2.2)) o = (z6j m o,true):=by
 unfold z04.g
 rw [if_pos]
 rw [show (m.1,(m.2.1,m.2.2)) = m from rfl,hok,ho]
 rfl
theorem loop {ρ:Type} {N:Nat} {m:Int × Int × List Int} (hok:(z1l m && !decide (z6h m = [])) = true) {l:List (List Int)} (hl:∀ o ∈ l,z49 o m.1 = true) (hl2:l.length≤4000) (k0:List Int→Int→Int→Int→Int→Option ρ) (t0 t1:Int) :
  ∀ (M j:Nat) (b:List Int),1≤j→j≤l.length→l.length - j < M→Z10L N k0 M l b (l.length:Int) (j:Int) m.1 m.2.1 m.2.2 t0 t1 m.1 m.2.1 = k0 (ze7 (zb7 m) b (l.drop j)) t0 t1 m.1 m.2.1:=by
 intro M
 induction M with
 | zero=>intro j b _ _ h; omega
 | succ M ih =>
  intro j b h1 hj hM
  simp only [Z10L,Z11]
  by_cases h:j < l.length
  ·have e0:=ren_at hok (hl _ (z1m (l:=l) [] h))
   have e1:decide ((z0m.g (zb7 m (l.getD j [])) b) < 0) = z51 (zb7 m (l.getD j [])) b:=znu _ _
   rw [ct (dt (by omega)),ct (z1b h),cf (df (by omega)),Int.toNat_natCast,e0]
   have e2:((z6j m (l.getD j []),true):(Int × Int × List Int) × Bool).1.2.2 = zb7 m (l.getD j []):=rfl
   have e3:((z6j m (l.getD j []),true):(Int × Int × List Int) × Bool).1.1 = m.1:=rfl
   have e4:((z6j m (l.getD j []),true):(Int × Int × List Int) × Bool).1.2.1 = m.2.1:=rfl
   rw [e2,e3,e4,e1,z1x,z1c (by rw [z0z]; omega),ih (j + 1) _ (by omega) h (by omega),ih (j + 1) _ (by omega) h (by omega),z3z (l:=l) [] h]
   have e5:ze7 (zb7 m) b (l.getD j [] :: l.drop (j + 1)) = ze7 (zb7 m) (if z51 (zb7 m (l.getD j [])) b = true then zb7 m (l.getD j []) else b) (l.drop (j + 1)):=rfl
   rw [e5]
   cases z51 (zb7 m (l.getD j [])) b <;> rfl
  ·rw [cf (df (by omega)),List.drop_of_length_le (by omega)]
   rfl
theorem ok:Spec:=fun m hb=>⟨5000,fun N hN=>by
 have e0:z1o.g (m.1,(m.2.1,m.2.2)) = (z1l m && !decide (z6h m = [])):=rfl
 simp only [Z0,Z1,Z2,Z3,e0,z1x,g]
 cases h1:(z1l m && !decide (z6h m = []))
 ·rfl
 by_cases h2:m.2.1 = m.1
 ·have hs:z1l m = true:=by
   simp only [Bool.and_eq_true] at h1
   exact h1.1
  have hd:=z28 hs
  obtain ⟨n,r,hn,hr',hn1,hn5,hnr,hr8,hl⟩:=z17 hd
  have e1:m.1.toNat = n:=by omega
  have hOP:z0i.P m.1 = true:=by
   simp only [z0i.P,Bool.and_eq_true,decide_eq_true_eq]
   exact ⟨by omega,by omega⟩
  have hO:z0i.g m.1 = zk1 n:=by rw [z0i.g,e1]
  have hcnt:=zk0 hn5
  have hnm:∀ o ∈ zk1 n,z49 o m.1 = true:=fun o ho=>by
   rw [hn]
   exact zh0 hn5 ho
  have hid:=zxp hn5
  rw [dt h2]
  simp only [Bool.not_true,cond_false,Z4,Z5,Z6,Z7,Z8,hOP,z1x,cond_true,hO]
  simp only [Z9,Z10,Z12]
  have hca:canI m = (m.1,m.2.1,minI (zb7 m) (zk1 n)):=by rw [canI,e1]
  rw [hca]
  generalize zk1 n = O at hcnt hnm hid
  cases O with
  | nil=>cases hid
  | cons o os =>
   have e2:=ren_at h1 (hnm o (List.mem_cons_self ..))
   have e3:(o :: os).getD (0:Int).toNat [] = o:=rfl
   rw [ct (dt (by simp)),ct (show inB 0 (o :: os).length = true from z1b (j:=0) (by simp)),ct (show decide True = true from rfl),e3,e2]
   have hlp:=loop (ρ:=Unit × (Int × Int × List Int) × Bool × Unit) (N:=N) h1 hnm (by omega) (fun best4_2 t2_0 t2_1 best4_0 best4_1=>Z13 N best4_2 t2_0 t2_1 best4_0 best4_1 (fun t2_2 t3 t2_0 t2_1=>some ((),((t2_0,(t2_1,t2_2)),(t3,()))))) 0 0 N 1 (zb7 m o) (by omega) (by simp) (by omega)
   exact hlp
 ·rw [df h2]
  rfl⟩
end z08
end
end Go.Fw
