/- The plain part: what the functions compute, in lists and numbers. Nothing is assumed. -/
import Derived.Test.YtkjnhmjfdfiklaaGreatDoorFwd
import Derived.Test.YtkjnhmjfdfiklaaGreatDoorPuFnExactIsFiniteTypea
noncomputable section
set_option linter.defProp false
set_option linter.defProp false
set_option linter.unusedSectionVars false
set_option linter.unusedVariables false
set_option linter.unusedSimpArgs false
set_option maxRecDepth 100000
namespace Go.Fw
section
variable {ρ : Type}
namespace z0f
def P(m:Int×Int×List Int):Bool:=z4q m&&decide (m.2.1=m.1)
def g(m:Int×Int×List Int):Int×Int×List Int:=zb9 m
end z0f
namespace z0f
def Z1{ρ:Type}(N:Nat)(a:MT)(kn:I2 (LI->I2 (Option ρ))):Option ρ :=
 kn a.1 a.2.1 a.2.2 0 0
def Z3{ρ:Type}(N:Nat)(a b:Int)(c:LI)(d e:Int)(kn:LI->I2 (LI->I4 (Option ρ))):Option ρ :=
 cond (lk N (z0t.P (a,(b,c)))) (
  kn (z0t.g (a,(b,c))).2.2 a b c d e (z0t.g (a,(b,c))).1 (z0t.g (a,(b,c))).2.1) none
def Z5{ρ:Type}(N:Nat)(b:LI)(a c:Int)(d:LI)(e f h i:Int)(kn:LL->LI->I2 (LI->I4 (Option ρ))):Option ρ :=
 cond (lk N (z0y.P ([]:List Int) a ([]:List (LI)))) (
  kn (z0y.g ([]:List Int) a ([]:List (LI))) b a c d e f h i) none
def Z8{ρ:Type}(N:Nat)(a:LL)(b:LI)(c d:Int)(e:LI)(f g h i:Int)(kn:LL->LI->I3 (LI->I4 (Option ρ))):Option ρ :=
 kn a b 0 c d e f g h i
def Z11{ρ:Type}(N:Nat)(a:LL)(f:LI)(b c d:Int)(e:LI)(h i j l:Int)(kn:LL->LI->I3 (LI->I4 (Option ρ)))(k0:LI->I4 (Option ρ)):Option ρ :=
 cond (lk N (decide (b<(a.length:Int))))
 (
  cond (lk N (inB b a.length)) (
   bo (
    cond (lk N (z0g.P (c,(d,e)) (a.getD b.toNat []))) (
     cond (lk N ((z1w.g (z0g.g (c,(d,e)) (a.getD b.toNat [])).2.2 f)))
     (
      kn a (z0g.g (c,(d,e)) (a.getD b.toNat [])).2.2 (w64 (b+1)) c d e h i (z0g.g (c,(d,e)) (a.getD b.toNat [])).1 (z0g.g (c,(d,e)) (a.getD b.toNat [])).2.1)
     (
      kn a f (w64 (b+1)) c d e h i j l)) none)) none)
 (
  k0 f h i j l)
def Z10L{ρ:Type}(N:Nat)(k0:LI->I4 (Option ρ)):Nat->LL->LI->Int->Int->Int->LI->Int->Int->Int->Int->Option ρ
 | 0,_,_,_,_,_,_,_,_,_,_=>none
 | M+1,a,b,c,d,e,f,g,h,i,j=>Z11 N a b c d e f g h i j (λa b c d e f g h i j=>Z10L N k0 M a b c d e f g h i j) k0
def Z10 N a b c d e f g h i j k0:=(Z10L N k0 N a b c d e f g h i j:Option ρ)
def Z9 N a b c d e f g h i j kn:=(Z10 N a b c d e f g h i j kn:Option ρ)
def Z7 N a b c d e f g h i kn:=(Z8 N a b c d e f g h i (λa b j c d e f g h i=>Z9 N a b j c d e f g h i kn):Option ρ)
def Z12{ρ:Type}(N:Nat)(a:LI)(d e b c:Int)(kr:LI->I2 (Option ρ)):Option ρ :=
 kr a b c
def Z6 N f a g h i b c d e kr:=(Z7 N f a g h i b c d e (λa b c d e=>Z12 N a b c d e kr):Option ρ)
def Z4 N a b c d e f g h kr:=(Z5 N a b c d e f g h (λi a b c d e f g h=>Z6 N i a b c d e f g h kr):Option ρ)
def Z2 N a b c d e kr:=(Z3 N a b c d e (λf a b c d e g h=>Z4 N f a b c d e g h kr):Option ρ)
def Z0 N a kr:=(Z1 N a (λb c d e f=>Z2 N b c d e f kr):Option ρ)
def Spec:Prop:=∀ (v0:MT),Ty.bd (.pair (.int .i64) (.pair (.int .i64) (.sl 0 (.int .i64)))) v0->P v0=true->∃N0,∀N,N0<=N->Z0 N v0 (λv2_2 v2_0 v2_1=>some ((),((v2_0,(v2_1,v2_2)),())))=some ((),((g v0),()))
def loop{ρ:Type}{N:Nat}{m:Int×Int×List Int}(hd:z4q m=true){l:List (List Int)}(hl:∀o∈l,z4g o m.1=true)(hl2:l.length<=4000)(k0:List Int->Int->Int->Int->Int->Option ρ)(t0 t1:Int) :
  ∀(M j:Nat) (b:List Int),j<=l.length->l.length-j<M->Z10L N k0 M l b (j:Int) m.1 m.2.1 m.2.2 t0 t1 m.1 m.2.1=k0 (za2 (z6t m) b (l.drop j)) t0 t1 m.1 m.2.1:=by
 intro M
 induction M with
 | zero=>intro j b _ h;omega
 | succ M ih =>
  intro j b hj hM
  simp only[Z10L,Z11]
  by_cases h:j<l.length
  ·have hP:z0g.P (m.1,(m.2.1,m.2.2)) (l.getD j [])=true:=by
    have:=hl _ (z18 (l:=l) [] h)
    simp only[z0g.P,Bool.and_eq_true]
    exact⟨hd,this⟩
   have e1:(z0g.g (m.1,(m.2.1,m.2.2)) (l.getD j [])).2.2=z6t m (l.getD j []):=rfl
   have e2:(z0g.g (m.1,(m.2.1,m.2.2)) (l.getD j [])).1=m.1:=rfl
   have e3:(z0g.g (m.1,(m.2.1,m.2.2)) (l.getD j [])).2.1=m.2.1:=rfl
   have e4:z1w.g (z6t m (l.getD j [])) b=z3e (z6t m (l.getD j [])) b:=rfl
   rw[ct (dt (by omega)),ct (z0u h)]
   simp only[Int.toNat_natCast,z8w,e1,e2,e3,e4,z2c,hP,cond_true]
   rw[z0w (by rw[z0k];omega),ih (j+1) _ h (by omega),ih (j+1) _ h (by omega),z2d (l:=l) [] h]
   have e5:za2 (z6t m) b (l.getD j []::l.drop (j+1))=za2 (z6t m) (if z3e (z6t m (l.getD j [])) b=true then z6t m (l.getD j [])else b) (l.drop (j+1)):=rfl
   rw[e5]
   cases z3e (z6t m (l.getD j [])) b<;>rfl
  ·rw[cf (df (by omega)),List.drop_of_length_le (by omega)]
   rfl
def ok:Spec:=λm hb hp=>⟨5000,λN hN=>by
 simp only[P,Bool.and_eq_true,decide_eq_true_eq]at hp
 obtain⟨hd,hr⟩:=hp
 obtain⟨n,r,hn,hr',hn1,hn5,hnr,hr8,hl⟩:=z13 hd
 have hlen:m.2.2.length<=8*5:=by rw[hl];exact Nat.mul_le_mul hr8 hn5
 have e1:m.1.toNat=n:=by omega
 have h5:5 ^ n<=5 ^ 5:=Nat.pow_le_pow_right (by omega) hn5
 have hOP:z0y.P [] m.1 []=true:=by
  simp only[z0y.P,List.length_nil,Bool.and_eq_true,decide_eq_true_eq,e1,Nat.sub_zero,Nat.zero_add]
  exact⟨by omega,by omega,by omega,Nat.le_trans h5 (by decide)⟩
 have hO:z0y.g [] m.1 []=zbj n n []:=by
  rw[z0y.g,e1]
  rfl
 have hol:=zgv n hn5 n []
 have hol:(zbj n n []).length<=4000:=Nat.le_trans hol (Nat.le_trans h5 (by decide))
 have hnm:∀o∈zbj n n [],z4g o m.1=true:=λo ho=>by
  rw[hn]
  exact z74 hn5 ((zas hn5 o).2 ho)
 simp only[Z0,Z1,Z2,Z3]
 rw[ct (show z0t.P (m.1,(m.2.1,m.2.2))=true from dt (show m.2.2.length<1099511627776 by omega))]
 simp only[Z4,Z5]
 rw[ct hOP,hO]
 simp only[Z6,Z7,Z8,Z9,Z10]
 refine(loop hd hnm hol _ _ _ N 0 _ (Nat.zero_le _) (by omega)).trans ?_
 rw[List.drop_zero,g,zb9,e1]
 rfl⟩
end z0f
end
end Go.Fw
namespace Go.Fw
section
variable {ρ : Type}
namespace z0d
def P(m:Int×Int×List Int)(k:Int):Bool:=z12 m&&(decide (0<=k)&&decide (k<m.1))
def g(m:Int×Int×List Int)(k:Int):Int×Int×List Int:=z5p m k.toNat
end z0d
namespace z0d
def Z1{ρ:Type}(N:Nat)(a:MT)(b:Int)(kn:I3 (LI->I2 (Option ρ))):Option ρ :=
 kn b a.1 a.2.1 a.2.2 0 0
def Z3{ρ:Type}(N:Nat)(d a b:Int)(c:LI)(e f:Int)(kn:LI->I3 (LI->I4 (Option ρ))):Option ρ :=
 cond (lk N (z0t.P (a,(b,c)))) (
  kn (z0t.g (a,(b,c))).2.2 d a b c e f (z0t.g (a,(b,c))).1 (z0t.g (a,(b,c))).2.1) none
def Z6{ρ:Type}(N:Nat)(a:LI)(b c d:Int)(e:LI)(f g h i:Int)(kn:LI->I4 (LI->I4 (Option ρ))):Option ρ :=
 kn a b 0 c d e f g h i
def Z10{ρ:Type}(N:Nat)(a:LI)(h b i c:Int)(j:LI)(d e f g:Int)(kn:LI->I4 (LI->I4 (Option ρ)))(k0:LI->I4 (Option ρ)):Option ρ :=
 cond (lk N (decide (b<c)))
 (
  kn a h b i c j d e f g)
 (
  k0 a d e f g)
def Z14{ρ:Type}(N:Nat)(a:LI)(b c d e:Int)(f:LI)(g h i j:Int)(kn:LI->I5 (LI->I4 (Option ρ))):Option ρ :=
 kn a b c 0 d e f g h i j
def Z18{ρ:Type}(N:Nat)(b:LI)(c d e a f:Int)(g:LI)(h i j l:Int)(kn:LI->I5 (LI->I4 (Option ρ)))(k2:LI->I4 (LI->I4 (Option ρ))):Option ρ :=
 cond (lk N (decide (e<a)))
 (
  kn b c d e a f g h i j l)
 (
  k2 b c d a f g h i j l)
def Z22{ρ:Type}(N:Nat)(f:LI)(a b h c d:Int)(e:LI)(i j l m:Int)(kn:LI->I6 (LI->I4 (Option ρ))):Option ρ :=
 cond (lk N (z0l.P (c,(d,e)) b a)) (
  kn f a b h (z0l.g (c,(d,e)) b a) c d e i j l m) none
def Z24{ρ:Type}(N:Nat)(f:LI)(a h b i c d:Int)(e:LI)(j l m o:Int)(kn:LI->I7 (LI->I4 (Option ρ))):Option ρ :=
 cond (lk N (z0l.P (c,(d,e)) a b)) (
  kn f a h b i (z0l.g (c,(d,e)) a b) c d e j l m o) none
def Z27{ρ:Type}(N:Nat)(d:LI)(a b c e f g h:Int)(i:LI)(j l m o:Int)(kn:LI->I5 (Bool->I2 (LI->I4 (Option ρ)))):Option ρ :=
 cond (lk N (decide (b=a)))
 (
  kn d a b c e f true g h i j l m o)
 (
  kn d a b c e f (lk N (decide (c=a))) g h i j l m o)
def Z28{ρ:Type}(N:Nat)(f:LI)(h a b o p:Int)(q:Bool)(c d:Int)(e:LI)(i j l m:Int)(kn:LI->I5 (LI->I4 (Option ρ))):Option ρ :=
 cond (q)
 (
  cond (lk N (z0l.P (c,(d,e)) a b)) (
   cond (lk N (inB (w64 ((w64 (a*c))+b)) f.length)) (
    kn (f.set (w64 ((w64 (a*c))+b)).toNat (w64 (0-(z0l.g (c,(d,e)) a b)))) h a b c d e i j l m) none) none)
 (
  cond (lk N (decide (0<o)))
  (
   cond (lk N (decide (0<p)))
   (
    cond (lk N (z0l.P (c,(d,e)) a b)) (
     cond (lk N (inB (w64 ((w64 (a*c))+b)) f.length)) (
      kn (f.set (w64 ((w64 (a*c))+b)).toNat (w64 ((z0l.g (c,(d,e)) a b)+(w64 (o*p))))) h a b c d e i j l m) none) none)
   (
    cond (lk N (decide (o<0)))
    (
     cond (lk N (decide (p<0)))
     (
      cond (lk N (z0l.P (c,(d,e)) a b)) (
       cond (lk N (inB (w64 ((w64 (a*c))+b)) f.length)) (
        kn (f.set (w64 ((w64 (a*c))+b)).toNat (w64 ((z0l.g (c,(d,e)) a b)-(w64 (o*p))))) h a b c d e i j l m) none) none)
     (
      kn f h a b c d e i j l m))
    (
     kn f h a b c d e i j l m)))
  (
   cond (lk N (decide (o<0)))
   (
    cond (lk N (decide (p<0)))
    (
     cond (lk N (z0l.P (c,(d,e)) a b)) (
      cond (lk N (inB (w64 ((w64 (a*c))+b)) f.length)) (
       kn (f.set (w64 ((w64 (a*c))+b)).toNat (w64 ((z0l.g (c,(d,e)) a b)-(w64 (o*p))))) h a b c d e i j l m) none) none)
    (
     kn f h a b c d e i j l m))
   (
    kn f h a b c d e i j l m)))
def Z26 N a b c d e f g h i j l m o kn:=(Z27 N a b c d e f g h i j l m o (λa b c d e f p g h i j l m o=>Z28 N a b c d e f p g h i j l m o kn):Option ρ)
def Z25 N a b c d e f g h i j l m o kn:=(Z26 N a b c d e f g h i j l m o kn:Option ρ)
def Z23 N a b c d e f g h i j l m kn:=(Z24 N a b c d e f g h i j l m (λa b c d e o f g h i j l m=>Z25 N a b c d e o f g h i j l m kn):Option ρ)
def Z21 N a b c d e f g h i j l kn:=(Z22 N a b c d e f g h i j l (λa b c d m e f g h i j l=>Z23 N a b c d m e f g h i j l kn):Option ρ)
def Z20 N a b c d e f g h i j l kn:=(Z21 N a b c d e f g h i j l kn:Option ρ)
def Z29{ρ:Type}(N:Nat)(a:LI)(b c d e f:Int)(g:LI)(h i j l:Int)(kn:LI->I5 (LI->I4 (Option ρ))):Option ρ :=
 kn a b c (w64 (d+1)) e f g h i j l
def Z19 N a b c d e f g h i j l kn:=(Z20 N a b c d e f g h i j l (λa b c d e f g h i j l=>Z29 N a b c d e f g h i j l kn):Option ρ)
def Z17 N a b c d e f g h i j l kn k2:=(Z18 N a b c d e f g h i j l (λa b c d e f g h i j l=>Z19 N a b c d e f g h i j l kn) k2:Option ρ)
def Z16L{ρ:Type}(N:Nat)(k2:LI->I4 (LI->I4 (Option ρ))):Nat->LI->Int->Int->Int->Int->Int->LI->Int->Int->Int->Int->Option ρ
 | 0,_,_,_,_,_,_,_,_,_,_,_=>none
 | M+1,a,b,c,d,e,f,g,h,i,j,l=>Z17 N a b c d e f g h i j l (λa b c d e f g h i j l=>Z16L N k2 M a b c d e f g h i j l) k2
def Z16 N a b c d e f g h i j l k2:=(Z16L N k2 N a b c d e f g h i j l:Option ρ)
def Z15 N a b c d e f g h i j l kn:=(Z16 N a b c d e f g h i j l kn:Option ρ)
def Z13 N a b c d e f g h i j kn:=(Z14 N a b c d e f g h i j (λa b c l d e f g h i j=>Z15 N a b c l d e f g h i j kn):Option ρ)
def Z12 N a b c d e f g h i j kn:=(Z13 N a b c d e f g h i j kn:Option ρ)
def Z30{ρ:Type}(N:Nat)(a:LI)(b c d e:Int)(f:LI)(g h i j:Int)(kn:LI->I4 (LI->I4 (Option ρ))):Option ρ :=
 kn a b (w64 (c+1)) d e f g h i j
def Z11 N a b c d e f g h i j kn:=(Z12 N a b c d e f g h i j (λa b c d e f g h i j=>Z30 N a b c d e f g h i j kn):Option ρ)
def Z9 N a b c d e f g h i j kn k0:=(Z10 N a b c d e f g h i j (λa b c d e f g h i j=>Z11 N a b c d e f g h i j kn) k0:Option ρ)
def Z8L{ρ:Type}(N:Nat)(k0:LI->I4 (Option ρ)):Nat->LI->Int->Int->Int->Int->LI->Int->Int->Int->Int->Option ρ
 | 0,_,_,_,_,_,_,_,_,_,_=>none
 | M+1,a,b,c,d,e,f,g,h,i,j=>Z9 N a b c d e f g h i j (λa b c d e f g h i j=>Z8L N k0 M a b c d e f g h i j) k0
def Z8 N a b c d e f g h i j k0:=(Z8L N k0 N a b c d e f g h i j:Option ρ)
def Z7 N a b c d e f g h i j kn:=(Z8 N a b c d e f g h i j kn:Option ρ)
def Z5 N a b c d e f g h i kn:=(Z6 N a b c d e f g h i (λa b j c d e f g h i=>Z7 N a b j c d e f g h i kn):Option ρ)
def Z31{ρ:Type}(N:Nat)(a:LI)(d e b c:Int)(kr:LI->I2 (Option ρ)):Option ρ :=
 kr a b c
def Z4 N a f g h i b c d e kr:=(Z5 N a f g h i b c d e (λa b c d e=>Z31 N a b c d e kr):Option ρ)
def Z2 N a b c d e f kr:=(Z3 N a b c d e f (λg a b c d e f h i=>Z4 N g a b c d e f h i kr):Option ρ)
def Z0 N b a kr:=(Z1 N b a (λa c d e f g=>Z2 N a c d e f g kr):Option ρ)
def Spec:Prop:=∀ (v0:MT) (v1:Int),Ty.bd (.pair (.int .i64) (.pair (.int .i64) (.sl 0 (.int .i64)))) v0->P v0 v1=true->∃N0,∀N,N0<=N->Z0 N v0 v1 (λv4_2 v4_0 v4_1=>some ((),((v4_0,(v4_1,v4_2)),())))=some ((),((g v0 v1),()))
section
variable {ρ : Type} {N : Nat} {m : Int × Int × List Int} {k : Nat}
def at_g(hd:0<=m.1)(a b:Nat):z0l.g (m.1,(m.2.1,m.2.2)) (a:Int) (b:Int)=ent m a b:=z5t hd a b
def at_p(hd:z4q m=true){a b:Nat}(ha:a<m.2.1.toNat)(hb:b<m.1.toNat):z0l.P (m.1,(m.2.1,m.2.2)) (a:Int) (b:Int)=true:=zd9 hd ha hb
def cur(m:Int×Int×List Int)(k p:Nat):List Int:=zl6 m.2.2.length p (mutF m k) (λp=>m.2.2.getD p 0)
def inner(hs:z12 m=true)(hk:k<m.1.toNat)(k2:List Int->Int->Int->Int->Int->List Int->Int->Int->Int->Int->Option ρ)(t0 t1 o0 o1:Int){i:Nat}(hi:i<m.2.1.toNat):∀(M j:Nat),j<=m.1.toNat->m.1.toNat-j<M ->
  Z16L N k2 M (cur m k (i*m.1.toNat+j)) (k:Int) (i:Int) (j:Int) m.1 m.2.1 m.2.2 t0 t1 o0 o1=k2 (cur m k (i*m.1.toNat+m.1.toNat)) (k:Int) (i:Int) m.1 m.2.1 m.2.2 t0 t1 o0 o1:=by
 have hd:=z1j hs
 obtain⟨n,r,hn,hr,hn1,hn5,hnr,hr8,hl⟩:=z13 hd
 intro M
 induction M with
 | zero=>intro j _ h;omega
 | succ M ih =>
  intro j hj hM
  simp only[Z16L,Z17,Z18]
  by_cases h:j<m.1.toNat
  ·have hlt:i*m.1.toNat+j<m.2.2.length:=by
    have:=z9n (n:=n) (r:=r) (i:=i) (j:=j) (by omega) (by omega)
    rw[hl,hn];exact this
   have hidx:w64 (w64 ((i:Int)*m.1)+(j:Int))=((i*m.1.toNat+j:Nat):Int):=by
    have e:(i:Int)*m.1=((i*m.1.toNat:Nat):Int):=by rw[hn,Int.natCast_mul];simp
    have hb:i*m.1.toNat<=8*5:=Nat.mul_le_mul (by omega) (by omega)
    have e2:w64 (((i*m.1.toNat:Nat):Int))=((i*m.1.toNat:Nat):Int):=z1r (by omega) (by omega)
    rw[e,e2,z1r (by omega) (by omega)]
    omega
   have b1:=z3j hs i j
   have b2:=z3j hs i k
   have b3:=z3j hs k j
   have hbc:=zfy (f:=false) b1 b2 b3
   have hF:=zlt (m:=m) (k:=k) (i:=i) h
   have hcl:(cur m k (i*m.1.toNat+j)).length=m.2.2.length:=zak
   have hset:∀v,v=mutF m k (i*m.1.toNat+j)->(cur m k (i*m.1.toNat+j)).set (i*m.1.toNat+j) v=cur m k (i*m.1.toNat+(j+1)):=λv hv=>by
    subst hv
    exact zmz hlt
   have hsame:mutF m k (i*m.1.toNat+j)=ent m i j->cur m k (i*m.1.toNat+j)=cur m k (i*m.1.toNat+(j+1)):=λhv=>(zih hv).symm
   have iB:inB (((i*m.1.toNat+j:Nat):Int)) (cur m k (i*m.1.toNat+j)).length=true:=z0u (by rw[hcl];exact hlt)
   have pij:=at_p hd hi h
   rw[ct (dt (by omega))]
   simp only[Z19,Z20,Z21,Z22,Z23,Z24,Z25]
   rw[ct (at_p hd hi hk),ct (at_p hd (show k<m.2.1.toNat by omega) h),at_g (by omega),at_g (by omega)]
   have fin:∀c,c=cur m k (i*m.1.toNat+(j+1))->Z29 N c (k:Int) (i:Int) (j:Int) m.1 m.2.1 m.2.2 t0 t1 o0 o1 (λout5_2 k1 i6 j7 m2_0 m2_1 m2_2 t4_0 t4_1 out5_0 out5_1=>Z16L N k2 M out5_2 k1 i6 j7 m2_0 m2_1 m2_2 t4_0 t4_1 out5_0 out5_1)=k2 (cur m k (i*m.1.toNat+m.1.toNat)) (k:Int) (i:Int) m.1 m.2.1 m.2.2 t0 t1 o0 o1:=by
    intro c hc
    subst hc
    simp only[Z29]
    rw[z0w (by rw[z0k];omega)]
    exact ih (j+1) h (by omega)
   simp only[Z26,Z27,Z28,hidx,Int.toNat_natCast,at_g (show 0<=m.1 by omega)]
   by_cases hik:i=k
   ·rw[ct (dt (by omega)),ct' rfl,ct pij,ct iB,z1r (by omega) (by omega)]
    refine fin _ (hset _ ?_)
    rw[hF,dt hik,Int.zero_sub];rfl
   ·rw[cf (df (by omega))]
    by_cases hjk:j=k
    ·rw[ct' (by rw[z2c];exact dt (by omega)),ct pij,ct iB,z1r (by omega) (by omega)]
     refine fin _ (hset _ ?_)
     rw[hF,df hik,dt hjk,Int.zero_sub];rfl
    ·rw[cf' (by rw[z2c];exact df (by omega))]
     rw[df hik,df hjk]at hF
     simp only[mutE,Bool.or_self,Bool.false_eq_true,if_false]at hF
     have wbc:w64 (ent m i k*ent m k j)=ent m i k*ent m k j:=z1r (by omega) (by omega)
     rw[wbc]
     by_cases a1:0<ent m i k
     ·rw[ct (dt a1)]
      by_cases a2:0<ent m k j
      ·rw[ct (dt a2),ct pij,ct iB,z1r (by omega) (by omega)]
       refine fin _ (hset _ ?_)
       rw[hF,if_pos ⟨a1,a2⟩]
      ·rw[cf (df a2),cf (df (by omega))]
       refine fin _ (hsame ?_)
       rw[hF,if_neg (by omega),if_neg (by omega)]
     ·rw[cf (df a1)]
      by_cases a2:ent m i k<0
      ·rw[ct (dt a2)]
       by_cases a3:ent m k j<0
       ·rw[ct (dt a3),ct pij,ct iB,z1r (by omega) (by omega)]
        refine fin _ (hset _ ?_)
        rw[hF,if_neg (by omega),if_pos ⟨a2,a3⟩]
       ·rw[cf (df a3)]
        refine fin _ (hsame ?_)
        rw[hF,if_neg (by omega),if_neg (by omega)]
      ·rw[cf (df a2)]
       refine fin _ (hsame ?_)
       rw[hF,if_neg (by omega),if_neg (by omega)]
  ·rw[cf (df (by omega)),show j=m.1.toNat by omega]
def outer(hN:10<=N)(hs:z12 m=true)(hk:k<m.1.toNat)(k0:List Int->Int->Int->Int->Int->Option ρ)(t0 t1 o0 o1:Int):∀(M i:Nat),i<=m.2.1.toNat->m.2.1.toNat-i<M ->
  Z8L N k0 M (cur m k (i*m.1.toNat)) (k:Int) (i:Int) m.1 m.2.1 m.2.2 t0 t1 o0 o1=k0 (cur m k (m.2.1.toNat*m.1.toNat)) t0 t1 o0 o1:=by
 have hd:=z1j hs
 obtain⟨n,r,hn,hr,hn1,hn5,hnr,hr8,hl⟩:=z13 hd
 intro M
 induction M with
 | zero=>intro i _ h;omega
 | succ M ih =>
  intro i hi hM
  simp only[Z8L,Z9,Z10]
  by_cases h:i<m.2.1.toNat
  ·rw[ct (dt (by omega))]
   simp only[Z11,Z12,Z13,Z14,Z15,Z16]
   have hin:=inner (ρ:=ρ) (N:=N) hs hk (λout5_2 k1 i6 m2_0 m2_1 m2_2 t4_0 t4_1 out5_0 out5_1=>Z30 N out5_2 k1 i6 m2_0 m2_1 m2_2 t4_0 t4_1 out5_0 out5_1 (λout5_2 k1 i6 m2_0 m2_1 m2_2 t4_0 t4_1 out5_0 out5_1=>Z8L N k0 M out5_2 k1 i6 m2_0 m2_1 m2_2 t4_0 t4_1 out5_0 out5_1)) t0 t1 o0 o1 h N 0 (by omega) (by omega)
   rw[show((0:Nat):Int)=0 from rfl,Nat.add_zero]at hin
   rw[hin]
   simp only[Z30]
   rw[z0w (by rw[z0k];omega)]
   have:=ih (i+1) h (by omega)
   rw[Nat.add_mul,Nat.one_mul]at this
   exact this
  ·rw[cf (df (by omega)),show i=m.2.1.toNat by omega]
end
def ok:Spec:=λm k hb hp=>⟨10,λN hN=>by
 simp only[P,Bool.and_eq_true,decide_eq_true_eq]at hp
 obtain⟨hs,h0,h1⟩:=hp
 obtain⟨x,rfl⟩:=Int.eq_ofNat_of_zero_le h0
 have hd:=z1j hs
 obtain⟨n,r,hn,hr,hn1,hn5,hnr,hr8,hl⟩:=z13 hd
 have hlen:m.2.2.length<=8*5:=by rw[hl];exact Nat.mul_le_mul hr8 hn5
 simp only[Z0,Z1,Z2,Z3]
 rw[ct (show z0t.P (m.1,(m.2.1,m.2.2))=true from dt (show m.2.2.length<1099511627776 by omega))]
 simp only[Z4,Z5,Z6,Z7,Z8]
 have hstart:cur m x 0=m.2.2:=by
  unfold cur
  rw[zig]
  exact zaz 0 rfl
 have hend:cur m x (m.2.1.toNat*m.1.toNat)=(z5p m x).2.2:=by
  have e:m.2.1.toNat*m.1.toNat=m.2.2.length:=by rw[hl,hn,hr];simp
  rw[e]
  exact zii
 have:=outer (ρ:=Unit×(Int×Int×List Int)×Unit) hN hs (show x<m.1.toNat by omega) (λout5_2 t4_0 t4_1 out5_0 out5_1=>Z31 N out5_2 t4_0 t4_1 out5_0 out5_1 (λt4_2 t4_0 t4_1=>some ((),((t4_0,(t4_1,t4_2)),())))) 0 0 m.1 m.2.1 N 0 (by omega) (by omega)
 rw[Nat.zero_mul,hstart,hend]at this
 exact this⟩
end z0d
end
end Go.Fw
namespace Go.Fw
section
variable {ρ : Type}
namespace z28
def g(a b:List Int):Bool:=decide (a=b)
end z28
namespace z28
def Z1{ρ:Type}(N:Nat)(a b:LI)(kn:LI->LI->Option ρ):Option ρ :=
 kn a b
def Z3{ρ:Type}(N:Nat)(a b:LI)(kn:LI->LI->Option ρ)(kr:Bool->Option ρ):Option ρ :=
 cond (lk N (!(decide ((a.length:Int)=(b.length:Int)))))
 (
  kr false)
 (
  kn a b)
def Z6{ρ:Type}(N:Nat)(a b:LI)(kn:LI->LI->Int->Option ρ):Option ρ :=
 kn a b 0
def Z9{ρ:Type}(N:Nat)(b c:LI)(a:Int)(kn:LI->LI->Int->Option ρ)(k0:Option ρ)(kr:Bool->Option ρ):Option ρ :=
 cond (lk N (decide (a<(b.length:Int))))
 (
  cond (lk N (inB a b.length)) (
   cond (lk N (inB a c.length)) (
    cond (lk N (!(decide ((b.getD a.toNat 0)=(c.getD a.toNat 0)))))
    (
     kr false)
    (
     kn b c (w64 (a+1)))) none) none)
 (
  k0)
def Z8L{ρ:Type}(N:Nat)(k0:Option ρ)(kr:Bool->Option ρ):Nat->LI->LI->Int->Option ρ
 | 0,_,_,_=>none
 | M+1,a,b,c=>Z9 N a b c (λa b c=>Z8L N k0 kr M a b c) k0 kr
def Z8 N a b c k0 kr:=(Z8L N k0 kr N a b c:Option ρ)
def Z7 N a b c kn kr:=(Z8 N a b c kn kr:Option ρ)
def Z5 N a b kn kr:=(Z6 N a b (λa b c=>Z7 N a b c kn kr):Option ρ)
def Z10{ρ:Type}(N:Nat) (kr:Bool->Option ρ):Option ρ :=
 kr true
def Z4 N a b kr:=(Z5 N a b (Z10 N kr) kr:Option ρ)
def Z2 N a b kr:=(Z3 N a b (λa b=>Z4 N a b kr) kr:Option ρ)
def Z0 N a b kr:=(Z1 N a b (λa b=>Z2 N a b kr):Option ρ)
def Spec:Prop:=∀ (v0 v1:LI),Ty.bd (.sl 0 (.int .i64)) v0->Ty.bd (.sl 0 (.int .i64)) v1->∃N0,∀N,N0<=N->Z0 N v0 v1 (λv4=>some ((),(v4,())))=some ((),((g v0 v1),()))
def loop{ρ:Type}(N:Nat)(k0:Option ρ)(kr:Bool->Option ρ)(a b:List Int)(hl:a.length=b.length)(ha:a.length<=maxLen):∀(M j:Nat),j<=a.length->a.length-j<M ->
  Z8L N k0 kr M a b (j:Int)=if a.drop j=b.drop j then k0 else kr false:=by
 intro M
 induction M with
 | zero=>intro j _ h;omega
 | succ M ih =>
  intro j hj hM
  simp only[Z8L,Z9]
  by_cases h:j<a.length
  ·rw[ct (dt (by omega)),ct (z0u h),ct (z0u (by omega)),Int.toNat_natCast,z0w (by omega),ih (j+1) h (by omega),z2d 0 h,z2d (l:=b) (j:=j) 0 (by omega)]
   by_cases e:a.getD j 0=b.getD j 0
   ·rw[cf (nf e),e]
    simp only[List.cons.injEq,true_and]
   ·rw[ct (nt e),if_neg (by simp only[List.cons.injEq];exact λh=>e h.1)]
  ·rw[cf (df (by omega)),if_pos (by rw[List.drop_of_length_le (by omega),List.drop_of_length_le (by omega)])]
def ok:Spec:=λa b ha hb=>⟨a.length+1,λN hN=>by
 simp only[Z1,Z3,Z6,Z9,Z8,Z7,Z5,Z10,Z4,Z2,Z0]
 by_cases hl:a.length=b.length
 ·rw[cf (nf (by omega))]
  rw[show(0:Int)=((0:Nat):Int)from rfl,loop _ _ _ a b hl ha.1 N 0 (by omega) (by omega)]
  by_cases e:a=b<;>simp[e,g]
 ·rw[ct (nt (by omega))]
  have:a≠b:=λe=>hl (by rw[e])
  simp[g,this]⟩
end z28
end
end Go.Fw
namespace Go.Fw
section
variable {ρ : Type}
namespace z0c
def P(m:Int×Int×List Int):Bool:=(z1y m&&!decide (z4y m=[]))&&decide (m.2.1=m.1)
def g(m:Int×Int×List Int):List (Int×Int×List Int)×Bool:=match zu5 m with
 | some S=>(S,true)
 | none=>([],false)
end z0c
namespace z0c
def Z1{ρ:Type}(N:Nat)(a:MT)(kn:I2 (LI->Option ρ)):Option ρ :=
 kn a.1 a.2.1 a.2.2
def Z3{ρ:Type}(N:Nat)(a b:Int)(c:LI)(kn:LM->I2 (LI->Option ρ)):Option ρ :=
 cond (lk N (z0f.P (a,(b,c)))) (
  kn ([(z0f.g (a,(b,c)))]:List (MT)) a b c) none
def Z6{ρ:Type}(N:Nat)(a:LM)(b c:Int)(d:LI)(kn:LM->I3 (LI->Option ρ)):Option ρ :=
 kn a 0 b c d
def Z10{ρ:Type}(N:Nat)(a:LM)(b c d:Int)(e:LI)(kn:LM->I3 (LI->Option ρ))(k0:LM->Option ρ):Option ρ :=
 cond (lk N (decide (b<(a.length:Int))))
 (
  kn a b c d e)
 (
  k0 a)
def Z14{ρ:Type}(N:Nat)(a:LM)(b c d:Int)(e:LI)(kn:LM->I4 (LI->Option ρ)):Option ρ :=
 kn a b 0 c d e
def Z18{ρ:Type}(N:Nat)(b:LM)(c d a e:Int)(f:LI)(kn:LM->I4 (LI->Option ρ))(k2:LM->I3 (LI->Option ρ)):Option ρ :=
 cond (lk N (decide (d<a)))
 (
  kn b c d a e f)
 (
  k2 b c a e f)
def Z22{ρ:Type}(N:Nat)(a:LM)(b c d e:Int)(f:LI)(kn:LM->LI->I4 (LI->I2 (Option ρ))):Option ρ :=
 cond (lk N (inB b a.length)) (
  cond (lk N (z0d.P (a.getD b.toNat (0,(0,[]))) c)) (
   kn a (z0d.g (a.getD b.toNat (0,(0,[]))) c).2.2 b c d e f (z0d.g (a.getD b.toNat (0,(0,[]))) c).1 (z0d.g (a.getD b.toNat (0,(0,[]))) c).2.1) none) none
def Z24{ρ:Type}(N:Nat)(d:LM)(a:LI)(e f h i:Int)(j:LI)(b c:Int)(kn:LM->LI->I4 (LI->I2 (Option ρ)))(kr:LM->Bool->Option ρ):Option ρ :=
 cond (!(lk N ((z0o.g (b,(c,a))))))
 (
  kr ([]:List (MT)) false)
 (
  kn d a e f h i j b c)
def Z26{ρ:Type}(N:Nat)(d:LM)(a:LI)(e f h i:Int)(j:LI)(b c:Int)(kn:LM->LI->I4 (LI->I2 (Option ρ))):Option ρ :=
 cond (lk N (z0f.P (b,(c,a)))) (
  kn d (z0f.g (b,(c,a))).2.2 e f h i j (z0f.g (b,(c,a))).1 (z0f.g (b,(c,a))).2.1) none
def Z28{ρ:Type}(N:Nat)(a:LM)(b:LI)(c d e f:Int)(g:LI)(h i:Int)(kn:LM->LI->I2 (Bool->I2 (LI->I2 (Option ρ)))):Option ρ :=
 kn a b c d false e f g h i
def Z31{ρ:Type}(N:Nat)(a:LM)(b:LI)(c d:Int)(e:Bool)(f g:Int)(h:LI)(i j:Int)(kn:LM->LI->I2 (Bool->I3 (LI->I2 (Option ρ)))):Option ρ :=
 kn a b c d e 0 f g h i j
def Z34{ρ:Type}(N:Nat)(a:LM)(c:LI)(d e:Int)(m:Bool)(b f h:Int)(i:LI)(j l:Int)(kn:LM->LI->I2 (Bool->I3 (LI->I2 (Option ρ))))(k4:LM->LI->I2 (Bool->I2 (LI->I2 (Option ρ)))):Option ρ :=
 cond (lk N (decide (b<(a.length:Int))))
 (
  cond (m)
  (
   kn a c d e true (w64 (b+1)) f h i j l)
  (
   cond (lk N (inB b a.length)) (
    kn a c d e (lk N ((z28.g (a.getD b.toNat (0,(0,[]))).2.2 c))) (w64 (b+1)) f h i j l) none))
 (
  k4 a c d e m f h i j l)
def Z33L{ρ:Type}(N:Nat)(k4:LM->LI->I2 (Bool->I2 (LI->I2 (Option ρ)))):Nat->LM->LI->Int->Int->Bool->Int->Int->Int->LI->Int->Int->Option ρ
 | 0,_,_,_,_,_,_,_,_,_,_,_=>none
 | M+1,a,b,c,d,e,f,g,h,i,j,l=>Z34 N a b c d e f g h i j l (λa b c d e f g h i j l=>Z33L N k4 M a b c d e f g h i j l) k4
def Z33 N a b c d e f g h i j l k4:=(Z33L N k4 N a b c d e f g h i j l:Option ρ)
def Z32 N a b c d e f g h i j l kn:=(Z33 N a b c d e f g h i j l kn:Option ρ)
def Z30 N a b c d e f g h i j kn:=(Z31 N a b c d e f g h i j (λa b c d e l f g h i j=>Z32 N a b c d e l f g h i j kn):Option ρ)
def Z35{ρ:Type}(N:Nat)(a:LM)(b:LI)(e f:Int)(j:Bool)(g h:Int)(i:LI)(c d:Int)(kn:LM->I4 (LI->Option ρ))(kr:LM->Bool->Option ρ):Option ρ :=
 cond (!(j))
 (
  cond (lk N (Nat.blt (a.length+([(c,(d,b))]:List (MT)).length) 1099511627776)) (
   cond (lk N (decide (100<((a++([(c,(d,b))]:List (MT))).length:Int))))
   (
    kr ([]:List (MT)) false)
   (
    kn (a++([(c,(d,b))]:List (MT))) e f g h i)) none)
 (
  cond (lk N (decide (100<(a.length:Int))))
  (
   kr ([]:List (MT)) false)
  (
   kn a e f g h i))
def Z29 N a b c d e f g h i j kn kr:=(Z30 N a b c d e f g h i j (λa b c d e f g h i j=>Z35 N a b c d e f g h i j kn kr):Option ρ)
def Z27 N a b c d e f g h i kn kr:=(Z28 N a b c d e f g h i (λa b c d j e f g h i=>Z29 N a b c d j e f g h i kn kr):Option ρ)
def Z25 N a b c d e f g h i kn kr:=(Z26 N a b c d e f g h i (λa b c d e f g h i=>Z27 N a b c d e f g h i kn kr):Option ρ)
def Z23 N a b c d e f g h i kn kr:=(Z24 N a b c d e f g h i (λa b c d e f g h i=>Z25 N a b c d e f g h i kn kr) kr:Option ρ)
def Z21 N a b c d e f kn kr:=(Z22 N a b c d e f (λa g b c d e f h i=>Z23 N a g b c d e f h i kn kr):Option ρ)
def Z20 N a b c d e f kn kr:=(Z21 N a b c d e f kn kr:Option ρ)
def Z36{ρ:Type}(N:Nat)(a:LM)(b c d e:Int)(f:LI)(kn:LM->I4 (LI->Option ρ)):Option ρ :=
 kn a b (w64 (c+1)) d e f
def Z19 N a b c d e f kn kr:=(Z20 N a b c d e f (λa b c d e f=>Z36 N a b c d e f kn) kr:Option ρ)
def Z17 N a b c d e f kn k2 kr:=(Z18 N a b c d e f (λa b c d e f=>Z19 N a b c d e f kn kr) k2:Option ρ)
def Z16L{ρ:Type}(N:Nat)(k2:LM->I3 (LI->Option ρ))(kr:LM->Bool->Option ρ):Nat->LM->Int->Int->Int->Int->LI->Option ρ
 | 0,_,_,_,_,_,_=>none
 | M+1,a,b,c,d,e,f=>Z17 N a b c d e f (λa b c d e f=>Z16L N k2 kr M a b c d e f) k2 kr
def Z16 N a b c d e f k2 kr:=(Z16L N k2 kr N a b c d e f:Option ρ)
def Z15 N a b c d e f kn kr:=(Z16 N a b c d e f kn kr:Option ρ)
def Z13 N a b c d e kn kr:=(Z14 N a b c d e (λa b f c d e=>Z15 N a b f c d e kn kr):Option ρ)
def Z12 N a b c d e kn kr:=(Z13 N a b c d e kn kr:Option ρ)
def Z37{ρ:Type}(N:Nat)(a:LM)(b c d:Int)(e:LI)(kn:LM->I3 (LI->Option ρ)):Option ρ :=
 kn a (w64 (b+1)) c d e
def Z11 N a b c d e kn kr:=(Z12 N a b c d e (λa b c d e=>Z37 N a b c d e kn) kr:Option ρ)
def Z9 N a b c d e kn k0 kr:=(Z10 N a b c d e (λa b c d e=>Z11 N a b c d e kn kr) k0:Option ρ)
def Z8L{ρ:Type}(N:Nat)(k0:LM->Option ρ)(kr:LM->Bool->Option ρ):Nat->LM->Int->Int->Int->LI->Option ρ
 | 0,_,_,_,_,_=>none
 | M+1,a,b,c,d,e=>Z9 N a b c d e (λa b c d e=>Z8L N k0 kr M a b c d e) k0 kr
def Z8 N a b c d e k0 kr:=(Z8L N k0 kr N a b c d e:Option ρ)
def Z7 N a b c d e kn kr:=(Z8 N a b c d e kn kr:Option ρ)
def Z5 N a b c d kn kr:=(Z6 N a b c d (λa e b c d=>Z7 N a e b c d kn kr):Option ρ)
def Z38{ρ:Type}(N:Nat)(a:LM)(kr:LM->Bool->Option ρ):Option ρ :=
 kr a true
def Z4 N a b c d kr:=(Z5 N a b c d (λa=>Z38 N a kr) kr:Option ρ)
def Z2 N a b c kr:=(Z3 N a b c (λd a b c=>Z4 N d a b c kr):Option ρ)
def Z0 N a kr:=(Z1 N a (λb c d=>Z2 N b c d kr):Option ρ)
def Spec:Prop:=∀ (v0:MT),Ty.bd (.pair (.int .i64) (.pair (.int .i64) (.sl 0 (.int .i64)))) v0->P v0=true->∃N0,∀N,N0<=N->Z0 N v0 (λv2 v3=>some ((),(v2,(v3,()))))=some ((),((g v0).1,((g v0).2,())))
section
variable {ρ : Type} {N : Nat}
def found(k4:List (Int×Int×List Int)->List Int->Int->Int->Bool->Int->Int->List Int->Int->Int->Option ρ){S:List (Int×Int×List Int)}{d:List Int}{at_ k m0 m1 p0 p1:Int}{m2:List Int}(hS:S.length<=4000) :
  ∀(M i:Nat) (f:Bool),i<=S.length->S.length-i<M->Z33L N k4 M S d at_ k f (i:Int) m0 m1 m2 p0 p1=k4 S d at_ k (f||znr (S.drop i) d) m0 m1 m2 p0 p1:=by
 intro M
 induction M with
 | zero=>intro i f _ h;omega
 | succ M ih =>
  intro i f hi hM
  simp only[Z33L,Z34]
  by_cases h:i<S.length
  ·have e:znr (S.drop i) d=(decide ((S.getD i z3).2.2=d)||znr (S.drop (i+1)) d):=by
    rw[z2d z3 h];rfl
   rw[ct (dt (by omega)),z0w (by rw[z0k];omega),e]
   cases f
   ·rw[cf' rfl,ct (z0u h),Int.toNat_natCast,ih (i+1) _ h (by omega),z2c]
    rfl
   ·rw[ct' rfl,ih (i+1) _ h (by omega)]
    rfl
  ·rw[cf (df (by omega)),List.drop_of_length_le (by omega)]
   simp[znr]
variable {m : Int × Int × List Int} {n : Nat} (hn : m.1 = (n : Int)) (hN : 4000 ≤ N)
include hn hN
theorem row{k2:List (Int×Int×List Int)->Int->Int->Int->List Int->Option ρ}{kr:List (Int×Int×List Int)->Bool->Option ρ}{a:Nat}{x:Int×Int×List Int}(hx:Fit m.1 x) :
  ∀(M r k:Nat) {S:List (Int×Int×List Int)},k+r=n->r<M->zfd m.1 S->S.length<=100->a<S.length->S.getD a z3=x ->
   Z16L N k2 kr M S (a:Int) (k:Int) m.1 m.2.1 m.2.2=match ziz x k r S with
    | some S'=>k2 S' (a:Int) m.1 m.2.1 m.2.2
    | none=>kr [] false:=by
 intro M
 induction M with
 | zero=>intro r k S _ h;omega
 | succ M ih =>
  intro r k S hk hM hS hl ha hxa
  simp only[Z16L,Z17,Z18]
  cases r with
  | zero =>
   rw[cf (df (by omega))]
   rfl
  | succ r =>
   have hs:=hx.shaped
   have h0:=hx.2.1
   have hb5:=hx.bound
   have hP:z0d.P x (k:Int)=true:=by
    simp only[z0d.P,hs,Bool.true_and,Bool.and_eq_true,decide_eq_true_eq]
    omega
   have hg:z0d.g x (k:Int)=z5p x k:=rfl
   rw[ct (dt (by omega))]
   simp only[Z19,Z20,Z21,Z22]
   rw[ct (z0u ha),Int.toNat_natCast,hxa,ct hP,hg]
   simp only[Z23,Z24,z2c,z0o.g]
   rw[show((z5p x k).1,((z5p x k).2.1,(z5p x k).2.2))=z5p x k from rfl]
   have e1:ziz x k (r+1) S=(z8b x k S).bind (ziz x (k+1) r):=rfl
   rw[e1]
   unfold z8b
   cases hz:z1y (z5p x k)
   ·rw[ct' (show(!false)=true from rfl),if_neg (by simp)]
    rfl
   ·have hf:=hx.mut (k:=k) (by omega) hz
    have hcP:z0f.P (z5p x k)=true:=by
     simp only[z0f.P,Bool.and_eq_true,decide_eq_true_eq]
     exact⟨hf.dim,hf.2.2.trans hf.2.1.symm⟩
    have hcg:z0f.g (z5p x k)=zbk x k:=rfl
    rw[cf' (show(!true)=false from rfl),if_pos rfl]
    simp only[Z25,Z26]
    rw[show((z5p x k).1,((z5p x k).2.1,(z5p x k).2.2))=z5p x k from rfl,ct hcP,hcg]
    simp only[Z27,Z28,Z29,Z30,Z31,Z32,Z33]
    refine(found _ (by omega) N 0 false (Nat.zero_le _) (by omega)).trans ?_
    have e2:(zum S (zbk x k))=if znr S (zbk x k).2.2=true then S else S++[zbk x k]:=rfl
    rw[List.drop_zero,Bool.false_or,e2]
    have e3:((zbk x k).1,((zbk x k).2.1,(zbk x k).2.2))=zbk x k:=rfl
    have stp:∀{S':List (Int×Int×List Int)},z8b x k S=some S'->Z36 N S' (a:Int) (k:Int) m.1 m.2.1 m.2.2 (λout at5 kx m0 m1 m2=>Z16L N k2 kr M out at5 kx m0 m1 m2)=match ziz x (k+1) r S' with
      | some S'=>k2 S' (a:Int) m.1 m.2.1 m.2.2
      | none=>kr [] false:=by
     intro S' h
     obtain⟨e,f1,f2,f3⟩:=zdo hS hx (by omega) h
     simp only[Z36]
     rw[z0w (by rw[z0k];omega)]
     exact ih r (k+1) (by omega) (by omega) f1 f3 (by omega) (by rw[e,zet ha,hxa])
    simp only[Z35,e3]
    cases hh:znr S (zbk x k).2.2
    ·have hb:Nat.blt (S.length+([zbk x k]:List (Int×Int×List Int)).length) 1099511627776=true:=Nat.ble_eq_true_of_le (by simp;omega)
     rw[ct' (show(!false)=true from rfl),ct hb]
     simp only[Bool.false_eq_true,if_false]
     by_cases h100:(S++[zbk x k]).length<=100
     ·rw[cf (df (by omega)),if_pos h100]
      refine(stp (S':=S++[zbk x k]) ?_).trans rfl
      unfold z8b
      rw[if_pos hz,e2,hh]
      simp only[Bool.false_eq_true,if_false]
      rw[if_pos h100]
     ·rw[ct (dt (by omega)),if_neg h100]
      rfl
    ·rw[cf' (show(!true)=false from rfl),cf (df (by omega))]
     simp only[if_true]
     rw[if_pos hl]
     refine(stp (S':=S) ?_).trans rfl
     unfold z8b
     rw[if_pos hz,e2,hh]
     simp only[if_true]
     rw[if_pos hl]
theorem run{k0:List (Int×Int×List Int)->Option ρ}{kr:List (Int×Int×List Int)->Bool->Option ρ} :
  ∀(M F a:Nat) {S:List (Int×Int×List Int)},zfd m.1 S->S.length<=100->a<=S.length->101-a<M->101-a<F ->
   Z8L N k0 kr M S (a:Int) m.1 m.2.1 m.2.2=match zn6 n F a S with
    | some S'=>k0 S'
    | none=>kr [] false:=by
 intro M
 induction M with
 | zero=>intro F a S _ _ _ h;omega
 | succ M ih =>
  intro F a S hS hl ha hM hF
  obtain⟨F,rfl⟩:∃F',F=F'+1:=⟨F-1,by omega⟩
  simp only[Z8L,Z9,Z10]
  have e1:zn6 n (F+1) a S=if a<S.length then(ziz (S.getD a z3) 0 n S).bind (zn6 n F (a+1))else some S:=rfl
  rw[e1]
  by_cases h:a<S.length
  ·rw[ct (dt (by omega)),if_pos h]
   simp only[Z11,Z12,Z13,Z14,Z15,Z16]
   have hx:=zb3 hS h
   have hb:=hx.bound
   refine(row hn hN hx N n 0 (by omega) (by omega) hS hl h rfl).trans ?_
   cases hr:ziz (S.getD a z3) 0 n S with
   | none=>rfl
   | some S' =>
    obtain⟨f1,f2,f3,f4⟩:=zdd hx n 0 (by omega) hS hl hr
    simp only[Option.bind_some,Z37]
    rw[z0w (by rw[z0k];omega)]
    exact ih F (a+1) f1 f3 (by omega) (by omega) (by omega)
  ·rw[cf (df (by omega)),if_neg h]
end
def start{m:Int×Int×List Int}(hp:P m=true):Fit m.1 m:=by
 simp only[P,Bool.and_eq_true,decide_eq_true_eq]at hp
 obtain⟨d,hR⟩:=zn8 (m:=m) (by simpa using hp.1)
 exact⟨⟨d,hR⟩,rfl,hp.2⟩
def ok:Spec:=λm hb hp=>⟨4000,λN hN=>by
 have hf:=start hp
 obtain⟨b1,b2,_⟩:=hf.bound
 obtain⟨n,hn⟩:=Int.eq_ofNat_of_zero_le (show 0<=m.1 by omega)
 have hcP:z0f.P m=true:=by
  simp only[z0f.P,Bool.and_eq_true,decide_eq_true_eq]
  exact⟨hf.dim,hf.2.2⟩
 have hcg:z0f.g m=zb9 m:=rfl
 simp only[Z0,Z1,Z2,Z3]
 rw[show(m.1,(m.2.1,m.2.2))=m from rfl,ct hcP,hcg]
 simp only[Z4,Z5,Z6,Z7,Z8]
 refine(run (ρ:=Unit×(List (Int×Int×List Int)×(Bool×Unit))) hn hN N 102 0 (S:=[zb9 m]) (λx hx=>by rw[List.mem_singleton.1 hx];exact hf.can) (by simp) (Nat.zero_le _) (by omega) (by omega)).trans ?_
 have e:zu5 m=zn6 n 102 0 [zb9 m]:=by unfold zu5;rw[show m.1.toNat=n by omega]
 unfold g
 rw[e]
 cases zn6 n 102 0 [zb9 m]<;>rfl⟩
end z0c
end
end Go.Fw
namespace Go.Fw
section
variable {ρ : Type}
namespace z0b
def P(l:List (List Int)):Bool:=decide (l.length<=4000)
def g(l:List (List Int)):List (List Int):=zit l
end z0b
namespace z0b
def Z1{ρ:Type}(N:Nat)(a:LL)(kn:LL->Option ρ):Option ρ :=
 kn a
def Z3{ρ:Type}(N:Nat)(a:LL)(kn:LL->Option ρ):Option ρ :=
 cond (lk N (Nat.blt (([]:List (LI)).length+a.length) 1099511627776)) (
  kn (([]:List (LI))++a)) none
def Z6{ρ:Type}(N:Nat)(a:LL)(kn:LL->Int->Option ρ):Option ρ :=
 kn a 1
def Z10{ρ:Type}(N:Nat)(a:LL)(b:Int)(kn:LL->Int->Option ρ)(k0:LL->Option ρ):Option ρ :=
 cond (lk N (decide (b<(a.length:Int))))
 (
  kn a b)
 (
  k0 a)
def Z14{ρ:Type}(N:Nat)(a:LL)(b:Int)(kn:LL->LL->Int->Option ρ):Option ρ :=
 kn a ([]:List (LI)) b
def Z17{ρ:Type}(N:Nat)(a b:LL)(c:Int)(kn:LL->LL->I2 (Option ρ)):Option ρ :=
 kn a b c 0
def Z21{ρ:Type}(N:Nat)(a b:LL)(c d:Int)(kn:LL->LL->I2 (Option ρ))(k2:LL->Int->Option ρ):Option ρ :=
 cond (lk N (decide (d<(a.length:Int))))
 (
  kn a b c d)
 (
  k2 b c)
def Z25{ρ:Type}(N:Nat)(b c:LL)(d a:Int)(kn:LL->LL->I3 (Option ρ)):Option ρ :=
 kn b c d a a
def Z27{ρ:Type}(N:Nat)(a d:LL)(b c e:Int)(kn:LL->LL->I4 (Option ρ)):Option ρ :=
 kn a d b c e (mn (w64 (c+b)) (a.length:Int))
def Z29{ρ:Type}(N:Nat)(b c:LL)(d e f a:Int)(kn:LL->LL->I5 (Option ρ)):Option ρ :=
 kn b c d e f a a
def Z31{ρ:Type}(N:Nat)(a d:LL)(b c e f g:Int)(kn:LL->LL->I6 (Option ρ)):Option ρ :=
 kn a d b c e f g (mn (w64 (c+(w64 (2*b)))) (a.length:Int))
def Z34{ρ:Type}(N:Nat)(a d:LL)(h i b c e f:Int)(kn:LL->LL->I6 (Option ρ))(k4:LL->LL->I2 (Option ρ)):Option ρ :=
 let x1_:=(
   cond (lk N (inB b a.length)) (
   cond (lk N (Nat.blt (d.length+([(a.getD b.toNat [])]:List (LI)).length) 1099511627776)) (
   kn a (d++([(a.getD b.toNat [])]:List (LI))) h i (w64 (b+1)) c e f) none) none)
 let x2_:=(
   cond (lk N (inB c a.length)) (
   cond (lk N (Nat.blt (d.length+([(a.getD c.toNat [])]:List (LI)).length) 1099511627776)) (
   kn a (d++([(a.getD c.toNat [])]:List (LI))) h i b (w64 (c+1)) e f) none) none)
 let x0_:=(
   cond (lk N (decide (f<=c)))
   x1_
   (
   cond (lk N (decide (b<e)))
   (
   cond (lk N (inB c a.length)) (
   cond (lk N (inB b a.length)) (
   cond (!(lk N ((z1w.g (a.getD c.toNat []) (a.getD b.toNat [])))))
   x1_
   x2_) none) none)
   x2_))
 cond (lk N (decide (b<e)))
 x0_
 (
 cond (lk N (decide (c<f)))
 x0_
 (
 k4 a d h i))
def Z33L{ρ:Type}(N:Nat)(k4:LL->LL->I2 (Option ρ)):Nat->LL->LL->Int->Int->Int->Int->Int->Int->Option ρ
 | 0,_,_,_,_,_,_,_,_=>none
 | M+1,a,b,c,d,e,f,g,h=>Z34 N a b c d e f g h (λa b c d e f g h=>Z33L N k4 M a b c d e f g h) k4
def Z33 N a b c d e f g h k4:=(Z33L N k4 N a b c d e f g h:Option ρ)
def Z32 N a b c d e f g h kn:=(Z33 N a b c d e f g h kn:Option ρ)
def Z30 N a b c d e f g kn:=(Z31 N a b c d e f g (λa b c d e f g h=>Z32 N a b c d e f g h kn):Option ρ)
def Z28 N a b c d e f kn:=(Z29 N a b c d e f (λa b c d e f g=>Z30 N a b c d e f g kn):Option ρ)
def Z26 N a b c d e kn:=(Z27 N a b c d e (λa b c d e f=>Z28 N a b c d e f kn):Option ρ)
def Z24 N a b c d kn:=(Z25 N a b c d (λa b c d e=>Z26 N a b c d e kn):Option ρ)
def Z23 N a b c d kn:=(Z24 N a b c d kn:Option ρ)
def Z35{ρ:Type}(N:Nat)(b c:LL)(a d:Int)(kn:LL->LL->I2 (Option ρ)):Option ρ :=
 kn b c a (w64 (d+(w64 (2*a))))
def Z22 N a b c d kn:=(Z23 N a b c d (λa b c d=>Z35 N a b c d kn):Option ρ)
def Z20 N a b c d kn k2:=(Z21 N a b c d (λa b c d=>Z22 N a b c d kn) k2:Option ρ)
def Z19L{ρ:Type}(N:Nat)(k2:LL->Int->Option ρ):Nat->LL->LL->Int->Int->Option ρ
 | 0,_,_,_,_=>none
 | M+1,a,b,c,d=>Z20 N a b c d (λa b c d=>Z19L N k2 M a b c d) k2
def Z19 N a b c d k2:=(Z19L N k2 N a b c d:Option ρ)
def Z18 N a b c d kn:=(Z19 N a b c d kn:Option ρ)
def Z16 N a b c kn:=(Z17 N a b c (λa b c d=>Z18 N a b c d kn):Option ρ)
def Z36{ρ:Type}(N:Nat)(a:LL)(b:Int)(kn:LL->Int->Option ρ):Option ρ :=
 kn a b
def Z15 N c a b kn:=(Z16 N c a b (λa b=>Z36 N a b kn):Option ρ)
def Z13 N a b kn:=(Z14 N a b (λa c b=>Z15 N a c b kn):Option ρ)
def Z12 N a b kn:=(Z13 N a b kn:Option ρ)
def Z37{ρ:Type}(N:Nat)(a:LL)(b:Int)(kn:LL->Int->Option ρ):Option ρ :=
 kn a (w64 (b*2))
def Z11 N a b kn:=(Z12 N a b (λa b=>Z37 N a b kn):Option ρ)
def Z9 N a b kn k0:=(Z10 N a b (λa b=>Z11 N a b kn) k0:Option ρ)
def Z8L{ρ:Type}(N:Nat)(k0:LL->Option ρ):Nat->LL->Int->Option ρ
 | 0,_,_=>none
 | M+1,a,b=>Z9 N a b (λa b=>Z8L N k0 M a b) k0
def Z8 N a b k0:=(Z8L N k0 N a b:Option ρ)
def Z7 N a b kn:=(Z8 N a b kn:Option ρ)
def Z5 N a kn:=(Z6 N a (λa b=>Z7 N a b kn):Option ρ)
def Z38{ρ:Type}(N:Nat)(a:LL)(kr:LL->Option ρ):Option ρ :=
 kr a
def Z4 N a kr:=(Z5 N a (λa=>Z38 N a kr):Option ρ)
def Z2 N a kr:=(Z3 N a (λb=>Z4 N b kr):Option ρ)
def Z0 N a kr:=(Z1 N a (λa=>Z2 N a kr):Option ρ)
def Spec:Prop:=∀(v0:LL),Ty.bd (.sl 0 (.sl 0 (.int .i64))) v0->P v0=true->∃N0,∀N,N0<=N->Z0 N v0 (λv2=>some v2)=some (g v0)
section
variable {ρ : Type} {N : Nat}
def part{l:List (List Int)}{i m:Nat}(h:i<m)(hm:m<=l.length):(l.drop i).take (m-i)=l.getD i []::(l.drop (i+1)).take (m-(i+1)):=by
 rw[z2d [] (by omega),show m-i=(m-(i+1))+1 by omega,List.take_succ_cons]
def less_le(a b:List Int):(!(z1w.g a b))=leD b a:=rfl
def inner(k4:List (List Int)->List (List Int)->Int->Int->Option ρ){out:List (List Int)}{size at_:Int}{mid en:Nat}(hm:mid<=out.length)(he:en<=out.length)(hl:out.length<=4000) :
  ∀(M i j:Nat) (next:List (List Int)),i<=mid->j<=en->(mid-i)+(en-j)<M->next.length+(mid-i)+(en-j)<=4000 ->
   Z33L N k4 M out next size at_ (i:Int) (j:Int) (mid:Int) (en:Int)=k4 out (next++((out.drop i).take (mid-i)).merge ((out.drop j).take (en-j)) leD) size at_:=by
 intro M
 induction M with
 | zero=>intro i j next _ _ h;omega
 | succ M ih =>
  intro i j next hi hj hM hn
  simp only[Z33L,Z34]
  have hb:∀x:List Int,(mid-i)+(en-j)≠0->Nat.blt (next.length+([x]:List (List Int)).length) 1099511627776=true:=λx _=>Nat.ble_eq_true_of_le (by simp;omega)
  have wi:i<mid->w64 ((i:Int)+1)=((i+1:Nat):Int):=λh=>z0w (by rw[z0k];omega)
  have wj:j<en->w64 ((j:Int)+1)=((j+1:Nat):Int):=λh=>z0w (by rw[z0k];omega)
  by_cases h1:i<mid
  ·rw[ct (dt (by omega)),part h1 hm]
   have left:∀r,k4 out (next++[out.getD i []]++r) size at_=k4 out (next++(out.getD i []::r)) size at_:=λr=>by rw[List.append_assoc];rfl
   by_cases h2:j<en
   ·rw[cf (df (by omega)),ct (dt (by omega)),ct (z0u (by omega)),ct (z0u (by omega)),Int.toNat_natCast,Int.toNat_natCast,z2c,less_le,part h2 he]
    cases hle:leD (out.getD i []) (out.getD j [])
    ·rw[cf' rfl,ct (z0u (by omega)),ct (hb _ (by omega)),wj h2,ih i (j+1) _ hi (by omega) (by omega) (by simp;omega),part h1 hm]
     simp only[List.cons_merge_cons,hle]
     simp
    ·rw[ct' rfl,ct (z0u (by omega)),ct (hb _ (by omega)),wi h1,ih (i+1) j _ (by omega) hj (by omega) (by simp;omega),part h2 he]
     simp only[List.cons_merge_cons,hle]
     simp
   ·have e:j=en:=by omega
    subst e
    rw[ct (dt (by omega)),ct (z0u (by omega)),Int.toNat_natCast,ct (hb _ (by omega)),wi h1,ih (i+1) j _ (by omega) hj (by omega) (by simp;omega),Nat.sub_self,List.take_zero,List.merge_right,List.merge_right,left]
  ·have e:i=mid:=by omega
   subst e
   rw[cf (df (by omega)),Nat.sub_self,List.take_zero,List.nil_merge]
   by_cases h2:j<en
   ·rw[ct (dt (by omega)),cf (df (by omega)),cf (df (by omega)),ct (z0u (by omega)),Int.toNat_natCast,ct (hb _ (by omega)),wj h2,ih i (j+1) _ (Nat.le_refl _) (by omega) (by omega) (by simp;omega),Nat.sub_self,List.take_zero,List.nil_merge,part h2 he,List.append_assoc]
    rfl
   ·have e:j=en:=by omega
    subst e
    rw[cf (df (by omega)),Nat.sub_self,List.take_zero,List.append_nil]
def pass(k2:List (List Int)->Int->Option ρ)(hN:9000<=N){out:List (List Int)}{s:Nat}(hs:0<s)(hs2:s<=4000)(hl:out.length<=4000) :
  ∀(F M a:Nat) (next:List (List Int)),out.length-a<=F->out.length-a<M->next.length+(out.length-a)<=4000->a<=20000 ->
   Z19L N k2 M out next (s:Int) (a:Int)=k2 (next++zd0 s F (out.drop a)) (s:Int):=by
 intro F
 induction F with
 | zero =>
  intro M a next hF hM hn ha
  obtain⟨M,rfl⟩:∃M',M=M'+1:=⟨M-1,by omega⟩
  simp only[Z19L,Z20,Z21]
  rw[cf (df (by omega)),List.drop_of_length_le (by omega)]
  simp[zd0]
 | succ F ih =>
  intro M a next hF hM hn ha
  obtain⟨M,rfl⟩:∃M',M=M'+1:=⟨M-1,by omega⟩
  simp only[Z19L,Z20,Z21]
  by_cases h:a<out.length
  ·rw[ct (dt (by omega))]
   simp only[Z22,Z23,Z24,Z25,Z26,Z27,Z28,Z29,Z30,Z31,Z32,Z33]
   have w1:w64 ((a:Int)+(s:Int))=((a+s:Nat):Int):=by rw[z1r (by omega) (by omega)];omega
   have w2:w64 (2*(s:Int))=((2*s:Nat):Int):=by rw[z1r (by omega) (by omega)];omega
   have w3:w64 ((a:Int)+((2*s:Nat):Int))=((a+2*s:Nat):Int):=by rw[z1r (by omega) (by omega)];omega
   have m1:mn ((a+s:Nat):Int) (out.length:Int)=((min (a+s) out.length:Nat):Int):=by rw[mn_eq];omega
   have m2:mn ((a+2*s:Nat):Int) (out.length:Int)=((min (a+2*s) out.length:Nat):Int):=by rw[mn_eq];omega
   rw[w1,w2,w3,m1,m2]
   refine(inner _ (Nat.min_le_right _ _) (Nat.min_le_right _ _) hl N a (min (a+s) out.length) next (by omega) (by omega) (by omega) (by omega)).trans ?_
   simp only[Z35,w2,w3]
   have t1:(out.drop a).take (min (a+s) out.length-a)=(out.drop a).take s:=by
    rw[List.take_eq_take_iff];simp;omega
   have t2:(out.drop (min (a+s) out.length)).take (min (a+2*s) out.length-min (a+s) out.length)=((out.drop a).drop s).take s:=by
    rw[List.drop_drop]
    by_cases hq:a+s<=out.length
    ·rw[Nat.min_eq_left hq,List.take_eq_take_iff];simp;omega
    ·rw[List.drop_of_length_le (by omega),List.drop_of_length_le (by omega)];simp
   rw[t1,t2,ih M (a+2*s) _ (by omega) (by omega) (by rw[List.length_append,zji];simp;omega) (by omega)]
   have e:zd0 s (F+1) (out.drop a)=((out.drop a).take s).merge (((out.drop a).drop s).take s) leD++zd0 s F ((out.drop a).drop (2*s)):=by
    show(if out.drop a=[]then[]else _)=_
    rw[if_neg (by intro h0;have:=congrArg List.length h0;simp at this;omega)]
   rw[e,List.append_assoc,show out.drop (a+2*s)=(out.drop a).drop (2*s) by rw[List.drop_drop]]
  ·rw[cf (df (by omega)),List.drop_of_length_le (by omega)]
   simp[zd0]
def rounds(k0:List (List Int)->Option ρ)(hN:9000<=N){l:List (List Int)}(hl:l.length<=4000) :
  ∀(M s:Nat) (out:List (List Int)),0<s->s<=8000->l.length-s<M->out.Perm l->BlkD s out->Z8L N k0 M out (s:Int)=k0 (zit l):=by
 intro M
 induction M with
 | zero=>intro s out _ _ h;omega
 | succ M ih =>
  intro s out hs hs2 hM hp hb
  have hlen:=hp.length_eq
  simp only[Z8L,Z9,Z10]
  by_cases h:s<out.length
  ·rw[ct (dt (by omega))]
   simp only[Z11,Z12,Z13,Z14,Z15,Z16,Z17,Z18,Z19]
   refine(pass _ hN hs (by omega) (by omega) out.length N 0 [] (by omega) (by omega) (by simp;omega) (by omega)).trans ?_
   simp only[Z36,Z37,List.nil_append,List.drop_zero]
   have w:w64 ((s:Int)*2)=((2*s:Nat):Int):=by rw[z1r (by omega) (by omega)];omega
   obtain⟨p1,p2⟩:=ze0 hs out.length out (Nat.le_refl _) hb
   rw[w]
   exact ih (2*s) _ (by omega) (by omega) (by omega) (p1.trans hp) p2
  ·rw[cf (df (by omega)),zn2 hp (blk_all hb (by omega))]
end
def ok:Spec:=λl hb hp=>⟨9000,λN hN=>by
 have hl:l.length<=4000:=by simpa[P]using hp
 simp only[Z0,Z1,Z2,Z3,Z4,Z5,Z6,Z7,Z8]
 have hc:Nat.blt (([]:List (List Int)).length+l.length) 1099511627776=true:=Nat.ble_eq_true_of_le (by simp;omega)
 rw[ct hc,List.nil_append]
 refine(rounds _ hN hl N 1 l (by omega) (by omega) (by omega) (List.Perm.refl _) (blk_one l)).trans ?_
 simp only[Z38,g]⟩
end z0b
end
end Go.Fw
namespace Go.Fw
section
variable {ρ : Type}
namespace z06
def g(m:Int×Int×List Int):List (Int×Int×List Int)×Bool:=mcK m
end z06
namespace z06
def Z1{ρ:Type}(N:Nat)(a:MT)(kn:I2 (LI->Option ρ)):Option ρ :=
 kn a.1 a.2.1 a.2.2
def Z3{ρ:Type}(N:Nat)(a b:Int)(c:LI)(kn:I2 (LI->Option ρ))(kr:LM->Bool->Option ρ):Option ρ :=
 cond (!(lk N ((z2r.g (a,(b,c))))))
 (
  kr ([]:List (MT)) false)
 (
  cond (lk N (!(decide (b=a))))
  (
   kr ([]:List (MT)) false)
  (
   kn a b c))
def Z5{ρ:Type}(N:Nat)(a b:Int)(c:LI)(kn:LM->Bool->I2 (LI->Option ρ)):Option ρ :=
 cond (lk N (z0c.P (a,(b,c)))) (
  kn (z0c.g (a,(b,c))).1 (lk N ((z0c.g (a,(b,c))).2)) a b c) none
def Z7{ρ:Type}(N:Nat)(a:LM)(b:Bool)(c d:Int)(e:LI)(kn:LM->I2 (LI->Option ρ))(kr:LM->Bool->Option ρ):Option ρ :=
 cond (!(b))
 (
  kr ([]:List (MT)) false)
 (
  kn a c d e)
def Z9{ρ:Type}(N:Nat)(a:LM)(b c:Int)(d:LI)(kn:LM->LL->I2 (LI->Option ρ)):Option ρ :=
 kn a ([]:List (LI)) b c d
def Z12{ρ:Type}(N:Nat)(a:LM)(b:LL)(c d:Int)(e:LI)(kn:LM->LL->I3 (LI->Option ρ)):Option ρ :=
 kn a b 0 c d e
def Z15{ρ:Type}(N:Nat)(c:LL)(a:LM)(b d e:Int)(f:LI)(kn:LL->LM->I3 (LI->Option ρ))(k0:LL->I2 (LI->Option ρ)):Option ρ :=
 cond (lk N (decide (b<(a.length:Int))))
 (
  cond (lk N (inB b a.length)) (
   cond (lk N (Nat.blt (c.length+([(a.getD b.toNat (0,(0,[]))).2.2]:List (LI)).length) 1099511627776)) (
    kn (c++([(a.getD b.toNat (0,(0,[]))).2.2]:List (LI))) a (w64 (b+1)) d e f) none) none)
 (
  k0 c d e f)
def Z14L{ρ:Type}(N:Nat)(k0:LL->I2 (LI->Option ρ)):Nat->LL->LM->Int->Int->Int->LI->Option ρ
 | 0,_,_,_,_,_,_=>none
 | M+1,a,b,c,d,e,f=>Z15 N a b c d e f (λa b c d e f=>Z14L N k0 M a b c d e f) k0
def Z14 N a b c d e f k0:=(Z14L N k0 N b a c d e f:Option ρ)
def Z13 N a b c d e f kn:=(Z14 N a b c d e f kn:Option ρ)
def Z11 N a b c d e kn:=(Z12 N a b c d e (λa b f c d e=>Z13 N a b f c d e kn):Option ρ)
def Z17{ρ:Type}(N:Nat)(a:LL)(b c:Int)(d:LI)(kn:LL->I2 (LI->Option ρ)):Option ρ :=
 cond (lk N (z0b.P a)) (
  kn (z0b.g a) b c d) none
def Z19{ρ:Type}(N:Nat)(a:LL)(b c:Int)(d:LI)(kn:LL->LM->I2 (LI->Option ρ)):Option ρ :=
 kn a ([]:List (MT)) b c d
def Z22{ρ:Type}(N:Nat)(a:LL)(b:LM)(c d:Int)(e:LI)(kn:LL->LM->I3 (LI->Option ρ)):Option ρ :=
 kn a b 0 c d e
def Z25{ρ:Type}(N:Nat)(a:LL)(d:LM)(b c e:Int)(f:LI)(kn:LL->LM->I3 (LI->Option ρ))(k2:LM->Option ρ):Option ρ :=
 cond (lk N (decide (b<(a.length:Int))))
 (
  cond (lk N (inB b a.length)) (
   cond (lk N (z19.P (a.getD b.toNat []))) (
    cond (lk N (Nat.blt (d.length+([(c,(c,(z19.g (a.getD b.toNat []))))]:List (MT)).length) 1099511627776)) (
     kn a (d++([(c,(c,(z19.g (a.getD b.toNat []))))]:List (MT))) (w64 (b+1)) c e f) none) none) none)
 (
  k2 d)
def Z24L{ρ:Type}(N:Nat)(k2:LM->Option ρ):Nat->LL->LM->Int->Int->Int->LI->Option ρ
 | 0,_,_,_,_,_,_=>none
 | M+1,a,b,c,d,e,f=>Z25 N a b c d e f (λa b c d e f=>Z24L N k2 M a b c d e f) k2
def Z24 N a b c d e f k2:=(Z24L N k2 N a b c d e f:Option ρ)
def Z23 N a b c d e f kn:=(Z24 N a b c d e f kn:Option ρ)
def Z21 N a b c d e kn:=(Z22 N a b c d e (λa b f c d e=>Z23 N a b f c d e kn):Option ρ)
def Z26{ρ:Type}(N:Nat)(a:LM)(kr:LM->Bool->Option ρ):Option ρ :=
 kr a true
def Z20 N b a c d e kr:=(Z21 N b a c d e (λa=>Z26 N a kr):Option ρ)
def Z18 N a b c d kr:=(Z19 N a b c d (λa e b c d=>Z20 N a e b c d kr):Option ρ)
def Z16 N a b c d kr:=(Z17 N a b c d (λa b c d=>Z18 N a b c d kr):Option ρ)
def Z10 N e a b c d kr:=(Z11 N e a b c d (λa b c d=>Z16 N a b c d kr):Option ρ)
def Z8 N a b c d kr:=(Z9 N a b c d (λa e b c d=>Z10 N a e b c d kr):Option ρ)
def Z6 N a e b c d kr:=(Z7 N a e b c d (λa b c d=>Z8 N a b c d kr) kr:Option ρ)
def Z4 N a b c kr:=(Z5 N a b c (λd e a b c=>Z6 N d e a b c kr):Option ρ)
def Z2 N a b c kr:=(Z3 N a b c (λa b c=>Z4 N a b c kr) kr:Option ρ)
def Z0 N a kr:=(Z1 N a (λb c d=>Z2 N b c d kr):Option ρ)
def Spec:Prop:=∀ (v0:MT),Ty.bd (.pair (.int .i64) (.pair (.int .i64) (.sl 0 (.int .i64)))) v0->∃N0,∀N,N0<=N->Z0 N v0 (λv2 v3=>some ((),(v2,(v3,()))))=some ((),((g v0).1,((g v0).2,())))
section
variable {ρ : Type} {N : Nat}
def one(k0:List (List Int)->Int->Int->List Int->Option ρ){l:List (Int×Int×List Int)}{m0 m1:Int}{m2:List Int}(hl:l.length<=4000) :
  ∀(M i:Nat) (d:List (List Int)),i<=l.length->l.length-i<M->d.length+(l.length-i)<=4000->Z14L N k0 M d l (i:Int) m0 m1 m2=k0 (d++(l.drop i).map (·.2.2)) m0 m1 m2:=by
 intro M
 induction M with
 | zero=>intro i d _ h;omega
 | succ M ih =>
  intro i d hi hM hd
  simp only[Z14L,Z15]
  by_cases h:i<l.length
  ·have hb:∀x:List Int,Nat.blt (d.length+([x]:List (List Int)).length) 1099511627776=true:=λx=>Nat.ble_eq_true_of_le (by simp;omega)
   rw[ct (dt (by omega)),ct (z0u h),ct (hb _),Int.toNat_natCast,z0w (by rw[z0k];omega),ih (i+1) _ h (by omega) (by simp;omega),z2d z3 h,List.map_cons,List.append_assoc]
   rfl
  ·rw[cf (df (by omega)),List.drop_of_length_le (by omega)]
   simp
def two(k2:List (Int×Int×List Int)->Option ρ){d:List (List Int)}{m0 m1:Int}{m2:List Int}(hl:d.length<=4000)(hd:∀x∈d,x.length<=4000) :
  ∀(M i:Nat) (o:List (Int×Int×List Int)),i<=d.length->d.length-i<M->o.length+(d.length-i)<=4000->Z24L N k2 M d o (i:Int) m0 m1 m2=k2 (o++(d.drop i).map λx=>(m0,(m0,x))):=by
 intro M
 induction M with
 | zero=>intro i d _ h;omega
 | succ M ih =>
  intro i o hi hM ho
  simp only[Z24L,Z25]
  by_cases h:i<d.length
  ·have hb:∀x:Int×Int×List Int,Nat.blt (o.length+([x]:List (Int×Int×List Int)).length) 1099511627776=true:=λx=>Nat.ble_eq_true_of_le (by simp;omega)
   have hP:z19.P (d.getD i [])=true:=dt (by have:=hd _ (z18 (l:=d) [] h);omega)
   rw[ct (dt (by omega)),ct (z0u h),Int.toNat_natCast,ct hP,ct (hb _),z0w (by rw[z0k];omega),ih (i+1) _ h (by omega) (by simp;omega),z2d [] h,List.map_cons,List.append_assoc]
   rfl
  ·rw[cf (df (by omega)),List.drop_of_length_le (by omega)]
   simp
end
def ok:Spec:=λm hb=>⟨9000,λN hN=>by
 simp only[Z0,Z1,Z2,Z3,z2c]
 have e0:((m.1,(m.2.1,m.2.2)):Int×Int×List Int)=m:=rfl
 have e1:z2r.g m=(z1y m&&!decide (z4y m=[])):=rfl
 rw[e0,e1]
 unfold g mcK okC3
 cases h1:(z1y m&&!decide (z4y m=[]))
 ·rfl
 by_cases h2:m.2.1=m.1
 ·rw[dt h2]
  simp only[Bool.not_true,cond_false,Bool.and_self,if_true]
  have hp:((z1y m&&!decide (z4y m=[]))&&decide (m.2.1=m.1))=true:=by rw[h1,dt h2];rfl
  have hP:z0c.P m=true:=hp
  have hg:z0c.g m=match zu5 m with
   | some S=>(S,true)
   | none=>([],false):=rfl
  simp only[Z4,Z5,z2c,e0]
  try rw[ct hP]
  try simp only[hP,cond_true]
  rw[hg]
  cases hc:zu5 m with
  | none=>rfl
  | some S =>
   obtain⟨hf,_,hl⟩:=zmf hp hc
   have hx:∀x∈S,x.2.2.length<=25:=λx hx=>(hf x hx).len.2
   simp only[Z6,Z7,Bool.not_true,cond_false,Z8,Z9,Z10,Z11,Z12,Z13,Z14]
   refine(one _ (by omega) N 0 [] (Nat.zero_le _) (by omega) (by simp;omega)).trans ?_
   simp only[List.drop_zero,List.nil_append,Z16,Z17]
   have hSP:z0b.P (S.map (·.2.2))=true:=dt (by simp;omega)
   have hSg:z0b.g (S.map (·.2.2))=zit (S.map (·.2.2)):=rfl
   rw[ct hSP,hSg]
   simp only[Z18,Z19,Z20,Z21,Z22,Z23,Z24]
   have hpm:=z95 (S.map (·.2.2))
   have hlen:(zit (S.map (·.2.2))).length=S.length:=by rw[hpm.length_eq];simp
   refine(two _ (by omega) (λx hx'=>?_) N 0 [] (Nat.zero_le _) (by omega) (by simp;omega)).trans ?_
   ·obtain⟨y,hy,rfl⟩:=List.mem_map.1 (hpm.mem_iff.1 hx')
    have:=hx y hy
    omega
   ·simp only[List.drop_zero,List.nil_append,Z26]
    rfl
 ·rw[df h2]
  rfl⟩
end z06
end
end Go.Fw
namespace Go.Fw
section
variable {ρ : Type}
namespace z0z
def P(m:Int×Int×List Int)(most:Int):Bool:=z12 m&&decide (most=3)
def g(m:Int×Int×List Int)(most:Int):Bool:=ziu m
end z0z
namespace z0z
def Z1{ρ:Type}(N:Nat)(a:MT)(b:Int)(kn:I3 (LI->Option ρ)):Option ρ :=
 kn b a.1 a.2.1 a.2.2
def Z4{ρ:Type}(N:Nat)(a b c:Int)(d:LI)(kn:I4 (LI->Option ρ)):Option ρ :=
 kn a 0 b c d
def Z8{ρ:Type}(N:Nat)(c a b d:Int)(e:LI)(kn:I4 (LI->Option ρ))(k0:Option ρ):Option ρ :=
 cond (lk N (decide (a<b)))
 (
  kn c a b d e)
 (
  k0)
def Z12{ρ:Type}(N:Nat)(a b c d:Int)(e:LI)(kn:I5 (LI->Option ρ)):Option ρ :=
 kn a b 0 c d e
def Z15{ρ:Type}(N:Nat)(f a b c d:Int)(e:LI)(kn:I5 (LI->Option ρ))(k2:I4 (LI->Option ρ))(kr:Bool->Option ρ):Option ρ :=
 cond (lk N (decide (b<a)))
 (
  cond (lk N (z0l.P (c,(d,e)) a b)) (
   cond (lk N (z0l.P (c,(d,e)) b a)) (
    cond (lk N (decide (f<(z2l.g (w64 ((z0l.g (c,(d,e)) a b)*(z0l.g (c,(d,e)) b a)))))))
    (
     kr false)
    (
     kn f a (w64 (b+1)) c d e)) none) none)
 (
  k2 f a c d e)
def Z14L{ρ:Type}(N:Nat)(k2:I4 (LI->Option ρ))(kr:Bool->Option ρ):Nat->Int->Int->Int->Int->Int->LI->Option ρ
 | 0,_,_,_,_,_,_=>none
 | M+1,a,b,c,d,e,f=>Z15 N a b c d e f (λa b c d e f=>Z14L N k2 kr M a b c d e f) k2 kr
def Z14 N a b c d e f k2 kr:=(Z14L N k2 kr N a b c d e f:Option ρ)
def Z13 N a b c d e f kn kr:=(Z14 N a b c d e f kn kr:Option ρ)
def Z11 N a b c d e kn kr:=(Z12 N a b c d e (λa b f c d e=>Z13 N a b f c d e kn kr):Option ρ)
def Z10 N a b c d e kn kr:=(Z11 N a b c d e kn kr:Option ρ)
def Z16{ρ:Type}(N:Nat)(a b c d:Int)(e:LI)(kn:I4 (LI->Option ρ)):Option ρ :=
 kn a (w64 (b+1)) c d e
def Z9 N a b c d e kn kr:=(Z10 N a b c d e (λa b c d e=>Z16 N a b c d e kn) kr:Option ρ)
def Z7 N a b c d e kn k0 kr:=(Z8 N a b c d e (λa b c d e=>Z9 N a b c d e kn kr) k0:Option ρ)
def Z6L{ρ:Type}(N:Nat)(k0:Option ρ)(kr:Bool->Option ρ):Nat->Int->Int->Int->Int->LI->Option ρ
 | 0,_,_,_,_,_=>none
 | M+1,a,b,c,d,e=>Z7 N a b c d e (λa b c d e=>Z6L N k0 kr M a b c d e) k0 kr
def Z6 N a b c d e k0 kr:=(Z6L N k0 kr N a b c d e:Option ρ)
def Z5 N a b c d e kn kr:=(Z6 N a b c d e kn kr:Option ρ)
def Z3 N a b c d kn kr:=(Z4 N a b c d (λa e b c d=>Z5 N a e b c d kn kr):Option ρ)
def Z17{ρ:Type}(N:Nat) (kr:Bool->Option ρ):Option ρ :=
 kr true
def Z2 N a b c d kr:=(Z3 N a b c d (Z17 N kr) kr:Option ρ)
def Z0 N b a kr:=(Z1 N b a (λa c d e=>Z2 N a c d e kr):Option ρ)
def Spec:Prop:=∀ (v0:MT) (v1:Int),Ty.bd (.pair (.int .i64) (.pair (.int .i64) (.sl 0 (.int .i64)))) v0->P v0 v1=true->∃N0,∀N,N0<=N->Z0 N v0 v1 (λv4=>some ((),(v4,())))=some ((),((g v0 v1),()))
section
variable {ρ : Type} {N : Nat} {m : Int × Int × List Int}
def ent_b(hs:z12 m=true)(i j:Nat):-99<=ent m i j/\ent m i j<=99:=by
 unfold ent
 rw[List.getD_eq_getElem?_getD]
 cases hq:m.2.2[i*m.1.toNat+j]? with
 | none=>simp
 | some u=>exact(z5e.1 hs).2 u (List.mem_of_getElem? hq)
def mul_b{a b:Int}(h1:-99<=a/\a<=99)(h2:-99<=b/\b<=99):-9801<=a*b/\a*b<=9801:=by
 have:(a*b).natAbs<=99*99:=by
  rw[Int.natAbs_mul]
  exact Nat.mul_le_mul (by omega) (by omega)
 omega
def abs_eq{n:Int}(h:-9801<=n/\n<=9801):z2l.g n=max n (-n):=by
 show mx n (w64 (0-n))=_
 rw[z1r (by omega) (by omega),mx_eq]
 congr 1
 omega
def inner(hs:z12 m=true){k2:Int->Int->Int->Int->List Int->Option ρ}{kr:Bool->Option ρ}{i:Nat}(hi:i<m.1.toNat) :
  ∀(M r j:Nat),j+r=i->r<M->Z14L N k2 kr M 3 (i:Int) (j:Int) m.1 m.2.1 m.2.2=cond ((List.range' j r).all λj=>!decide (3<max (z3g m i j) (-(z3g m i j)))) (k2 3 (i:Int) m.1 m.2.1 m.2.2) (kr false):=by
 have hd:=z1j hs
 obtain⟨n,rr,hn,hr',hn1,hn5,hnr,hr8,hl⟩:=z13 hd
 intro M
 induction M with
 | zero=>intro r j _ h;omega
 | succ M ih =>
  intro r j hj hM
  simp only[Z14L,Z15]
  cases r with
  | zero=>rw[cf (df (by omega))];rfl
  | succ r =>
   have p1:z0l.P (m.1,(m.2.1,m.2.2)) (i:Int) (j:Int)=true:=zd9 hd (by omega) (by omega)
   have p2:z0l.P (m.1,(m.2.1,m.2.2)) (j:Int) (i:Int)=true:=zd9 hd (by omega) (by omega)
   have g1:z0l.g (m.1,(m.2.1,m.2.2)) (i:Int) (j:Int)=ent m i j:=z5t (by omega) i j
   have g2:z0l.g (m.1,(m.2.1,m.2.2)) (j:Int) (i:Int)=ent m j i:=z5t (by omega) j i
   have hb:=mul_b (ent_b hs i j) (ent_b hs j i)
   have hw:w64 (ent m i j*ent m j i)=z3g m i j:=z1r (by omega) (by omega)
   have ha:z2l.g (z3g m i j)=max (z3g m i j) (-(z3g m i j)):=abs_eq hb
   rw[ct (dt (by omega)),ct p1,ct p2,g1,g2,hw,ha,z0w (by rw[z0k];omega),List.range'_succ,List.all_cons]
   by_cases h:3<max (z3g m i j) (-(z3g m i j))
   ·rw[ct (dt h),dt h];rfl
   ·rw[cf (df h),df h,ih r (j+1) (by omega) (by omega)];rfl
def outer(hs:z12 m=true)(hN:100<=N){k0:Option ρ}{kr:Bool->Option ρ} :
  ∀(M r i:Nat),i+r=m.1.toNat->r<M->Z6L N k0 kr M 3 (i:Int) m.1 m.2.1 m.2.2=cond ((List.range' i r).all λi=>(List.range' 0 i).all λj=>!decide (3<max (z3g m i j) (-(z3g m i j)))) k0 (kr false):=by
 obtain⟨n,rr,hn,hr',hn1,hn5,hnr,hr8,hl⟩:=z13 (z1j hs)
 intro M
 induction M with
 | zero=>intro r i _ h;omega
 | succ M ih =>
  intro r i hi hM
  simp only[Z6L,Z7,Z8]
  cases r with
  | zero=>rw[cf (df (by omega))];rfl
  | succ r =>
   rw[ct (dt (by omega))]
   simp only[Z9,Z10,Z11,Z12,Z13,Z14]
   refine(inner hs (by omega) N i 0 (by omega) (by omega)).trans ?_
   rw[List.range'_succ,List.all_cons]
   cases(List.range' 0 i).all λj=>!decide (3<max (z3g m i j) (-(z3g m i j)))
   ·rfl
   ·simp only[cond_true,Z16,Bool.true_and]
    rw[z0w (by rw[z0k];omega)]
    exact ih r (i+1) (by omega) (by omega)
end
def ok:Spec:=λm most hb hp=>⟨100,λN hN=>by
 simp only[P,Bool.and_eq_true,decide_eq_true_eq]at hp
 obtain⟨hs,rfl⟩:=hp
 obtain⟨n,rr,hn,hr',hn1,hn5,hnr,hr8,hl⟩:=z13 (z1j hs)
 simp only[Z0,Z1,Z2,Z3,Z4,Z5,Z6,Z17]
 refine(outer hs hN N m.1.toNat 0 (by omega) (by omega)).trans ?_
 show cond (ziu m) _ _=_
 unfold g
 cases ziu m<;>rfl⟩
end z0z
end
end Go.Fw
namespace Go.Fw
section
variable {ρ : Type}
namespace z1c
def g(m:Int×Int×List Int):List (Int×Int×List Int)×Bool:=ftK m
end z1c
namespace z1c
def Z1{ρ:Type}(N:Nat)(a:MT)(kn:I2 (LI->Option ρ)):Option ρ :=
 kn a.1 a.2.1 a.2.2
def Z3{ρ:Type}(N:Nat)(a b:Int)(c:LI)(kn:LM->Bool->Option ρ):Option ρ :=
 kn (z06.g (z2y.g (a,(b,c)))).1 (lk N ((z06.g (z2y.g (a,(b,c)))).2))
def Z6{ρ:Type}(N:Nat)(a:LM)(b:Bool)(kn:LM->Bool->Int->Option ρ):Option ρ :=
 kn a b 0
def Z9{ρ:Type}(N:Nat)(a:LM)(c:Bool)(b:Int)(kn:LM->Bool->Int->Option ρ)(k0:LM->Bool->Option ρ):Option ρ :=
 cond (lk N (decide (b<(a.length:Int))))
 (
  cond (c)
  (
   cond (lk N (inB b a.length)) (
    cond (lk N (z0z.P (a.getD b.toNat (0,(0,[]))) 3)) (
     kn a (lk N ((z0z.g (a.getD b.toNat (0,(0,[]))) 3))) (w64 (b+1))) none) none)
  (
   k0 a c))
 (
  k0 a c)
def Z8L{ρ:Type}(N:Nat)(k0:LM->Bool->Option ρ):Nat->LM->Bool->Int->Option ρ
 | 0,_,_,_=>none
 | M+1,a,b,c=>Z9 N a b c (λa b c=>Z8L N k0 M a b c) k0
def Z8 N a b c k0:=(Z8L N k0 N a b c:Option ρ)
def Z7 N a b c kn:=(Z8 N a b c kn:Option ρ)
def Z5 N a b kn:=(Z6 N a b (λa b c=>Z7 N a b c kn):Option ρ)
def Z10{ρ:Type}(N:Nat)(a:LM)(b:Bool)(kr:LM->Bool->Option ρ):Option ρ :=
 cond (!(b))
 (
  kr ([]:List (MT)) false)
 (
  kr a true)
def Z4 N a b kr:=(Z5 N a b (λa b=>Z10 N a b kr):Option ρ)
def Z2 N a b c kr:=(Z3 N a b c (λd e=>Z4 N d e kr):Option ρ)
def Z0 N a kr:=(Z1 N a (λb c d=>Z2 N b c d kr):Option ρ)
def Spec:Prop:=∀ (v0:MT),Ty.bd (.pair (.int .i64) (.pair (.int .i64) (.sl 0 (.int .i64)))) v0->∃N0,∀N,N0<=N->Z0 N v0 (λv2 v3=>some ((),(v2,(v3,()))))=some ((),((g v0).1,((g v0).2,())))
section
variable {ρ : Type} {N : Nat}
def loop{k0:List (Int×Int×List Int)->Bool->Option ρ}{n:Int}{l:List (Int×Int×List Int)}(hl:zfd n l)(hlen:l.length<=100) :
  ∀(M r i:Nat),i+r=l.length->r<M->Z8L N k0 M l true (i:Int)=k0 l ((l.drop i).all z8e):=by
 intro M
 induction M with
 | zero=>intro r i _ h;omega
 | succ M ih =>
  intro r i hi hM
  simp only[Z8L,Z9]
  cases r with
  | zero=>rw[cf (df (by omega)),List.drop_of_length_le (by omega)];rfl
  | succ r =>
   have hf:=zb3 hl (a:=i) (by omega)
   have hP:z0z.P (l.getD i z3) 3=true:=by
    simp only[z0z.P,hf.shaped,Bool.true_and]
    rfl
   have hg:z0z.g (l.getD i z3) 3=z8e (l.getD i z3):=zoy hf
   rw[ct (dt (by omega)),ct' rfl,ct (z0u (by omega)),Int.toNat_natCast,ct hP,z2c,hg,z0w (by rw[z0k];omega),z2d z3 (by omega:i<l.length),List.all_cons]
   cases z8e (l.getD i z3)
   ·obtain⟨M,rfl⟩:∃M',M=M'+1:=⟨M-1,by omega⟩
    simp only[Z8L,Z9,cond_false,Bool.false_and,z2c]
    cases decide (((i+1:Nat):Int)<(l.length:Int))<;>rfl
   ·rw[Bool.true_and]
    exact ih r (i+1) (by omega) (by omega)
end
def ok:Spec:=λm hb=>⟨200,λN hN=>by
 simp only[Z0,Z1,Z2,Z3,z2c]
 have e0:((m.1,(m.2.1,m.2.2)):Int×Int×List Int)=m:=rfl
 have e1:z06.g (z2y.g m)=mcK (sqK m):=rfl
 rw[e0,e1]
 simp only[Z4,Z5,Z6,Z7,Z8,g]
 unfold ftK
 cases h2:(mcK (sqK m)).2
 ·obtain⟨N,rfl⟩:∃N',N=N'+1:=⟨N-1,by omega⟩
  simp only[Z8L,Z9,cond_false,z2c,Z10,Bool.not_false,cond_true,Bool.false_and,Bool.false_eq_true,if_false]
  cases decide ((0:Int)<((mcK (sqK m)).1.length:Int))<;>rfl
 ·obtain⟨_,f1,f2,f3⟩:=zrq h2
  refine(loop f1 f3 N (mcK (sqK m)).1.length 0 (by omega) (by omega)).trans ?_
  simp only[List.drop_zero,Z10,Bool.true_and]
  cases(mcK (sqK m)).1.all z8e<;>rfl⟩
end z1c
end
end Go.Fw
namespace Go.Fw
section
variable {ρ : Type}
namespace z2b
def g(m:Int×Int×List Int):Bool:=(ftK m).2
end z2b
namespace z2b
def Z0{ρ:Type}(N:Nat)(a:MT)(kr:Bool->Option ρ):Option ρ :=
 kr (lk N ((z1c.g a).2))
def Spec:Prop:=∀ (v0:MT),Ty.bd (.pair (.int .i64) (.pair (.int .i64) (.sl 0 (.int .i64)))) v0->∃N0,∀N,N0<=N->Z0 N v0 (λv2=>some ((),(v2,())))=some ((),((g v0),()))
def ok:Spec:=λm hb=>⟨0,λN hN=>by
 simp only[Z0,z2c,g]
 rfl⟩
end z2b
end
end Go.Fw
namespace Go.Fw
section
variable {ρ : Type}
namespace z2i
def g(n low high:Int):Bool:=inK n low high
end z2i
namespace z2i
def Z0{ρ:Type}(N:Nat)(a b c:Int)(kr:Bool->Option ρ):Option ρ :=
 cond (lk N (decide (b<=a)))
 (
  kr (lk N (decide (a<=c))))
 (
  kr false)
def Spec:Prop:=∀ (v0 v1 v2:Int),∃N0,∀N,N0<=N->Z0 N v0 v1 v2 (λv6=>some ((),(v6,())))=some ((),((g v0 v1 v2),()))
def ok:Spec:=λn low high=>⟨0,λN hN=>by
 simp only[Z0,z2c,g,inK]
 cases decide (low<=n)<;>rfl⟩
end z2i
end
end Go.Fw
namespace Go.Fw
section
variable {ρ : Type}
namespace z1t
def g(x:Int):Bool:=!inK x (-99) 99
end z1t
namespace z1t
def Z0{ρ:Type}(N:Nat)(a:Int)(kr:Bool->Option ρ):Option ρ :=
 kr (!(lk N ((z2i.g a (-99) 99))))
def Spec:Prop:=∀ (v0:Int),∃N0,∀N,N0<=N->Z0 N v0 (λv2=>some ((),(v2,())))=some ((),((g v0),()))
def ok:Spec:=λn=>⟨0,λN hN=>by
 simp only[Z0,g,z2c,z2i.g]⟩
end z1t
end
end Go.Fw
namespace Go.Fw
section
variable {ρ : Type}
namespace z09
def go(p:Int->Bool):List Int->Nat->Int
 | [],_=>-1
 | x::xs,j=>if p x=true then(j:Int)else go p xs (j+1)
def g(s:List Int)(_:Unit):Int:=go z1t.g s 0
end z09
namespace z09
def Z1{ρ:Type}(N:Nat)(a:LI)(b:Unit)(kn:LI->Option ρ):Option ρ :=
 kn a
def Z4{ρ:Type}(N:Nat)(a:LI)(kn:LI->I2 (Option ρ)):Option ρ :=
 kn a (a.length:Int) 0
def Z7{ρ:Type}(N:Nat)(b:LI)(c a:Int)(kn:LI->I2 (Option ρ))(k0:Option ρ)(kr:Int->Option ρ):Option ρ :=
 cond (lk N (decide (a<c)))
 (
  cond (lk N (inB a b.length)) (
   cond (lk N ((z1t.g (b.getD a.toNat 0))))
   (
    kr a)
   (
    kn b c (w64 (a+1)))) none)
 (
  k0)
def Z6L{ρ:Type}(N:Nat)(k0:Option ρ)(kr:Int->Option ρ):Nat->LI->Int->Int->Option ρ
 | 0,_,_,_=>none
 | M+1,a,b,c=>Z7 N a b c (λa b c=>Z6L N k0 kr M a b c) k0 kr
def Z6 N a b c k0 kr:=(Z6L N k0 kr N a b c:Option ρ)
def Z5 N a b c kn kr:=(Z6 N a b c kn kr:Option ρ)
def Z3 N a kn kr:=(Z4 N a (λa b c=>Z5 N a b c kn kr):Option ρ)
def Z8{ρ:Type}(N:Nat) (kr:Int->Option ρ):Option ρ :=
 kr (-1)
def Z2 N a kr:=(Z3 N a (Z8 N kr) kr:Option ρ)
def Z0 N a b kr:=(Z1 N a b (λa=>Z2 N a kr):Option ρ)
def Spec:Prop:=∀ (v0:LI) (v1:Unit),Ty.bd (.sl 0 (.int .i64)) v0->∃N0,∀N,N0<=N->Z0 N v0 v1 (λv4=>some ((),(v4,())))=some ((),((g v0 v1),()))
def loop{ρ:Type}(N:Nat)(kr:Int->Option ρ)(a:List Int)(ha:a.length<=maxLen):∀(M j:Nat),j<=a.length->a.length-j<M ->
  Z6L N (kr (-1)) kr M a (a.length:Int) (j:Int)=kr (go z1t.g (a.drop j) j):=by
 intro M
 induction M with
 | zero=>intro j _ h;omega
 | succ M ih =>
  intro j hj hM
  simp only[Z6L,Z7]
  by_cases h:j<a.length
  ·rw[ct (dt (by omega)),ct (z0u h),Int.toNat_natCast,z0w (by omega),ih (j+1) h (by omega),z2d 0 h,go]
   cases e:z1t.g (a.getD j 0)
   ·rw[cf rfl,if_neg (by simp)]
   ·rw[ct rfl,if_pos rfl]
  ·rw[cf (df (by omega)),List.drop_of_length_le (by omega),go]
def ok:Spec:=λa _ ha=>⟨a.length+1,λN hN=>by
 simp only[Z1,Z4,Z7,Z6,Z5,Z3,Z8,Z2,Z0]
 exact(loop N (λt=>some ((),(t,()))) a ha.1 N 0 (by omega) (by omega)).trans rfl⟩
def go_pos(p:Int->Bool):∀(l:List Int) (j:Nat),0<=go p l j↔∃x∈l,p x=true
 | [],j=>by simp[go]
 | x::xs,j=>by
  rw[go]
  by_cases h:p x=true
  ·rw[if_pos h];simp[h]
  ·rw[if_neg h,go_pos p xs];simp[h]
end z09
end
end Go.Fw
namespace Go.Fw
section
variable {ρ : Type}
namespace z0x
def g(s:List Int)(_:Unit):Bool:=s.any z1t.g
end z0x
namespace z0x
def Z0{ρ:Type}(N:Nat)(a:LI)(b:Unit)(kr:Bool->Option ρ):Option ρ :=
 kr (lk N (decide (0<=(z09.g a ()))))
def Spec:Prop:=∀ (v0:LI) (v1:Unit),Ty.bd (.sl 0 (.int .i64)) v0->∃N0,∀N,N0<=N->Z0 N v0 v1 (λv4=>some ((),(v4,())))=some ((),((g v0 v1),()))
def ok:Spec:=λa _ ha=>⟨0,λN hN=>by
 simp only[Z0,z2c,g]
 have:=(show 0<=z09.g a ()↔∃x∈a,z1t.g x=true from z09.go_pos z1t.g a 0)
 cases e:a.any z1t.g
 ·rw[df (λh=>by have:=this.1 h;rw[<-List.any_eq_true,e]at this;cases this)]
 ·rw[dt (this.2 (List.any_eq_true.1 e))]⟩
end z0x
end
end Go.Fw
namespace Go.Fw
section
variable {ρ : Type}
namespace z3v
def g(m:Int×Int×List Int):Bool:=z12 m
end z3v
namespace z3v
def Z0{ρ:Type}(N:Nat)(a:MT)(kr:Bool->Option ρ):Option ρ :=
 cond (lk N ((z2i.g a.1 1 5)))
 (
  cond (lk N ((z2i.g a.2.1 a.1 8)))
  (
   cond (lk N (decide ((a.2.2.length:Int)=(w64 (a.1*a.2.1)))))
   (
    kr (!(lk N ((z0x.g a.2.2 ())))))
   (
    kr false))
  (
   kr false))
 (
  kr false)
def Spec:Prop:=∀ (v0:MT),Ty.bd (.pair (.int .i64) (.pair (.int .i64) (.sl 0 (.int .i64)))) v0->∃N0,∀N,N0<=N->Z0 N v0 (λv2=>some ((),(v2,())))=some ((),((g v0),()))
def ok:Spec:=λm hb=>⟨0,λN hN=>by
 simp only[Z0,g,z2c,z2i.g,z12,z4q,z0x.g,List.not_any_eq_all_not,entK]
 cases h1:inK m.1 1 5
 ·rfl
 cases h2:inK m.2.1 m.1 8
 ·rfl
 have e1:=z3r.1 h1
 have e2:=z3r.1 h2
 have e3:0<=m.1*m.2.1:=Int.mul_nonneg (by omega) (by omega)
 have e4:m.1*m.2.1<=5*8:=Int.mul_le_mul (by omega) (by omega) (by omega) (by omega)
 rw[z1r (by omega) (by omega)]
 cases h3:decide ((m.2.2.length:Int)=m.1*m.2.1)
 ·rfl
 simp[z1t.g]⟩
end z3v
end
end Go.Fw
namespace Go.Fw
section
variable {ρ : Type}
namespace z0m
def P(m:Int×Int×List Int)(i j:Int):Bool:=atP m i j
def g(m:Int×Int×List Int)(i j:Int):Int:=atK m i j
end z0m
namespace z0m
def Z0{ρ:Type}(N:Nat)(a:MT)(b c:Int)(kr:Int->Option ρ):Option ρ :=
 cond (lk N (inB (w64 ((w64 (b*a.1))+c)) a.2.2.length)) (
  kr (a.2.2.getD (w64 ((w64 (b*a.1))+c)).toNat 0)) none
def Spec:Prop:=∀ (v0:MT) (v1 v2:Int),Ty.bd (.pair (.int .i64) (.pair (.int .i64) (.sl 0 (.int .i64)))) v0->P v0 v1 v2=true->∃N0,∀N,N0<=N->Z0 N v0 v1 v2 (λv6=>some ((),(v6,())))=some ((),((g v0 v1 v2),()))
def ok:Spec:=λm i j hb hp=>⟨0,λN hN=>by
 obtain⟨h1,h2,h3⟩:=zog hb.2.2.1 hp
 simp only[Z0,g,atK,h1]
 rw[ct (zs8 h2 h3)]⟩
end z0m
end
end Go.Fw
namespace Go.Fw
section
variable {ρ : Type}
namespace z2a
def P(a b:Int):Bool:=decide (0<=a)&&(decide (a<9223372036854775808)&&(decide (0<=b)&&decide (b<9223372036854775808)))
def g(a b:Int):Int:=(Int.gcd a b:Int)
end z2a
namespace z2a
def Z1{ρ:Type}(N:Nat)(a b:Int)(kn:I2 (Option ρ)):Option ρ :=
 kn a b
def Z5{ρ:Type}(N:Nat)(b a:Int)(kn:I2 (Option ρ))(k0:Int->Option ρ):Option ρ :=
 cond (lk N (!(decide (a=0))))
 (
  cond (lk N (!(decide (a=0)))) (
   kn a (Int.tmod b a)) none)
 (
  k0 b)
def Z4L{ρ:Type}(N:Nat)(k0:Int->Option ρ):Nat->Int->Int->Option ρ
 | 0,_,_=>none
 | M+1,a,b=>Z5 N a b (λa b=>Z4L N k0 M a b) k0
def Z4 N a b k0:=(Z4L N k0 N a b:Option ρ)
def Z3 N a b kn:=(Z4 N a b kn:Option ρ)
def Z6{ρ:Type}(N:Nat)(a:Int)(kr:Int->Option ρ):Option ρ :=
 kr (mx a (w64 (0-a)))
def Z2 N a b kr:=(Z3 N a b (λa=>Z6 N a kr):Option ρ)
def Z0 N a b kr:=(Z1 N a b (λa b=>Z2 N a b kr):Option ρ)
def Spec:Prop:=∀ (v0 v1:Int),P v0 v1=true->∃N0,∀N,N0<=N->Z0 N v0 v1 (λv4=>some ((),(v4,())))=some ((),((g v0 v1),()))
def loop{ρ:Type}(N:Nat)(k0:Int->Option ρ):∀(M:Nat) (a b:Nat),b<M->Z4L N k0 M (a:Int) (b:Int)=k0 (Nat.gcd b a:Nat):=by
 intro M
 induction M with
 | zero=>intro a b h;omega
 | succ M ih =>
  intro a b hM
  simp only[Z4L,Z5]
  by_cases h:b=0
  ·subst h
   rw[cf (by simp),Nat.gcd_zero_left]
  ·rw[ct (nt (by omega)),ct (nt (by omega)),show Int.tmod (a:Int) (b:Int)=((a%b:Nat):Int)from rfl,ih _ _ (by have:=Nat.mod_lt a (Nat.pos_of_ne_zero h);omega),<-Nat.gcd_rec]
def ok:Spec:=λa b hp=>⟨b.toNat+1,λN hN=>by
 simp only[P,Bool.and_eq_true,decide_eq_true_eq]at hp
 obtain⟨h1,h2,h3,h4⟩:=hp
 obtain⟨x,rfl⟩:=Int.eq_ofNat_of_zero_le h1
 obtain⟨y,rfl⟩:=Int.eq_ofNat_of_zero_le h3
 simp only[Z1,Z5,Z4,Z3,Z6,Z2,Z0,g]
 rw[loop N _ N x y (by omega),Nat.gcd_comm]
 have hl:Nat.gcd x y<=max x y:=by
  rcases Nat.eq_zero_or_pos x with h | h
  ·subst h;rw[Nat.gcd_zero_left];omega
  ·have:=Nat.gcd_le_left y h;omega
 show some ((),(mx ((Nat.gcd x y:Nat):Int) (w64 (0-((Nat.gcd x y:Nat):Int))),()))=some ((),(((Nat.gcd x y:Nat):Int),()))
 rw[z1r (by omega) (by omega),mx_eq]
 congr 3
 omega⟩
end z2a
end
end Go.Fw
namespace Go.Fw
section
variable {ρ : Type}
namespace z01
def P(m:Int×Int×List Int):Bool:=z12 m
abbrev g(m:Int×Int×List Int):List Int:=z4y m
end z01
namespace z01
def Z1{ρ:Type}(N:Nat)(a:MT)(kn:I2 (LI->Option ρ)):Option ρ :=
 kn a.1 a.2.1 a.2.2
def Z3{ρ:Type}(N:Nat)(a b:Int)(c:LI)(kn:LI->LI->I2 (LI->Option ρ)):Option ρ :=
 bo (
  cond (lk N (leB 0 a&&decide (a<1099511627776))) (
   cond (lk N (leB 0 a&&decide (a<1099511627776))) (
    kn (List.replicate a.toNat (0:Int)) (List.replicate a.toNat (0:Int)) a b c) none) none)
def Z5{ρ:Type}(N:Nat)(b c:LI)(a d:Int)(e:LI)(kn:LI->LI->LI->I2 (LI->Option ρ)):Option ρ :=
 cond (lk N (leB 0 a&&decide (a<1099511627776))) (
  kn b c (List.replicate a.toNat (0:Int)) a d e) none
def Z8{ρ:Type}(N:Nat)(a b c:LI)(d e:Int)(f:LI)(kn:LI->LI->LI->I4 (LI->Option ρ)):Option ρ :=
 kn a b c (a.length:Int) 0 d e f
def Z12{ρ:Type}(N:Nat)(c d e:LI)(a b f g:Int)(h:LI)(kn:LI->LI->LI->I2 (Bool->I2 (LI->Option ρ))):Option ρ :=
 kn c d e a b (lk N (decide (b<a))) f g h
def Z14{ρ:Type}(N:Nat)(b c a:LI)(d e:Int)(f:Bool)(g h:Int)(i:LI)(kn:LI->LI->LI->I4 (LI->Option ρ))(k0:LI->Option ρ):Option ρ :=
 cond (f)
 (
  kn b c a d e g h i)
 (
  k0 a)
def Z18{ρ:Type}(N:Nat)(b c d:LI)(e a f g:Int)(h:LI)(kn:LI->LI->LI->I5 (LI->Option ρ)):Option ρ :=
 kn b c d a e a f g h
def Z20{ρ:Type}(N:Nat)(a c d:LI)(b e f g h:Int)(i:LI)(kn:LI->LI->LI->I5 (LI->Option ρ))(k1:LI->LI->LI->I4 (LI->Option ρ)):Option ρ :=
 cond (lk N (inB b a.length)) (
  cond (lk N (!(decide ((a.getD b.toNat 0)=0))))
  (
   k1 a c d e f g h i)
  (
   kn a c d b e f g h i)) none
def Z22{ρ:Type}(N:Nat)(b c d:LI)(a e f g h:Int)(i:LI)(kn:LI->LI->LI->I5 (LI->Option ρ)):Option ρ :=
 cond (lk N (inB a b.length)) (
  cond (lk N (inB a c.length)) (
   kn (b.set a.toNat 1) (c.set a.toNat 1) d a e f g h i) none) none
def Z24{ρ:Type}(N:Nat)(a b c:LI)(d e f g h:Int)(i:LI)(kn:LI->LI->LI->LI->I4 (LI->Option ρ)):Option ρ :=
 kn a b c ([d]:List Int) e f g h i
def Z27{ρ:Type}(N:Nat)(a b c d:LI)(e f g h:Int)(i:LI)(kn:LI->LI->LI->LI->I5 (LI->Option ρ)):Option ρ :=
 kn a b c d 0 e f g h i
def Z31{ρ:Type}(N:Nat)(b c d a:LI)(e f g h i:Int)(j:LI)(kn:LI->LI->LI->LI->I5 (LI->Option ρ))(k2:LI->LI->LI->LI->I4 (LI->Option ρ)):Option ρ :=
 cond (lk N (decide (e<(a.length:Int))))
 (
  kn b c d a e f g h i j)
 (
  k2 b c d a f g h i j)
def Z35{ρ:Type}(N:Nat)(c d e a:LI)(b f g h i:Int)(j:LI)(kn:LI->LI->LI->LI->I6 (LI->Option ρ)):Option ρ :=
 cond (lk N (inB b a.length)) (
  kn c d e a b (a.getD b.toNat 0) f g h i j) none
def Z37{ρ:Type}(N:Nat)(a b c d:LI)(e f g h i j:Int)(l:LI)(kn:LI->LI->LI->LI->I8 (LI->Option ρ)):Option ρ :=
 kn a b c d e f g h (a.length:Int) 0 i j l
def Z41{ρ:Type}(N:Nat)(c d e f:LI)(g h i j a b l m:Int)(o:LI)(kn:LI->LI->LI->LI->I6 (Bool->I2 (LI->Option ρ))):Option ρ :=
 kn c d e f g h i j a b (lk N (decide (b<a))) l m o
def Z43{ρ:Type}(N:Nat)(a b c d:LI)(e l f g m o:Int)(p:Bool)(h i:Int)(j:LI)(kn:LI->LI->LI->LI->I8 (LI->Option ρ))(k4:LI->LI->LI->LI->I5 (LI->Option ρ)):Option ρ :=
 cond (p)
 (
  kn a b c d e l f g m o h i j)
 (
  k4 a b c d e f g h i j)
def Z47{ρ:Type}(N:Nat)(b c d e:LI)(f g h i j a l m:Int)(o:LI)(kn:LI->LI->LI->LI->Int->I8 (LI->Option ρ)):Option ρ :=
 kn b c d e f g a h i j a l m o
def Z49{ρ:Type}(N:Nat)(f h i j:LI)(l a b m o p q c d:Int)(e:LI)(kn:LI->LI->LI->LI->I3 (I8 (LI->Option ρ))):Option ρ :=
 cond (lk N (z0m.P (c,(d,e)) a b)) (
  cond (lk N (z0m.P (c,(d,e)) b a)) (
   kn f h i j l a b (z0m.g (c,(d,e)) a b) (w64 (0-(z0m.g (c,(d,e)) b a))) m o p q c d e) none) none
def Z51{ρ:Type}(N:Nat)(a b c d:LI)(e f r g h i j l m o p:Int)(q:LI)(kn:LI->LI->LI->LI->I3 (I8 (LI->Option ρ)))(k5:LI->LI->LI->LI->I8 (LI->Option ρ)):Option ρ :=
 cond (lk N (decide (g=0)))
 (
  cond (lk N (decide (h=0)))
  (
   k5 a b c d e f i j l m o p q)
  (
   kn a b c d e f r g h i j l m o p q))
 (
  kn a b c d e f r g h i j l m o p q)
def Z52{ρ:Type}(N:Nat)(b c i h:LI)(j d a e f l m o p q r:Int)(s:LI)(kn:LI->LI->LI->LI->I8 (LI->Option ρ))(kr:LI->Option ρ):Option ρ :=
 let x1_:=(w64 ((b.getD d.toNat 0)*(mx e (w64 (0-e)))))
 let x2_:=(w64 ((c.getD d.toNat 0)*(mx f (w64 (0-f)))))
 let x0_:=(z2a.g x1_ x2_)
 cond (lk N (decide (e=0)))
 (
 kr ([]:List Int))
 (
 cond (lk N (decide (f=0)))
 (
 kr ([]:List Int))
 (
 cond (lk N (!(((lk N (decide (0<e))) == (lk N (decide (0<f)))))))
 (
 kr ([]:List Int))
 (
 cond (lk N (decide (d=a)))
 (
 kr ([]:List Int))
 (
 cond (lk N (inB d b.length)) (
 cond (lk N (inB d c.length)) (
 cond (lk N (z2a.P x1_ x2_)) (
 cond (lk N (!(decide (x0_=0)))) (
 cond (lk N (!(decide (x0_=0)))) (
 cond (lk N (inB a b.length)) (
 cond (lk N (decide ((b.getD a.toNat 0)=0)))
 (
 cond (lk N (inB a b.length)) (
 cond (lk N (inB a c.length)) (
 cond (lk N (Nat.blt (h.length+([a]:List Int).length) 1099511627776)) (
 kn (b.set a.toNat (w64 (Int.tdiv x1_ x0_))) (c.set a.toNat (w64 (Int.tdiv x2_ x0_))) i (h++([a]:List Int)) j d l m o p q r s) none) none) none)
 (
 cond (lk N (inB a b.length)) (
 cond (lk N (!(decide ((b.getD a.toNat 0)=(w64 (Int.tdiv x1_ x0_))))))
 (
 kr ([]:List Int))
 (
 cond (lk N (inB a c.length)) (
 cond (lk N (!(decide ((c.getD a.toNat 0)=(w64 (Int.tdiv x2_ x0_))))))
 (
 kr ([]:List Int))
 (
 kn b c i h j d l m o p q r s)) none)) none)) none) none) none) none) none) none))))
def Z50 N a b c d e f g h i j l m o p q r kn k5 kr:=(Z51 N a b c d e f g h i j l m o p q r (λa b c d e f g h i j l m o p q r=>Z52 N a b c d e f g h i j l m o p q r kn kr) k5:Option ρ)
def Z48 N a b c d e f g h i j l m o p kn k5 kr:=(Z49 N a b c d e f g h i j l m o p (λa b c d e f g q r h i j l m o p=>Z50 N a b c d e f g q r h i j l m o p kn k5 kr):Option ρ)
def Z46 N a b c d e f g h i j l m o kn k5 kr:=(Z47 N a b c d e f g h i j l m o (λa b c d e f p g h i j l m o=>Z48 N a b c d e f p g h i j l m o kn k5 kr):Option ρ)
def Z45 N a b c d e f g h i j l m o kn kr:=(Z46 N a b c d e f g h i j l m o kn kn kr:Option ρ)
def Z53{ρ:Type}(N:Nat)(a b c d:LI)(e f g h i j l m:Int)(o:LI)(kn:LI->LI->LI->LI->I8 (LI->Option ρ)):Option ρ :=
 kn a b c d e f g h i (w64 (j+1)) l m o
def Z44 N a b c d e f g h i j l m o kn kr:=(Z45 N a b c d e f g h i j l m o (λa b c d e f g h i j l m o=>Z53 N a b c d e f g h i j l m o kn) kr:Option ρ)
def Z42 N a b c d e f g h i j p l m o kn k4 kr:=(Z43 N a b c d e f g h i j p l m o (λa b c d e f g h i j l m o=>Z44 N a b c d e f g h i j l m o kn kr) k4:Option ρ)
def Z40 N a b c d e f g h i j l m o kn k4 kr:=(Z41 N a b c d e f g h i j l m o (λa b c d e f g h i j p l m o=>Z42 N a b c d e f g h i j p l m o kn k4 kr):Option ρ)
def Z39L{ρ:Type}(N:Nat)(k4:LI->LI->LI->LI->I5 (LI->Option ρ))(kr:LI->Option ρ):Nat->LI->LI->LI->LI->Int->Int->Int->Int->Int->Int->Int->Int->LI->Option ρ
 | 0,_,_,_,_,_,_,_,_,_,_,_,_,_=>none
 | M+1,a,b,c,d,e,f,g,h,i,j,l,m,o=>Z40 N a b c d e f g h i j l m o (λa b c d e f g h i j l m o=>Z39L N k4 kr M a b c d e f g h i j l m o) k4 kr
def Z39 N a b c d e f g h i j l m o k4 kr:=(Z39L N k4 kr N a b c d e f g h i j l m o:Option ρ)
def Z38 N a b c d e f g h i j l m o kn kr:=(Z39 N a b c d e f g h i j l m o kn kr:Option ρ)
def Z36 N a b c d e f g h i j l kn kr:=(Z37 N a b c d e f g h i j l (λa b c d e f g h m o i j l=>Z38 N a b c d e f g h m o i j l kn kr):Option ρ)
def Z34 N a b c d e f g h i j kn kr:=(Z35 N a b c d e f g h i j (λa b c d e l f g h i j=>Z36 N a b c d e l f g h i j kn kr):Option ρ)
def Z33 N a b c d e f g h i j kn kr:=(Z34 N a b c d e f g h i j kn kr:Option ρ)
def Z54{ρ:Type}(N:Nat)(a b c d:LI)(e f g h i:Int)(j:LI)(kn:LI->LI->LI->LI->I5 (LI->Option ρ)):Option ρ :=
 kn a b c d (w64 (e+1)) f g h i j
def Z32 N a b c d e f g h i j kn kr:=(Z33 N a b c d e f g h i j (λa b c d e f g h i j=>Z54 N a b c d e f g h i j kn) kr:Option ρ)
def Z30 N a b c d e f g h i j kn k2 kr:=(Z31 N a b c d e f g h i j (λa b c d e f g h i j=>Z32 N a b c d e f g h i j kn kr) k2:Option ρ)
def Z29L{ρ:Type}(N:Nat)(k2:LI->LI->LI->LI->I4 (LI->Option ρ))(kr:LI->Option ρ):Nat->LI->LI->LI->LI->Int->Int->Int->Int->Int->LI->Option ρ
 | 0,_,_,_,_,_,_,_,_,_,_=>none
 | M+1,a,b,c,d,e,f,g,h,i,j=>Z30 N a b c d e f g h i j (λa b c d e f g h i j=>Z29L N k2 kr M a b c d e f g h i j) k2 kr
def Z29 N a b c d e f g h i j k2 kr:=(Z29L N k2 kr N a b c d e f g h i j:Option ρ)
def Z28 N a b c d e f g h i j kn kr:=(Z29 N a b c d e f g h i j kn kr:Option ρ)
def Z26 N a b c d e f g h i kn kr:=(Z27 N a b c d e f g h i (λa b c d j e f g h i=>Z28 N a b c d j e f g h i kn kr):Option ρ)
def Z56{ρ:Type}(N:Nat)(a b c d:LI)(e f g h:Int)(i:LI)(kn:LI->LI->LI->LI->I5 (LI->Option ρ)):Option ρ :=
 kn a b c d 1 e f g h i
def Z59{ρ:Type}(N:Nat)(b c d a:LI)(e f g h i:Int)(j:LI)(kn:LI->LI->LI->LI->I7 (LI->Option ρ)):Option ρ :=
 kn b c d a e f g (a.length:Int) 0 h i j
def Z62{ρ:Type}(N:Nat)(e c f a:LI)(d h i j b l m:Int)(o:LI)(kn:LI->LI->LI->LI->I7 (LI->Option ρ))(k6:LI->LI->LI->LI->I5 (LI->Option ρ)):Option ρ :=
 cond (lk N (decide (b<j)))
 (
  cond (lk N (inB b a.length)) (
   cond (lk N (inB (a.getD b.toNat 0) c.length)) (
    cond (lk N (inB (a.getD b.toNat 0) c.length)) (
     cond (lk N (z2a.P d (c.getD (a.getD b.toNat 0).toNat 0))) (
      cond (lk N (!(decide ((z2a.g d (c.getD (a.getD b.toNat 0).toNat 0))=0)))) (
       kn e c f a (w64 ((w64 (Int.tdiv d (z2a.g d (c.getD (a.getD b.toNat 0).toNat 0))))*(c.getD (a.getD b.toNat 0).toNat 0))) h i j (w64 (b+1)) l m o) none) none) none) none) none)
 (
  k6 e c f a d h i l m o)
def Z61L{ρ:Type}(N:Nat)(k6:LI->LI->LI->LI->I5 (LI->Option ρ)):Nat->LI->LI->LI->LI->Int->Int->Int->Int->Int->Int->Int->LI->Option ρ
 | 0,_,_,_,_,_,_,_,_,_,_,_,_=>none
 | M+1,a,b,c,d,e,f,g,h,i,j,l,m=>Z62 N a b c d e f g h i j l m (λa b c d e f g h i j l m=>Z61L N k6 M a b c d e f g h i j l m) k6
def Z61 N a b c d e f g h i j l m k6:=(Z61L N k6 N a b c d e f g h i j l m:Option ρ)
def Z60 N a b c d e f g h i j l m kn:=(Z61 N a b c d e f g h i j l m kn:Option ρ)
def Z58 N a b c d e f g h i j kn:=(Z59 N a b c d e f g h i j (λa b c d e f g l m h i j=>Z60 N a b c d e f g l m h i j kn):Option ρ)
def Z64{ρ:Type}(N:Nat)(a b c d:LI)(e f g h i:Int)(j:LI)(kn:LI->LI->LI->LI->I6 (LI->Option ρ)):Option ρ :=
 kn a b c d e 0 f g h i j
def Z67{ρ:Type}(N:Nat)(b c d a:LI)(e f g h i j:Int)(l:LI)(kn:LI->LI->LI->LI->I8 (LI->Option ρ)):Option ρ :=
 kn b c d a e f g h (a.length:Int) 0 i j l
def Z70{ρ:Type}(N:Nat)(d c e a:LI)(f h i j l b m o:Int)(p:LI)(kn:LI->LI->LI->LI->I8 (LI->Option ρ))(k8:LI->LI->LI->LI->I5 (LI->Option ρ)):Option ρ :=
 cond (lk N (decide (b<l)))
 (
  cond (lk N (inB b a.length)) (
   cond (lk N (inB (a.getD b.toNat 0) c.length)) (
    cond (lk N (!(decide ((c.getD (a.getD b.toNat 0).toNat 0)=0)))) (
     cond (lk N (inB (a.getD b.toNat 0) d.length)) (
      cond (lk N (inB (a.getD b.toNat 0) e.length)) (
       cond (lk N (inB (a.getD b.toNat 0) (e.set (a.getD b.toNat 0).toNat (w64 ((w64 (Int.tdiv f (c.getD (a.getD b.toNat 0).toNat 0)))*(d.getD (a.getD b.toNat 0).toNat 0)))).length)) (
        cond (lk N (z2a.P h ((e.set (a.getD b.toNat 0).toNat (w64 ((w64 (Int.tdiv f (c.getD (a.getD b.toNat 0).toNat 0)))*(d.getD (a.getD b.toNat 0).toNat 0)))).getD (a.getD b.toNat 0).toNat 0))) (
         kn d c (e.set (a.getD b.toNat 0).toNat (w64 ((w64 (Int.tdiv f (c.getD (a.getD b.toNat 0).toNat 0)))*(d.getD (a.getD b.toNat 0).toNat 0)))) a f (z2a.g h ((e.set (a.getD b.toNat 0).toNat (w64 ((w64 (Int.tdiv f (c.getD (a.getD b.toNat 0).toNat 0)))*(d.getD (a.getD b.toNat 0).toNat 0)))).getD (a.getD b.toNat 0).toNat 0)) i j l (w64 (b+1)) m o p) none) none) none) none) none) none) none)
 (
  k8 d c e a h i j m o p)
def Z69L{ρ:Type}(N:Nat)(k8:LI->LI->LI->LI->I5 (LI->Option ρ)):Nat->LI->LI->LI->LI->Int->Int->Int->Int->Int->Int->Int->Int->LI->Option ρ
 | 0,_,_,_,_,_,_,_,_,_,_,_,_,_=>none
 | M+1,a,b,c,d,e,f,g,h,i,j,l,m,o=>Z70 N a b c d e f g h i j l m o (λa b c d e f g h i j l m o=>Z69L N k8 M a b c d e f g h i j l m o) k8
def Z69 N a b c d e f g h i j l m o k8:=(Z69L N k8 N a b c d e f g h i j l m o:Option ρ)
def Z68 N a b c d e f g h i j l m o kn:=(Z69 N a b c d e f g h i j l m o kn:Option ρ)
def Z66 N a b c d e f g h i j l kn:=(Z67 N a b c d e f g h i j l (λa b c d e f g h m o i j l=>Z68 N a b c d e f g h m o i j l kn):Option ρ)
def Z72{ρ:Type}(N:Nat)(b c d a:LI)(e f g h i:Int)(j:LI)(kn:LI->LI->LI->LI->I7 (LI->Option ρ)):Option ρ :=
 kn b c d a e f g (a.length:Int) 0 h i j
def Z75{ρ:Type}(N:Nat)(e f c b:LI)(d g h i a j l:Int)(m:LI)(kn:LI->LI->LI->LI->I7 (LI->Option ρ))(k10:LI->LI->LI->I4 (LI->Option ρ)):Option ρ :=
 cond (lk N (decide (a<i)))
 (
  cond (lk N (inB a b.length)) (
   cond (lk N (inB (b.getD a.toNat 0) c.length)) (
    cond (lk N (!(decide (d=0)))) (
     cond (lk N (inB (b.getD a.toNat 0) c.length)) (
      kn e f (c.set (b.getD a.toNat 0).toNat (w64 (Int.tdiv (c.getD (b.getD a.toNat 0).toNat 0) d))) b d g h i (w64 (a+1)) j l m) none) none) none) none)
 (
  k10 e f c g h j l m)
def Z74L{ρ:Type}(N:Nat)(k10:LI->LI->LI->I4 (LI->Option ρ)):Nat->LI->LI->LI->LI->Int->Int->Int->Int->Int->Int->Int->LI->Option ρ
 | 0,_,_,_,_,_,_,_,_,_,_,_,_=>none
 | M+1,a,b,c,d,e,f,g,h,i,j,l,m=>Z75 N a b c d e f g h i j l m (λa b c d e f g h i j l m=>Z74L N k10 M a b c d e f g h i j l m) k10
def Z74 N a b c d e f g h i j l m k10:=(Z74L N k10 N a b c d e f g h i j l m:Option ρ)
def Z73 N a b c d e f g h i j l m kn:=(Z74 N a b c d e f g h i j l m kn:Option ρ)
def Z71 N a b c j d e f g h i kn:=(Z72 N a b c j d e f g h i (λa b c l d e f m o g h i=>Z73 N a b c l d e f m o g h i kn):Option ρ)
def Z65 N a b c d l e f g h i j kn:=(Z66 N a b c d l e f g h i j (λa b c d e f g h i j=>Z71 N a b c d e f g h i j kn):Option ρ)
def Z63 N a b c d e f g h i j kn:=(Z64 N a b c d e f g h i j (λa b c d e l f g h i j=>Z65 N a b c d e l f g h i j kn):Option ρ)
def Z57 N a b c d e f g h i j kn:=(Z58 N a b c d e f g h i j (λa b c d e f g h i j=>Z63 N a b c d e f g h i j kn):Option ρ)
def Z55 N a b c d e f g h i kn:=(Z56 N a b c d e f g h i (λa b c d j e f g h i=>Z57 N a b c d j e f g h i kn):Option ρ)
def Z25 N a b c d e f g h i kn kr:=(Z26 N a b c d e f g h i (λa b c d e f g h i=>Z55 N a b c d e f g h i kn) kr:Option ρ)
def Z23 N a b c i d e f g h kn kr:=(Z24 N a b c i d e f g h (λa b c j d e f g h=>Z25 N a b c j d e f g h kn kr):Option ρ)
def Z21 N a b c d e f g h i kn kr:=(Z22 N a b c d e f g h i (λa b c d e f g h i=>Z23 N a b c d e f g h i kn kr):Option ρ)
def Z19 N a b c d e f g h i kn k1 kr:=(Z20 N a b c d e f g h i (λa b c d e f g h i=>Z21 N a b c d e f g h i kn kr) k1:Option ρ)
def Z17 N a b c d e f g h kn k1 kr:=(Z18 N a b c d e f g h (λa b c i d e f g h=>Z19 N a b c i d e f g h kn k1 kr):Option ρ)
def Z16 N a b c d e f g h kn kr:=(Z17 N a b c d e f g h kn kn kr:Option ρ)
def Z76{ρ:Type}(N:Nat)(a b c:LI)(d e f g:Int)(h:LI)(kn:LI->LI->LI->I4 (LI->Option ρ)):Option ρ :=
 kn a b c d (w64 (e+1)) f g h
def Z15 N a b c d e f g h kn kr:=(Z16 N a b c d e f g h (λa b c d e f g h=>Z76 N a b c d e f g h kn) kr:Option ρ)
def Z13 N a b c d e i f g h kn k0 kr:=(Z14 N a b c d e i f g h (λa b c d e f g h=>Z15 N a b c d e f g h kn kr) k0:Option ρ)
def Z11 N a b c d e f g h kn k0 kr:=(Z12 N a b c d e f g h (λa b c d e i f g h=>Z13 N a b c d e i f g h kn k0 kr):Option ρ)
def Z10L{ρ:Type}(N:Nat)(k0 kr:LI->Option ρ):Nat->LI->LI->LI->Int->Int->Int->Int->LI->Option ρ
 | 0,_,_,_,_,_,_,_,_=>none
 | M+1,a,b,c,d,e,f,g,h=>Z11 N a b c d e f g h (λa b c d e f g h=>Z10L N k0 kr M a b c d e f g h) k0 kr
def Z10 N a b c d e f g h k0 kr:=(Z10L N k0 kr N a b c d e f g h:Option ρ)
def Z9 N a b c d e f g h kn kr:=(Z10 N a b c d e f g h kn kr:Option ρ)
def Z7 N a b c d e f kn kr:=(Z8 N a b c d e f (λa b c g h d e f=>Z9 N a b c g h d e f kn kr):Option ρ)
def Z77{ρ:Type}(N:Nat)(a:LI)(kr:LI->Option ρ):Option ρ :=
 cond (Nat.blt 0 a.length) (
  kr a) none
def Z6 N b c a d e f kr:=(Z7 N b c a d e f (λa=>Z77 N a kr) kr:Option ρ)
def Z4 N a b c d e kr:=(Z5 N a b c d e (λa b f c d e=>Z6 N a b f c d e kr):Option ρ)
def Z2 N a b c kr:=(Z3 N a b c (λd e a b c=>Z4 N d e a b c kr):Option ρ)
def Z0 N a kr:=(Z1 N a (λb c d=>Z2 N b c d kr):Option ρ)
def Spec:Prop:=∀ (v0:MT),Ty.bd (.pair (.int .i64) (.pair (.int .i64) (.sl 0 (.int .i64)))) v0->P v0=true->∃N0,∀N,N0<=N->Z0 N v0 (λv2=>some ((),(v2,())))=some ((),((g v0),()))
def mx_abs{a:Int}(h:-99<=a/\a<=99):mx a (w64 (0-a))=z60 a:=by
 rw[z1r (by omega) (by omega),mx_eq]
 unfold z60
 omega
def absK_neg(a:Int):z60 (-a)=z60 a:=by unfold z60;omega
def pow4{k:Nat}(h:k<=4):(99:Int) ^ k<=96059601:=by
 have h1:99 ^ k<=99 ^ 4:=Nat.pow_le_pow_right (by omega) h
 have h2:(99:Int) ^ k=((99 ^ k:Nat):Int):=by rw[Int.natCast_pow];rfl
 rw[h2]
 omega
def zrl{n:Nat}{A:Nat->Nat->Int}{x j:Nat}(hx:x<n)(hj:j<n)(h:¬ (A x j=0/\A j x=0))(h':A x j=0\/A j x=0):¬ ∃e,zah n A e:=by
 rintro ⟨e,he⟩
 rcases h' with z | z
 ·exact h ⟨z,zb2 he hx hj z⟩
 ·exact h ⟨zb2 he hj hx z,z⟩
section
variable {ρ : Type} {N : Nat} {m : Int × Int × List Int} {s p x j : Nat} {num0 num den out : List Int} {L : List Nat}
def core(hm:z12 m=true)(hn:m.1.toNat<=5)(hcl:zor m.1.toNat (ent m) num0)(hf:zid m.1.toNat (ent m) s num0 L num den)(hp:p<L.length)(hx:L.getD p 0=x)(hj:j<m.1.toNat)(h0:¬ (ent m x j=0/\ent m j x=0))
  (kn:List Int->List Int->List Int->List Int->Int->Int->Int->Int->Int->Int->Int->Int->List Int->Option ρ) (kr:List Int->Option ρ) (t34 t35 t62 t63:Int) :
  (Z52 N num den out (z33 L) (p:Int) (x:Int) (j:Int) (ent m x j) (-(ent m j x)) t34 t35 t62 t63 m.1 m.2.1 m.2.2 kn kr=kr []/\¬ ∃e,zah m.1.toNat (ent m) e) \/
  (∃L' num' den',zid m.1.toNat (ent m) s num0 L' num' den'/\(∃u,L'=L++u)/\(∀y∈L,∀k,zlc (ent m) L num den y k->zlc (ent m) L' num' den' y k)/\zlc (ent m) L' num' den' x j /\
   Z52 N num den out (z33 L) (p:Int) (x:Int) (j:Int) (ent m x j) (-(ent m j x)) t34 t35 t62 t63 m.1 m.2.1 m.2.2 kn kr=kn num' den' out (z33 L') (p:Int) (x:Int) t34 t35 t62 t63 m.1 m.2.1 m.2.2):=by
 have hxm:x∈L:=by rw[<-hx];exact z18 0 hp
 have hxn:=hf.lt x hxm
 have hle:=hf.le
 simp only[Z52]
 by_cases z1:ent m x j=0
 ·rw[ct (dt z1)]
  exact Or.inl ⟨rfl,zrl hxn hj h0 (Or.inl z1)⟩
 rw[cf (df z1)]
 by_cases z2:ent m j x=0
 ·rw[ct (dt (by omega))]
  exact Or.inl ⟨rfl,zrl hxn hj h0 (Or.inr z2)⟩
 rw[cf (df (by omega))]
 by_cases sg:(0<ent m x j↔0 < -(ent m j x))
 ·have sgb:(!(((lk N (decide (0<ent m x j))) == (lk N (decide (0 < -(ent m j x)))))))=false:=by
   rw[z2c,z2c]
   by_cases h1:0<ent m x j
   ·rw[dt h1,dt (sg.1 h1)];rfl
   ·rw[df h1,df (λh=>h1 (sg.2 h))];rfl
  rw[cf sgb]
  have hne:¬ ((x:Int)=(j:Int)):=λe=>by
   have e':x=j:=by omega
   subst e'
   omega
  rw[cf (df hne)]
  obtain⟨Q,q1,q2,q3⟩:=hf.frac
  obtain⟨c1,c2,c3,c4,c5⟩:=q3 x hxm
  have st:=stepN (A:=ent m) (num:=num) (den:=den) x j c1 c3 z1 z2
  have sk:=skew_of z1 z2 sg
  have hb:=z3j hm
  have e1:=mx_abs (hb x j)
  have e2:mx (-(ent m j x)) (w64 (0 - -(ent m j x)))=z60 (ent m j x):=by
   rw[mx_abs (by have:=hb j x;omega),absK_neg]
  have pw:=pow4 (k:=L.length-1) (by omega)
  have hdQ:=Int.le_of_dvd q1 c4
  have a1:=zeu (hb x j)
  have a2:=zeu (hb j x)
  have a1':=z9d z1
  have a2':=z9d z2
  have b1:num.getD x 0*z60 (ent m x j)<=96059601*99:=Int.mul_le_mul (by omega) a1 (by omega) (by omega)
  have b2:den.getD x 0*z60 (ent m j x)<=96059601*99:=Int.mul_le_mul (by omega) a2 (by omega) (by omega)
  have hA:=st.a0p
  have hB:=st.b0p
  simp only[e1,e2,Int.toNat_natCast,z1r (show -9223372036854775808<=num.getD x 0*z60 (ent m x j) by omega) (by omega),z1r (show -9223372036854775808<=den.getD x 0*z60 (ent m j x) by omega) (by omega),z2a.g]
  generalize hA0:num.getD x 0*z60 (ent m x j)=A0 at *
  generalize hB0:den.getD x 0*z60 (ent m j x)=B0 at *
  generalize hG:(Int.gcd A0 B0:Int)=G at *
  generalize ha:Int.tdiv A0 G=a at *
  generalize hb':Int.tdiv B0 G=b at *
  have gp:=st.gp
  have ap:=st.ap
  have bp:=st.bp
  have al:a<=A0:=by
   have h1:=Int.mul_le_mul_of_nonneg_left (show(1:Int)<=G by omega) (Int.le_of_lt ap)
   have h2:=st.ea
   omega
  have bl:b<=B0:=by
   have h1:=Int.mul_le_mul_of_nonneg_left (show(1:Int)<=G by omega) (Int.le_of_lt bp)
   have h2:=st.eb
   omega
  have i1:inB (x:Int) num.length=true:=z0u (by rw[hf.nl];exact hxn)
  have i2:inB (x:Int) den.length=true:=z0u (by rw[hf.dl];exact hxn)
  have i3:inB (j:Int) num.length=true:=z0u (by rw[hf.nl];exact hj)
  have i4:inB (j:Int) den.length=true:=z0u (by rw[hf.dl];exact hj)
  have hP:z2a.P A0 B0=true:=by
   simp only[z2a.P,Bool.and_eq_true,decide_eq_true_eq]
   omega
  rw[ct i1,ct i2,ct hP,ct (nt (by omega)),ct (nt (by omega)),ct i3]
  simp only[z1r (show -9223372036854775808<=a by omega) (by omega),z1r (show -9223372036854775808<=b by omega) (by omega)]
  by_cases hz:num.getD j 0=0
  ·obtain⟨hg,hnj⟩:=hf.grow hp hj hz (by rw[hx];exact st) (λy k=>zeu (hb y k))
   have hxj:∀y∈L,j≠y:=λy hy e=>hnj (e▸hy)
   have hnl:j<num.length:=by rw[hf.nl];exact hj
   have hdl:j<den.length:=by rw[hf.dl];exact hj
   rw[ct (dt hz),ct i3,ct i4,ct (show Nat.blt ((z33 L).length+([(j:Int)]).length) 1099511627776=true by simp[z1p,Nat.blt_eq];omega),za5]
   refine Or.inr ⟨L++[j],num.set j a,den.set j b,hg,⟨_,rfl⟩,λy hy k he=>he.grow hxj hnl hdl hy,Or.inr ⟨by simp, ?_⟩,rfl⟩
   have:=zim st sk
   rw[z1v hnl,if_neg (hxj x hxm),z1v hdl,if_pos rfl,z1v hnl,if_pos rfl,z1v hdl,if_neg (hxj x hxm)]
   exact this
  ·have hjm:j∈L:=Classical.byContradiction λhc=>by
    have h1:num0.getD j 0≠0:=by rw[<-hf.out j hj hc];exact hz
    exact hcl j hj h1 x hxn (Or.inr z1) (hf.new x hxm)
   obtain⟨d1,d2,d3,d4,d5⟩:=q3 j hjm
   have hgood:(∃e,zah m.1.toNat (ent m) e)->num.getD j 0=a/\den.getD j 0=b:=by
    rintro ⟨e,he⟩
    have g1:=zil st hxn hj he (hf.good e he x hxm)
    have g2:=hf.good e he j hjm
    have p1:=(he j hj).1
    have p2:0<e s:=(he s (by rw[<-hf.hd];exact hf.lt _ (z18 0 hf.pos))).1
    have g3:(e s*e j)*(num.getD j 0*b)=(e s*e j)*(a*den.getD j 0):=by grind
    have p3:=Int.mul_pos p2 p1
    exact frac_eq d1 d3 ap bp d5 st.co (Int.eq_of_mul_eq_mul_left (by omega) g3)
   rw[cf (df hz),ct i3]
   by_cases ea:num.getD j 0=a
   ·rw[cf (nf ea),ct i4]
    by_cases eb:den.getD j 0=b
    ·rw[cf (nf eb)]
     refine Or.inr ⟨L,num,den,hf,⟨[],by simp⟩,λ_ _ _ h=>h,Or.inr ⟨hjm, ?_⟩,rfl⟩
     rw[ea,eb]
     exact zim st sk
    ·rw[ct (nt eb)]
     exact Or.inl ⟨rfl,λh=>eb (hgood h).2⟩
   ·rw[ct (nt ea)]
    exact Or.inl ⟨rfl,λh=>ea (hgood h).1⟩
 ·have sgb:(!(((lk N (decide (0<ent m x j))) == (lk N (decide (0 < -(ent m j x)))))))=true:=by
   rw[z2c,z2c]
   by_cases h1:0<ent m x j
   ·rw[dt h1,df (λh2=>sg ⟨λ_=>h2,λ_=>h1⟩)];rfl
   ·rw[df h1,dt (Classical.byContradiction λh2=>sg ⟨λh=>absurd h h1,λh=>absurd h h2⟩)];rfl
  rw[ct sgb]
  refine Or.inl ⟨rfl, ?_⟩
  rintro ⟨e,he⟩
  have h1:=z7a he hxn hj
  rw[z9g,Bool.and_eq_true,beq_iff_eq,decide_eq_decide]at h1
  have:=h1.1
  omega
def at_g(hd:0<=m.1)(a b:Nat):z0m.g (m.1,(m.2.1,m.2.2)) (a:Int) (b:Int)=ent m a b:=z5t hd a b
def at_p(hd:z4q m=true){a b:Nat}(ha:a<m.1.toNat)(hb:b<m.1.toNat):z0m.P (m.1,(m.2.1,m.2.2)) (a:Int) (b:Int)=true:=by
 obtain⟨n,r,hn,hr,hn1,hn5,hnr,hr8,hl⟩:=z13 hd
 exact zd9 hd (by omega) hb
def inner(hm:z12 m=true)(hcl:zor m.1.toNat (ent m) num0)(k4:List Int->List Int->List Int->List Int->Int->Int->Int->Int->Int->List Int->Option ρ)(kr:List Int->Option ρ)(t34 t35:Int):∀(M j:Nat) (L:List Nat) (num den:List Int),zid m.1.toNat (ent m) s num0 L num den->p<L.length->L.getD p 0=x->j<=m.1.toNat->m.1.toNat-j<M ->
  (∀k',k'<p->∀k,k<m.1.toNat->zlc (ent m) L num den (L.getD k' 0) k)->(∀k,k<j->zlc (ent m) L num den x k) ->
  (Z39L N k4 kr M num den out (z33 L) (p:Int) (x:Int) t34 t35 (m.1.toNat:Int) (j:Int) m.1 m.2.1 m.2.2=kr []/\¬ ∃e,zah m.1.toNat (ent m) e) \/
  (∃L' num' den',zid m.1.toNat (ent m) s num0 L' num' den'/\p<L'.length/\(∀k',k'<p+1->∀k,k<m.1.toNat->zlc (ent m) L' num' den' (L'.getD k' 0) k) /\
   Z39L N k4 kr M num den out (z33 L) (p:Int) (x:Int) t34 t35 (m.1.toNat:Int) (j:Int) m.1 m.2.1 m.2.2=k4 num' den' out (z33 L') (p:Int) t34 t35 m.1 m.2.1 m.2.2):=by
 have hdim:=z1j hm
 obtain⟨n,r,hn,hr,hn1,hn5,hnr,hr8,hl⟩:=z13 hdim
 intro M
 induction M with
 | zero=>intro j _ _ _ _ _ _ _ h;omega
 | succ M ih =>
  intro j L num den hf hp hx hj hM hE1 hE2
  have hxm:x∈L:=by rw[<-hx];exact z18 0 hp
  have hxn:=hf.lt x hxm
  simp only[Z39L,Z40,Z41,Z42,Z43]
  by_cases hlt:j<m.1.toNat
  ·rw[ct' (by rw[z2c];exact dt (by omega))]
   simp only[Z44,Z45,Z46,Z47,Z48,Z49]
   rw[ct (at_p hdim hxn hlt),ct (at_p hdim hlt hxn),at_g (by omega),at_g (by omega)]
   have hb:=z3j hm j x
   rw[show w64 (0-ent m j x)=-(ent m j x) by rw[z1r (by omega) (by omega)];omega]
   simp only[Z50,Z51]
   have next:∀(L':List Nat) (num' den':List Int),zid m.1.toNat (ent m) s num0 L' num' den'->(∃u,L'=L++u)->(∀y∈L,∀k,zlc (ent m) L num den y k->zlc (ent m) L' num' den' y k)->zlc (ent m) L' num' den' x j ->
     (Z39L N k4 kr M num' den' out (z33 L') (p:Int) (x:Int) t34 t35 (m.1.toNat:Int) ((j+1:Nat):Int) m.1 m.2.1 m.2.2=kr []/\¬ ∃e,zah m.1.toNat (ent m) e) \/
     (∃L'' num'' den'',zid m.1.toNat (ent m) s num0 L'' num'' den''/\p<L''.length/\(∀k',k'<p+1->∀k,k<m.1.toNat->zlc (ent m) L'' num'' den'' (L''.getD k' 0) k) /\
      Z39L N k4 kr M num' den' out (z33 L') (p:Int) (x:Int) t34 t35 (m.1.toNat:Int) ((j+1:Nat):Int) m.1 m.2.1 m.2.2=k4 num'' den'' out (z33 L'') (p:Int) t34 t35 m.1 m.2.1 m.2.2):=by
    intro L' num' den' hf' hu hk he
    obtain⟨u,hu⟩:=hu
    have hget:∀k',k'<L.length->L'.getD k' 0=L.getD k' 0:=λk' hk'=>by rw[hu,z2n hk']
    refine ih (j+1) L' num' den' hf' (by rw[hu];simp;omega) (by rw[hget p hp];exact hx) hlt (by omega) (λk' hk' k hkn=>?_) (λk hk'=>?_)
    ·rw[hget k' (by omega)]
     exact hk _ (z18 0 (by omega)) k (hE1 k' hk' k hkn)
    ·by_cases e:k=j
     ·subst e;exact he
     ·exact hk x hxm k (hE2 k (by omega))
   by_cases h0:ent m x j=0/\ent m j x=0
   ·rw[ct (dt h0.1),ct (dt (by omega))]
    simp only[Z53]
    rw[z0w (by rw[z0k];omega)]
    exact next L num den hf ⟨[],by simp⟩ (λ_ _ _ h=>h) (Or.inl h0)
   ·have hz:∀(X Y:Option ρ),(cond (lk N (decide (ent m x j=0))) (cond (lk N (decide (-(ent m j x)=0))) X Y) Y)=Y:=by
     intro X Y
     by_cases z1:ent m x j=0
     ·rw[ct (dt z1),cf (df (λz2=>h0 ⟨z1,by omega⟩))]
     ·rw[cf (df z1)]
    rw[hz]
    rcases core (N:=N) (out:=out) hm (by omega) hcl hf hp hx hlt h0 (λnum3 den4 out5 piece7 at8 i9 t34 t35 t62 t63 m1_0 m1_1 m1_2=>Z53 N num3 den4 out5 piece7 at8 i9 t34 t35 t62 t63 m1_0 m1_1 m1_2 (λnum3 den4 out5 piece7 at8 i9 t34 t35 t62 t63 m1_0 m1_1 m1_2=>Z39L N k4 kr M num3 den4 out5 piece7 at8 i9 t34 t35 t62 t63 m1_0 m1_1 m1_2)) kr t34 t35 (m.1.toNat:Int) (j:Int)with hc | ⟨L',num',den',h1,h2,h3,h4,h5⟩
    ·exact Or.inl hc
    ·rw[h5]
     simp only[Z53]
     rw[z0w (by rw[z0k];omega)]
     exact next L' num' den' h1 h2 h3 h4
  ·rw[cf' (by rw[z2c];exact df (by omega))]
   refine Or.inr ⟨L,num,den,hf,hp,λk' hk' k hk=>?_,rfl⟩
   by_cases e:k'=p
   ·subst e;rw[hx];exact hE2 k (by omega)
   ·exact hE1 k' (by omega) k hk
def middle(hN:10<=N)(hm:z12 m=true)(hcl:zor m.1.toNat (ent m) num0)(k2:List Int->List Int->List Int->List Int->Int->Int->Int->Int->List Int->Option ρ)(kr:List Int->Option ρ)(t34 t35:Int):∀(M p:Nat) (L:List Nat) (num den:List Int),zid m.1.toNat (ent m) s num0 L num den->p<=L.length->m.1.toNat-p<M ->
  (∀k',k'<p->∀k,k<m.1.toNat->zlc (ent m) L num den (L.getD k' 0) k) ->
  (Z29L N k2 kr M num den out (z33 L) (p:Int) t34 t35 m.1 m.2.1 m.2.2=kr []/\¬ ∃e,zah m.1.toNat (ent m) e) \/
  (∃L' num' den',zid m.1.toNat (ent m) s num0 L' num' den'/\(∀x∈L',∀k,k<m.1.toNat->zlc (ent m) L' num' den' x k) /\
   Z29L N k2 kr M num den out (z33 L) (p:Int) t34 t35 m.1 m.2.1 m.2.2=k2 num' den' out (z33 L') t34 t35 m.1 m.2.1 m.2.2):=by
 have hdim:=z1j hm
 obtain⟨n,r,hn,hr,hn1,hn5,hnr,hr8,hl⟩:=z13 hdim
 intro M
 induction M with
 | zero=>intro p _ _ _ _ _ h;omega
 | succ M ih =>
  intro p L num den hf hp hM hE
  have hle:=hf.le
  simp only[Z29L,Z30,Z31]
  by_cases hlt:p<L.length
  ·rw[ct (dt (by rw[z1p];omega))]
   simp only[Z32,Z33,Z34,Z35]
   rw[ct (z0u (by rw[z1p];exact hlt))]
   simp only[Z36,Z37,Z38,Z39,Int.toNat_natCast,z3i,hf.nl]
   have hin:=inner (ρ:=ρ) (N:=N) (out:=out) hm hcl (λnum3 den4 out5 piece7 at8 t34 t35 m1_0 m1_1 m1_2=>Z54 N num3 den4 out5 piece7 at8 t34 t35 m1_0 m1_1 m1_2 (λnum3 den4 out5 piece7 at8 t34 t35 m1_0 m1_1 m1_2=>Z29L N k2 kr M num3 den4 out5 piece7 at8 t34 t35 m1_0 m1_1 m1_2)) kr t34 t35 N 0 L num den hf hlt rfl (by omega) (by omega) hE (λk hk=>by omega)
   rw[show((0:Nat):Int)=0 from rfl]at hin
   rcases hin with hc | ⟨L',num',den',h1,h2,h3,h4⟩
   ·exact Or.inl hc
   ·rw[h4]
    simp only[Z54]
    rw[z0w (by rw[z0k];omega)]
    exact ih (p+1) L' num' den' h1 h2 (by omega) h3
  ·rw[cf (df (by rw[z1p];omega))]
   refine Or.inr ⟨L,num,den,hf,λx hx k hk=>?_,rfl⟩
   obtain⟨k',hk',e⟩:=z7m hx
   rw[<-e]
   exact hE k' (by omega) k hk
def common(hf:zid m.1.toNat (ent m) s num0 L num den)(h5:m.1.toNat<=5){Q:Int}(q1:0<Q)(q2:Q<=96059601)(q3:∀x∈L,0<den.getD x 0/\den.getD x 0∣Q)(k6:List Int->List Int->List Int->List Int->Int->Int->Int->Int->Int->List Int->Option ρ)(t34 t35:Int):∀(M k:Nat) (c:Int),k<=L.length->L.length-k<M->0<c->c∣Q->(∀k',k'<k->den.getD (L.getD k' 0) 0∣c) ->
  ∃c',0<c'/\c'∣Q/\(∀x∈L,den.getD x 0∣c') /\
   Z61L N k6 M num den out (z33 L) c t34 t35 ((z33 L).length:Int) (k:Int) m.1 m.2.1 m.2.2=k6 num den out (z33 L) c' t34 t35 m.1 m.2.1 m.2.2:=by
 have hle:=hf.le
 intro M
 induction M with
 | zero=>intro k _ _ h;omega
 | succ M ih =>
  intro k c hk hM hc hcQ hd
  simp only[Z61L,Z62]
  by_cases hlt:k<L.length
  ·have hxm:L.getD k 0∈L:=z18 0 hlt
   obtain⟨d1,d2⟩:=q3 _ hxm
   have i1:inB (k:Int) (z33 L).length=true:=z0u (by rw[z1p];exact hlt)
   have i2:inB ((L.getD k 0:Nat):Int) den.length=true:=z0u (by rw[hf.dl];exact hf.lt _ hxm)
   obtain⟨g1,g2,g3,g4,g5,g6,g7⟩:=lcm_step hc d1 hcQ d2 q1
   have b1:=Int.le_of_dvd q1 hcQ
   have b2:=Int.le_of_dvd q1 d2
   have b3:=Int.le_of_dvd q1 g5
   rw[ct (dt (by rw[z1p];omega)),ct i1]
   simp only[Int.toNat_natCast,z3i]
   rw[ct i2,ct i2,ct (show z2a.P c (den.getD (L.getD k 0) 0)=true by
    simp only[z2a.P,Bool.and_eq_true,decide_eq_true_eq]
    omega)]
   have eg:z2a.g c (den.getD (L.getD k 0) 0)=(Int.gcd c (den.getD (L.getD k 0) 0):Int):=rfl
   rw[ct (nt (by rw[eg];omega)),eg,z1r (n:=Int.tdiv c _) (by omega) (by omega),z1r (by omega) (by omega),z0w (by rw[z0k];omega)]
   refine ih (k+1) _ hlt (by omega) g4 g5 (λk' hk'=>?_)
   by_cases e:k'=k
   ·subst e;exact g7
   ·exact Int.dvd_trans (hd k' (by omega)) g6
  ·rw[cf (df (by rw[z1p];omega))]
   refine⟨c,hc,hcQ,λx hx=>?_,rfl⟩
   obtain⟨k',hk',e⟩:=z7m hx
   rw[<-e]
   exact hd k' (by omega)
structure O2(n:Nat)(L:List Nat)(num den out0:List Int)(c:Int)(k:Nat)(out:List Int)(g:Int):Prop where
 len:out.length=n
 old:∀x,x<n->(∀k',k'<k->x≠L.getD k' 0)->out.getD x 0=out0.getD x 0
 val:∀k',k'<k->out.getD (L.getD k' 0) 0*den.getD (L.getD k' 0) 0=c*num.getD (L.getD k' 0) 0/\0<out.getD (L.getD k' 0) 0/\out.getD (L.getD k' 0) 0<=9227446944279201
 gcd:g=((z7z ((List.range k).map λt=>out.getD (L.getD t 0) 0):Nat):Int)
def O2.g_range{n:Nat}{out0:List Int}{c g:Int}{k:Nat}(h:O2 n L num den out0 c k out g):0<=g/\g<=9227446944279201/\(0<k->0<g):=by
 have h0:0<=g:=by rw[h.gcd];omega
 by_cases e:k=0
 ·subst e
  have:=h.gcd
  simp[z7z]at this
  omega
 ·obtain⟨_,a1,a2⟩:=h.val 0 (by omega)
  have hd:g∣out.getD (L.getD 0 0) 0:=by
   rw[h.gcd]
   exact zdh (List.mem_map.2 ⟨0,List.mem_range.2 (by omega),rfl⟩)
  have:=Int.le_of_dvd a1 hd
  refine⟨h0,by omega,λ_=>?_⟩
  rcases Int.lt_or_le 0 g with h' | h'
  ·exact h'
  ·have e:g=0:=by omega
   rw[e]at hd
   have:=Int.zero_dvd.1 hd
   omega
def outs(hf:zid m.1.toNat (ent m) s num0 L num den)(h5:m.1.toNat<=5){c:Int}(c1:0<c)(c2:c<=96059601)(q3:∀x∈L,0<num.getD x 0/\num.getD x 0<=96059601/\0<den.getD x 0/\den.getD x 0∣c)(out0:List Int)(k8:List Int->List Int->List Int->List Int->Int->Int->Int->Int->Int->List Int->Option ρ)(t34 t35:Int):∀(M k:Nat) (out:List Int) (g:Int),k<=L.length->L.length-k<M->O2 m.1.toNat L num den out0 c k out g ->
  ∃out' g',O2 m.1.toNat L num den out0 c L.length out' g' /\
   Z69L N k8 M num den out (z33 L) c g t34 t35 ((z33 L).length:Int) (k:Int) m.1 m.2.1 m.2.2=k8 num den out' (z33 L) g' t34 t35 m.1 m.2.1 m.2.2:=by
 have hle:=hf.le
 intro M
 induction M with
 | zero=>intro k _ _ _ h;omega
 | succ M ih =>
  intro k out g hk hM ho
  simp only[Z69L,Z70]
  by_cases hlt:k<L.length
  ·have hxm:L.getD k 0∈L:=z18 0 hlt
   have hxn:=hf.lt _ hxm
   obtain⟨d1,d2,d3,d4⟩:=q3 _ hxm
   have i1:inB (k:Int) (z33 L).length=true:=z0u (by rw[z1p];exact hlt)
   have i2:inB ((L.getD k 0:Nat):Int) den.length=true:=z0u (by rw[hf.dl];exact hxn)
   have i3:inB ((L.getD k 0:Nat):Int) num.length=true:=z0u (by rw[hf.nl];exact hxn)
   have i4:inB ((L.getD k 0:Nat):Int) out.length=true:=z0u (by rw[ho.len];exact hxn)
   have hxo:L.getD k 0<out.length:=by rw[ho.len];exact hxn
   have hg:=ho.g_range
   have t1:Int.tdiv c (den.getD (L.getD k 0) 0)*den.getD (L.getD k 0) 0=c:=Int.tdiv_mul_cancel d4
   have t2:0<Int.tdiv c (den.getD (L.getD k 0) 0)/\Int.tdiv c (den.getD (L.getD k 0) 0)<=c:=by
    generalize Int.tdiv c (den.getD (L.getD k 0) 0)=t at t1 ⊢
    have:0<t:=by
     rcases Int.lt_or_le 0 t with h' | h'
     ·exact h'
     ·have:=Int.mul_nonpos_of_nonpos_of_nonneg h' (Int.le_of_lt d3);omega
    have:=Int.mul_le_mul_of_nonneg_left (show(1:Int)<=den.getD (L.getD k 0) 0 by omega) (Int.le_of_lt this)
    exact⟨by omega,by omega⟩
   have t3:0<Int.tdiv c (den.getD (L.getD k 0) 0)*num.getD (L.getD k 0) 0:=Int.mul_pos t2.1 d1
   have t4:Int.tdiv c (den.getD (L.getD k 0) 0)*num.getD (L.getD k 0) 0<=96059601*96059601:=Int.mul_le_mul (by omega) d2 (by omega) (by omega)
   rw[ct (dt (by rw[z1p];omega)),ct i1]
   simp only[Int.toNat_natCast,z3i]
   rw[ct i2,ct (nt (by omega)),ct i3,ct i4]
   simp only[z1r (show -9223372036854775808<=Int.tdiv c (den.getD (L.getD k 0) 0) by omega) (by omega)]
   simp only[z1r (show -9223372036854775808<=Int.tdiv c (den.getD (L.getD k 0) 0)*num.getD (L.getD k 0) 0 by omega) (by omega)]
   generalize hv:Int.tdiv c (den.getD (L.getD k 0) 0)*num.getD (L.getD k 0) 0=v at t3 t4 ⊢
   have hself:(out.set (L.getD k 0) v).getD (L.getD k 0) 0=v:=by rw[z1v hxo,if_pos rfl]
   have hget:∀t,t<k->(out.set (L.getD k 0) v).getD (L.getD t 0) 0=out.getD (L.getD t 0) 0:=λt ht'=>by
    rw[z1v hxo,if_neg (λe=>by have:=z4u hf.nd hlt (by omega) e;omega)]
   rw[ct (z0u (by rw[List.length_set];exact hxo)),hself,ct (show z2a.P g v=true by
    simp only[z2a.P,Bool.and_eq_true,decide_eq_true_eq]
    omega),z0w (by rw[z0k];omega)]
   refine ih (k+1) _ _ hlt (by omega) ⟨by rw[List.length_set];exact ho.len, ?_, ?_, ?_⟩
   ·intro x hx hall
    rw[z1v hxo,if_neg (λe=>hall k (by omega) e.symm)]
    exact ho.old x hx (λt ht'=>hall t (by omega))
   ·intro t ht'
    by_cases e:t=k
    ·subst e
     rw[hself]
     refine⟨?_,t3,by omega⟩
     rw[<-hv]
     have e1:=t1
     grind
    ·rw[hget t (by omega)]
     exact ho.val t (by omega)
   ·rw[List.range_succ,List.map_append,List.map_cons,List.map_nil,hself]
    rw[show(List.range k).map (λt=>(out.set (L.getD k 0) v).getD (L.getD t 0) 0)=(List.range k).map (λt=>out.getD (L.getD t 0) 0)from List.map_congr_left (λt ht'=>hget t (List.mem_range.1 ht'))]
    rw[ho.gcd]
    exact zns _ _ v (by omega) rfl
  ·have e:k=L.length:=by omega
   subst e
   exact⟨out,g,ho,by rw[cf (df (by rw[z1p];omega))]⟩
def divs(hf:zid m.1.toNat (ent m) s num0 L num den)(h5:m.1.toNat<=5){out2:List Int}{g:Int}(hg:0<g)(hv:∀x∈L,0<out2.getD x 0/\out2.getD x 0<=9227446944279201)(k10:List Int->List Int->List Int->Int->Int->Int->Int->List Int->Option ρ)(t34 t35:Int):∀(M k:Nat) (d:List Int),k<=L.length->L.length-k<M->T3 m (L,[]) out2 g k d ->
  ∃d',T3 m (L,[]) out2 g L.length d'/\Z74L N k10 M num den d (z33 L) g t34 t35 ((z33 L).length:Int) (k:Int) m.1 m.2.1 m.2.2=k10 num den d' t34 t35 m.1 m.2.1 m.2.2:=by
 have hle:=hf.le
 intro M
 induction M with
 | zero=>intro k _ _ h;omega
 | succ M ih =>
  intro k d hk hM ht
  simp only[Z74L,Z75]
  by_cases hlt:k<L.length
  ·have hxm:L.getD k 0∈L:=z18 0 hlt
   have hxn:=hf.lt _ hxm
   obtain⟨v1,v2⟩:=hv _ hxm
   have hcur:=ht.cur hf.nd hf.lt hlt
   have hdv:0<=Int.tdiv (out2.getD (L.getD k 0) 0) g/\Int.tdiv (out2.getD (L.getD k 0) 0) g<=9227446944279201:=by
    rw[Int.tdiv_eq_ediv_of_nonneg (by omega)]
    refine⟨Int.ediv_nonneg (by omega) (by omega), ?_⟩
    have:=Int.ediv_le_self (a:=out2.getD (L.getD k 0) 0) g (by omega)
    omega
   have i4:inB ((L.getD k 0:Nat):Int) d.length=true:=z0u (by rw[ht.len];exact hxn)
   have hcur':d.getD (L.getD k 0) 0=out2.getD (L.getD k 0) 0:=hcur
   rw[ct (dt (by rw[z1p];omega)),ct (z0u (by rw[z1p];exact hlt))]
   simp only[Int.toNat_natCast,z3i]
   rw[ct i4,ct (nt (by omega)),ct i4,hcur',z1r (by omega) (by omega),z0w (by rw[z0k];omega)]
   exact ih (k+1) _ hlt (by omega) (ht.step hf.nd hf.lt hlt)
  ·have e:k=L.length:=by omega
   subst e
   exact⟨d,ht,by rw[cf (df (by rw[z1p];omega))]⟩
def outer(hN:10<=N)(hm:z12 m=true)(kr:List Int->Option ρ):∀(M i:Nat) (num den out:List Int),OInv m.1.toNat (ent m) num out->den.length=m.1.toNat->i<=m.1.toNat->(∀x,x<i->num.getD x 0≠0)->m.1.toNat-i<M ->
  Z10L N (λout5=>Z77 N out5 kr) kr M num den out (m.1.toNat:Int) (i:Int) m.1 m.2.1 m.2.2=kr (z4y m):=by
 have hdim:=z1j hm
 obtain⟨n,r,hn,hr,hn1,hn5,hnr,hr8,hl⟩:=z13 hdim
 intro M
 induction M with
 | zero=>intro i _ _ _ _ _ _ _ h;omega
 | succ M ih =>
  intro i num den out hO hdl hi hpos hM
  simp only[Z10L,Z11,Z12,Z13,Z14]
  by_cases hlt:i<m.1.toNat
  ·rw[ct' (by rw[z2c];exact dt (by omega))]
   simp only[Z15,Z16,Z17,Z18,Z19,Z20]
   rw[ct (z0u (by rw[hO.nl];exact hlt)),Int.toNat_natCast]
   by_cases hz:num.getD i 0=0
   ·rw[cf (nf hz)]
    simp only[Z21,Z22]
    rw[ct (z0u (by rw[hO.nl];exact hlt)),ct (z0u (by rw[hdl];exact hlt)),Int.toNat_natCast]
    simp only[Z23,Z24,Z25,Z26,Z27,Z28,Z29]
    have hnl:i<num.length:=by rw[hO.nl];exact hlt
    have hdl':i<den.length:=by rw[hdl];exact hlt
    have f0:zid m.1.toNat (ent m) i num [i] (num.set i 1) (den.set i 1):=by
     refine⟨by rw[List.length_set];exact hO.nl,by rw[List.length_set];exact hdl,by simp,λx hx=>by rw[List.mem_singleton]at hx;omega,rfl,by simp, ?_, ?_, ?_, ?_⟩
     ·intro x hx hni
      rw[z1v hnl,if_neg (λe=>hni (by simp[e]))]
     ·intro x hx
      rw[List.mem_singleton]at hx;subst hx;exact hz
     ·refine⟨1,by omega,by simp,λx hx=>?_⟩
      rw[List.mem_singleton]at hx
      subst hx
      rw[z1v hnl,if_pos rfl,z1v hdl',if_pos rfl]
      exact⟨by omega,by simp,by omega,Int.dvd_refl _,by decide⟩
     ·intro e he x hx
      rw[List.mem_singleton]at hx
      subst hx
      rw[z1v hnl,if_pos rfl,z1v hdl',if_pos rfl]
    have hmid:=middle (ρ:=ρ) (out:=out) hN hm hO.closed (λnum3 den4 out5 piece7 t34 t35 m1_0 m1_1 m1_2=>Z55 N num3 den4 out5 piece7 t34 t35 m1_0 m1_1 m1_2 (λnum3 den4 out5 t34 t35 m1_0 m1_1 m1_2=>Z76 N num3 den4 out5 t34 t35 m1_0 m1_1 m1_2 (λnum3 den4 out5 t34 t35 m1_0 m1_1 m1_2=>Z10L N (λout5=>Z77 N out5 kr) kr M num3 den4 out5 t34 t35 m1_0 m1_1 m1_2))) kr (m.1.toNat:Int) (i:Int) N 0 [i] (num.set i 1) (den.set i 1) f0 (by omega) (by omega) (λk' hk'=>by omega)
    rw[show((0:Nat):Int)=0 from rfl,show z33 [i]=[(i:Int)]from rfl]at hmid
    rcases hmid with⟨h1,h2⟩ | ⟨L,num',den',hf,hE,h1⟩
    ·rw[h1,znw h2]
    ·rw[h1]
     have hle:=hf.le
     obtain⟨Q,q1,q2,q3⟩:=hf.frac
     have pw:=pow4 (k:=L.length-1) (by omega)
     simp only[Z55,Z56,Z57,Z58,Z59,Z60,Z61]
     obtain⟨c,c1,c2,c3,c4⟩:=common (ρ:=ρ) (N:=N) (out:=out) (num:=num') (m:=m) hf (by omega) q1 (by omega) (λx hx=>⟨(q3 x hx).2.2.1,(q3 x hx).2.2.2.1⟩) (λnum3 den4 out5 piece7 common16 t34 t35 m1_0 m1_1 m1_2=>Z63 N num3 den4 out5 piece7 common16 t34 t35 m1_0 m1_1 m1_2 (λnum3 den4 out5 t34 t35 m1_0 m1_1 m1_2=>Z76 N num3 den4 out5 t34 t35 m1_0 m1_1 m1_2 (λnum3 den4 out5 t34 t35 m1_0 m1_1 m1_2=>Z10L N (λout5=>Z77 N out5 kr) kr M num3 den4 out5 t34 t35 m1_0 m1_1 m1_2))) (m.1.toNat:Int) (i:Int) N 0 1 (by omega) (by omega) (by omega) (Int.one_dvd _) (λk' hk'=>by omega)
     rw[show((0:Nat):Int)=0 from rfl]at c4
     rw[c4]
     have cQ:=Int.le_of_dvd q1 c2
     simp only[Z63,Z64,Z65,Z66,Z67,Z68,Z69]
     obtain⟨out2,g2,o1,o2⟩:=outs (ρ:=ρ) (N:=N) (num:=num') (m:=m) hf (by omega) c1 (by omega) (λx hx=>⟨(q3 x hx).1,by have:=(q3 x hx).2.1;omega,(q3 x hx).2.2.1,c3 x hx⟩) out (λnum3 den4 out5 piece7 g19 t34 t35 m1_0 m1_1 m1_2=>Z71 N num3 den4 out5 piece7 g19 t34 t35 m1_0 m1_1 m1_2 (λnum3 den4 out5 t34 t35 m1_0 m1_1 m1_2=>Z76 N num3 den4 out5 t34 t35 m1_0 m1_1 m1_2 (λnum3 den4 out5 t34 t35 m1_0 m1_1 m1_2=>Z10L N (λout5=>Z77 N out5 kr) kr M num3 den4 out5 t34 t35 m1_0 m1_1 m1_2))) (m.1.toNat:Int) (i:Int) N 0 out 0 (by omega) (by omega) ⟨hO.ol,λ_ _ _=>rfl,λk hk=>by omega,rfl⟩
     rw[show((0:Nat):Int)=0 from rfl]at o2
     rw[o2]
     have hg2:=o1.g_range.2.2 hf.pos
     have hval:∀x∈L,out2.getD x 0*den'.getD x 0=c*num'.getD x 0/\0<out2.getD x 0/\out2.getD x 0<=9227446944279201:=by
      intro x hx
      obtain⟨k,hk,e⟩:=z7m hx
      rw[<-e]
      exact o1.val k hk
     simp only[Z71,Z72,Z73,Z74]
     obtain⟨out3,p1,p2⟩:=divs (ρ:=ρ) (N:=N) (num:=num') (m:=m) hf (by omega) hg2 (λx hx=>(hval x hx).2) (λnum3 den4 out5 t34 t35 m1_0 m1_1 m1_2=>Z76 N num3 den4 out5 t34 t35 m1_0 m1_1 m1_2 (λnum3 den4 out5 t34 t35 m1_0 m1_1 m1_2=>Z10L N (λout5=>Z77 N out5 kr) kr M num3 den4 out5 t34 t35 m1_0 m1_1 m1_2)) (m.1.toNat:Int) (i:Int) N 0 out2 (by omega) (by omega) ⟨o1.len,λ_ _ _=>rfl,λk hk=>by omega⟩
     rw[show((0:Nat):Int)=0 from rfl]at p2
     rw[p2]
     have hgl:g2=((z7z (L.map λx=>out2.getD x 0):Nat):Int):=by
      rw[<-zfo L (λx=>out2.getD x 0)]
      exact o1.gcd
     obtain⟨r1,r2,r3⟩:=hO.piece (out3:=out3) hf hE c1 hg2 (λx hx=>(hval x hx).1) hgl (λx hx=>by
      obtain⟨k,hk,e⟩:=z7m hx
      have:=p1.val k hk
      rw[<-e]
      rw[show out3.getD (L.getD k 0) 0=_ from this]
      refine Int.tdiv_mul_cancel ?_
      rw[hgl]
      exact zdh (List.mem_map.2 ⟨L.getD k 0,z18 0 hk,rfl⟩)) (λx hx hni=>by
      have hne:∀k',k'<L.length->x≠L.getD k' 0:=λk' hk' e=>hni (by rw[e];exact z18 0 hk')
      rw[p1.out x hx hne,o1.old x hx hne]) p1.len
     simp only[Z76]
     rw[z0w (by rw[z0k];omega)]
     exact ih (i+1) num' den' out3 r1 hf.dl hlt (λx hx=>by
      by_cases e:x=i
      ·subst e;exact r2
      ·exact r3 x (by omega) (hpos x (by omega))) (by omega)
   ·rw[ct (nt hz)]
    simp only[Z76]
    rw[z0w (by rw[z0k];omega)]
    exact ih (i+1) num den out hO hdl hlt (λx hx=>by
     by_cases e:x=i
     ·subst e;exact hz
     ·exact hpos x (by omega)) (by omega)
  ·rw[cf' (by rw[z2c];exact df (by omega))]
   simp only[Z77]
   rw[hO.fac (λx hx=>hpos x (by omega)),ct' (by rw[hO.ol,Nat.blt_eq];omega)]
end
def ok:Spec:=λm hb hp=>⟨10,λN hN=>by
 have hm:z12 m=true:=hp
 have hdim:=z1j hm
 obtain⟨n,r,hn,hr,hn1,hn5,hnr,hr8,hl⟩:=z13 hdim
 have hz:∀x,(List.replicate m.1.toNat (0:Int)).getD x 0=0:=λx=>by
  rw[List.getD_eq_getElem?_getD,List.getElem?_replicate]
  split<;>rfl
 have hc:(leB 0 m.1&&decide (m.1<1099511627776))=true:=by rw[zh4 (by omega),dt (by omega)];rfl
 simp only[Z0,Z1,Z2,Z3]
 rw[ct hc,ct hc]
 have key:Z4 N (List.replicate m.1.toNat 0) (List.replicate m.1.toNat 0) m.1 m.2.1 m.2.2 (λt2=>some ((),(t2,())))=some ((),(g m,())):=by
  simp only[Z4,Z5]
  rw[ct hc]
  simp only[Z6,Z7,Z8,Z9,Z10,List.length_replicate]
  have:=outer (ρ:=Unit×List Int×Unit) hN hm (λt2=>some ((),(t2,()))) N 0 (List.replicate m.1.toNat 0) (List.replicate m.1.toNat 0) (List.replicate m.1.toNat 0) ⟨by simp,by simp,λy hy h=>absurd (hz y) h,λj hj h=>absurd (hz j) h⟩ (by simp) (by omega) (λx hx=>by omega) (by omega)
  exact this
 rw[key]
 simp only[bo,z8w]⟩
end z01
end
end Go.Fw
namespace Go.Fw
section
variable {ρ : Type}
namespace z1u
def g(m:Int×Int×List Int):Bool:=z12 m&&!decide (z4y m=[])
end z1u
namespace z1u
def Z0{ρ:Type}(N:Nat)(a:MT)(kr:Bool->Option ρ):Option ρ :=
 cond (lk N ((z3v.g a)))
 (
  cond (lk N (z01.P a)) (
   kr (lk N (!(decide ((z01.g a).length=0))))) none)
 (
  kr false)
def Spec:Prop:=∀ (v0:MT),Ty.bd (.pair (.int .i64) (.pair (.int .i64) (.sl 0 (.int .i64)))) v0->∃N0,∀N,N0<=N->Z0 N v0 (λv2=>some ((),(v2,())))=some ((),((g v0),()))
def ok:Spec:=λm hb=>⟨0,λN hN=>by
 simp only[Z0,z2c,g,z3v.g,z01.P,z01.g]
 cases z12 m
 ·rfl
 ·by_cases h:z4y m=[]
  ·rw[dt h,dt (by rw[h];rfl)];rfl
  ·rw[df h,df (λe=>h (List.length_eq_zero_iff.1 e))];rfl⟩
end z1u
end
end Go.Fw
namespace Go.Fw
section
variable {ρ : Type}
namespace z0i
def P(a:List Int):Bool:=decide (a.length<1099511627776)
abbrev g(a:List Int):List Int:=a
end z0i
namespace z0i
def Z0{ρ:Type}(N:Nat)(a:LI)(kr:LI->Option ρ):Option ρ :=
 cond (lk N (decide (0<a.length)))
 (
  cond (lk N (Nat.blt (([]:List Int).length+a.length) 1099511627776)) (
   kr (([]:List Int)++a)) none)
 (
  zub (
   kr ([]:List Int))
  (
   cond (lk N (Nat.blt (([]:List Int).length+a.length) 1099511627776)) (
    kr (([]:List Int)++a)) none))
def Spec:Prop:=∀ (v0:LI),Ty.bd (.sl 0 (.int .i64)) v0->P v0=true->∃N0,∀N,N0<=N->Z0 N v0 (λv2=>some ((),(v2,())))=some ((),((g v0),()))
def ok:Spec:=λa hb hp=>⟨0,λN hN=>by
 have hl:a.length<1099511627776:=by simpa[P]using hp
 have hc:Nat.blt (([]:List Int).length+a.length) 1099511627776=true:=by simpa using hl
 simp only[Z0,z2c,g,hc,cond_true,List.nil_append]
 by_cases h:0<a.length
 ·simp[h]
 ·have:a=[]:=List.eq_nil_of_length_eq_zero (by omega)
  subst this
  simp[z8w]⟩
end z0i
end
end Go.Fw
namespace Go.Fw
section
variable {ρ : Type}
namespace z2t
def g(m:Int×Int×List Int):Int×Int×List Int:=if(z12 m&&!decide (z4y m=[]))=true then z5r m else(0,0,[])
end z2t
namespace z2t
def Z0{ρ:Type}(N:Nat)(a:MT)(kr:LI->I2 (Option ρ)):Option ρ :=
 cond (!(lk N ((z1u.g a))))
 (
  kr ([]:List Int) 0 0)
 (
  cond (lk N (leB 0 (w64 (a.1*a.1))&&leB (w64 (a.1*a.1)) a.2.2.length)) (
   cond (lk N (z0i.P (a.2.2.take (w64 (a.1*a.1)).toNat))) (
    kr (z0i.g (a.2.2.take (w64 (a.1*a.1)).toNat)) a.1 a.1) none) none)
def Spec:Prop:=∀ (v0:MT),Ty.bd (.pair (.int .i64) (.pair (.int .i64) (.sl 0 (.int .i64)))) v0->∃N0,∀N,N0<=N->Z0 N v0 (λv2_2 v2_0 v2_1=>some ((),((v2_0,(v2_1,v2_2)),())))=some ((),((g v0),()))
def ok:Spec:=λm hb=>⟨0,λN hN=>by
 simp only[Z0,z2c,g,z1u.g]
 cases h:(z12 m&&!decide (z4y m=[]))
 ·rfl
 ·have hd:z4q m=true:=by
   simp only[Bool.and_eq_true]at h
   have hs:=h.1
   simp only[z1y,z12,Bool.and_eq_true]at hs
   first | exact hs.1.1 | exact hs.1
  obtain⟨h1,h2,h3,h4⟩:=zip hd
  have hP:z0i.P (m.2.2.take (m.1*m.1).toNat)=true:=dt (by rw[List.length_take];omega)
  rw[h1,zh4 h2,zh4 h4,hP]
  rfl⟩
end z2t
end
end Go.Fw
namespace Go.Fw
section
variable {ρ : Type}
namespace z1a
def g(xs:List Int)(i:Int)(ys:List Int):List Int:=zno xs i ys
def P(xs:List Int)(i:Int)(ys:List Int):Bool:=insP xs i ys
end z1a
namespace z1a
def ok:True:=trivial
end z1a
end
end Go.Fw
namespace Go.Fw
section
variable {ρ : Type}
namespace z0h
def P(n:Int):Bool:=decide (0<=n)&&decide (n<=5)
def g(n:Int):List (List Int):=zfw n.toNat
end z0h
namespace z0h
def Z1{ρ:Type}(N:Nat)(a:Int)(kn:Int->Option ρ):Option ρ :=
 kn a
def Z3{ρ:Type}(N:Nat)(a:Int)(kn:LL->Int->Option ρ):Option ρ :=
 kn ([([]:List Int)]:List (LI)) a
def Z6{ρ:Type}(N:Nat)(a:LL)(b:Int)(kn:LL->I2 (Option ρ)):Option ρ :=
 kn a b 0
def Z10{ρ:Type}(N:Nat)(a:LL)(b c:Int)(kn:LL->I2 (Option ρ))(k0:LL->Option ρ):Option ρ :=
 cond (lk N (decide (c<b)))
 (
  kn a b c)
 (
  k0 a)
def Z14{ρ:Type}(N:Nat)(a:LL)(b c:Int)(kn:LL->I2 (Option ρ)):Option ρ :=
 kn a b c
def Z17{ρ:Type}(N:Nat)(a:LL)(b c:Int)(kn:LL->I4 (Option ρ)):Option ρ :=
 kn a b c (a.length:Int) 0
def Z21{ρ:Type}(N:Nat)(c d:LL)(e f a b:Int)(kn:LL->LL->I4 (Bool->Option ρ)):Option ρ :=
 kn c d e f a b (lk N (decide (b<a)))
def Z23{ρ:Type}(N:Nat)(a d:LL)(b c e f:Int)(g:Bool)(kn:LL->LL->I4 (Option ρ))(k2:LL->I2 (Option ρ)):Option ρ :=
 cond (g)
 (
  kn a d b c e f)
 (
  k2 a b c)
def Z27{ρ:Type}(N:Nat)(c a:LL)(d e f b:Int)(kn:LL->LL->I2 (LI->I2 (Option ρ))):Option ρ :=
 cond (lk N (inB b a.length)) (
  kn c a d e (a.getD b.toNat []) f b) none
def Z29{ρ:Type}(N:Nat)(a b:LL)(c d:Int)(e:LI)(f g:Int)(kn:LL->LL->I2 (LI->I3 (Option ρ))):Option ρ :=
 kn a b c d e 0 f g
def Z32{ρ:Type}(N:Nat)(d e:LL)(f b:Int)(a:LI)(c h i:Int)(kn:LL->LL->I2 (LI->I3 (Option ρ)))(k4:LL->LL->I4 (Option ρ)):Option ρ :=
 cond (lk N (decide (c<=(a.length:Int))))
 (
  cond (lk N (z0i.P a)) (
   cond (lk N (z1a.P (z0i.g a) c ([b]:List Int))) (
    cond (lk N (Nat.blt (d.length+([(z1a.g (z0i.g a) c ([b]:List Int))]:List (LI)).length) 1099511627776)) (
     kn (d++([(z1a.g (z0i.g a) c ([b]:List Int))]:List (LI))) e f b a (w64 (c+1)) h i) none) none) none)
 (
  k4 d e f b h i)
def Z31L{ρ:Type}(N:Nat)(k4:LL->LL->I4 (Option ρ)):Nat->LL->LL->Int->Int->LI->Int->Int->Int->Option ρ
 | 0,_,_,_,_,_,_,_,_=>none
 | M+1,a,b,c,d,e,f,g,h=>Z32 N a b c d e f g h (λa b c d e f g h=>Z31L N k4 M a b c d e f g h) k4
def Z31 N a b c d e f g h k4:=(Z31L N k4 N a b c d e f g h:Option ρ)
def Z30 N a b c d e f g h kn:=(Z31 N a b c d e f g h kn:Option ρ)
def Z28 N a b c d e f g kn:=(Z29 N a b c d e f g (λa b c d e h f g=>Z30 N a b c d e h f g kn):Option ρ)
def Z26 N a b c d e f kn:=(Z27 N a b c d e f (λa b c d g e f=>Z28 N a b c d g e f kn):Option ρ)
def Z25 N a b c d e f kn:=(Z26 N a b c d e f kn:Option ρ)
def Z33{ρ:Type}(N:Nat)(a b:LL)(c d e f:Int)(kn:LL->LL->I4 (Option ρ)):Option ρ :=
 kn a b c d e (w64 (f+1))
def Z24 N a b c d e f kn:=(Z25 N a b c d e f (λa b c d e f=>Z33 N a b c d e f kn):Option ρ)
def Z22 N a b c d e f g kn k2:=(Z23 N a b c d e f g (λa b c d e f=>Z24 N a b c d e f kn) k2:Option ρ)
def Z20 N a b c d e f kn k2:=(Z21 N a b c d e f (λa b c d e f g=>Z22 N a b c d e f g kn k2):Option ρ)
def Z19L{ρ:Type}(N:Nat)(k2:LL->I2 (Option ρ)):Nat->LL->LL->Int->Int->Int->Int->Option ρ
 | 0,_,_,_,_,_,_=>none
 | M+1,a,b,c,d,e,f=>Z20 N a b c d e f (λa b c d e f=>Z19L N k2 M a b c d e f) k2
def Z19 N a b c d e k2:=(Z19L N k2 N ([]:List (LI)) a b c d e:Option ρ)
def Z18 N a b c d e kn:=(Z19 N a b c d e kn:Option ρ)
def Z16 N c a b kn:=(Z17 N c a b (λd a b e f=>Z18 N d a b e f kn):Option ρ)
def Z34{ρ:Type}(N:Nat)(a:LL)(b c:Int)(kn:LL->I2 (Option ρ)):Option ρ :=
 kn a b c
def Z15 N c a b kn:=(Z16 N c a b (λd a b=>Z34 N d a b kn):Option ρ)
def Z13 N a b c kn:=(Z14 N a b c (λa b c=>Z15 N a b c kn):Option ρ)
def Z12 N a b c kn:=(Z13 N a b c kn:Option ρ)
def Z35{ρ:Type}(N:Nat)(a:LL)(b c:Int)(kn:LL->I2 (Option ρ)):Option ρ :=
 kn a b (w64 (c+1))
def Z11 N a b c kn:=(Z12 N a b c (λa b c=>Z35 N a b c kn):Option ρ)
def Z9 N a b c kn k0:=(Z10 N a b c (λa b c=>Z11 N a b c kn) k0:Option ρ)
def Z8L{ρ:Type}(N:Nat)(k0:LL->Option ρ):Nat->LL->Int->Int->Option ρ
 | 0,_,_,_=>none
 | M+1,a,b,c=>Z9 N a b c (λa b c=>Z8L N k0 M a b c) k0
def Z8 N a b c k0:=(Z8L N k0 N a b c:Option ρ)
def Z7 N a b c kn:=(Z8 N a b c kn:Option ρ)
def Z5 N a b kn:=(Z6 N a b (λa b c=>Z7 N a b c kn):Option ρ)
def Z36{ρ:Type}(N:Nat)(a:LL)(kr:LL->Option ρ):Option ρ :=
 kr a
def Z4 N a b kr:=(Z5 N a b (λa=>Z36 N a kr):Option ρ)
def Z2 N a kr:=(Z3 N a (λb a=>Z4 N b a kr):Option ρ)
def Z0 N a kr:=(Z1 N a (λa=>Z2 N a kr):Option ρ)
def Spec:Prop:=∀ (v0:Int),P v0=true->∃N0,∀N,N0<=N->Z0 N v0 (λv2=>some ((),(v2,())))=some ((),((g v0),()))
def inner{ρ:Type}{N:Nat}{l:List Int}(hl:l.length<=5)(t15:List (List Int))(n k t16 t17:Int)(k4:List (List Int)->List (List Int)->Int->Int->Int->Int->Option ρ):∀(M i:Nat) (next:List (List Int)),i<=l.length+1->next.length+(l.length+1-i)<=10000->l.length+1-i<M ->
  Z31L N k4 M next t15 n k l (i:Int) t16 t17=k4 (next++((List.range (l.length+1)).drop i).map λi=>zno l ((i:Nat):Int) [k]) t15 n k t16 t17:=by
 intro M
 induction M with
 | zero=>intro i next _ _ h;omega
 | succ M ih =>
  intro i next hi hs hM
  simp only[Z31L,Z32]
  by_cases h:i<l.length+1
  ·have h1:z0i.P l=true:=dt (by omega)
   have h1g:z0i.g l=l:=rfl
   have h2:z1a.P l (i:Int) [k]=true:=by
    show insP l (i:Int) [k]=true
    simp only[insP,Bool.and_eq_true,decide_eq_true_eq,Int.toNat_natCast]
    exact⟨Nat.ble_eq_true_of_le (by omega),by omega,rfl,Nat.ble_eq_true_of_le (by simp;omega)⟩
   have h2g:z1a.g l (i:Int) [k]=zno l (i:Int) [k]:=rfl
   have h3:Nat.blt (next.length+([zno l (i:Int) [k]]:List (List Int)).length) 1099511627776=true:=Nat.ble_eq_true_of_le (by simp;omega)
   rw[ct (dt (by omega)),ct h1,h1g,ct h2,h2g,ct h3,z0w (by rw[z0k];omega),ih (i+1) _ h (by simp;omega) (by omega),z63 h,List.map_cons,List.append_assoc]
   rfl
  ·rw[cf (df (by omega)),List.drop_of_length_le (by simp;omega)]
   simp
def mid{ρ:Type}{N:Nat}(hN:10<=N){t15:List (List Int)}(ht:∀o∈t15,o.length<=5)(ht2:t15.length<=1000)(n k:Int)(k2:List (List Int)->Int->Int->Option ρ):∀(M j:Nat) (next:List (List Int)),j<=t15.length->next.length+(t15.length-j)*6<=10000->t15.length-j<M ->
  Z19L N k2 M next t15 n k (t15.length:Int) (j:Int)=k2 (next++(t15.drop j).flatMap (insAll k)) n k:=by
 intro M
 induction M with
 | zero=>intro i next _ _ h;omega
 | succ M ih =>
  intro j next hj hs hM
  simp only[Z19L,Z20,Z21,Z22,Z23]
  by_cases h:j<t15.length
  ·have hl:=ht _ (z18 (l:=t15) [] h)
   rw[ct (dt (by omega))]
   simp only[Z24,Z25,Z26,Z27]
   rw[ct (z0u h),Int.toNat_natCast]
   simp only[Z28,Z29,Z30,Z31]
   have hin:=inner (ρ:=ρ) (N:=N) hl t15 n k (t15.length:Int) (j:Int) (λnext5 t15 n0 k4 t16 t17=>Z33 N next5 t15 n0 k4 t16 t17 (λnext5 t15 n0 k4 t16 t17=>Z19L N k2 M next5 t15 n0 k4 t16 t17)) N 0 next (by omega) (by omega) (by omega)
   rw[show((0:Nat):Int)=0 from rfl,List.drop_zero]at hin
   rw[hin]
   simp only[Z33]
   have e:(t15.length-j)*6=(t15.length-(j+1))*6+6:=by omega
   rw[z0w (by rw[z0k];omega),ih (j+1) _ h (by rw[List.length_append,List.length_map,List.length_range];omega) (by omega),z2d (l:=t15) [] h,List.flatMap_cons,List.append_assoc]
   rfl
  ·rw[cf (df (by omega)),List.drop_of_length_le (by omega)]
   simp
def outer{ρ:Type}{N n:Nat}(hN:1000<=N)(hn:n<=5)(k0:List (List Int)->Option ρ):∀(M k:Nat),k<=n->n-k<M ->
  Z8L N k0 M (zfw k) (n:Int) (k:Int)=k0 (zfw n):=by
 intro M
 induction M with
 | zero=>intro k _ h;omega
 | succ M ih =>
  intro k hk hM
  simp only[Z8L,Z9,Z10]
  by_cases h:k<n
  ·rw[ct (dt (by omega))]
   simp only[Z11,Z12,Z13,Z14,Z15,Z16,Z17,Z18,Z19]
   have hlen:=zfv (n:=k) (by omega)
   have hm:=mid (ρ:=ρ) (N:=N) (by omega) (t15:=zfw k) (λo ho=>by rw[ordN_len (by omega) o ho];omega) (by omega) (n:Int) (k:Int) (λnext5 n0 k4=>Z34 N next5 n0 k4 (λout3 n0 k4=>Z35 N out3 n0 k4 (λout3 n0 k4=>Z8L N k0 M out3 n0 k4))) N 0 [] (Nat.zero_le _) (by simp;omega) (by omega)
   rw[show((0:Nat):Int)=0 from rfl,List.drop_zero,List.nil_append]at hm
   rw[hm]
   simp only[Z34,Z35]
   rw[z0w (by rw[z0k];omega)]
   exact ih (k+1) h (by omega)
  ·rw[cf (df (by omega)),show k=n by omega]
def ok:Spec:=λn hp=>⟨1000,λN hN=>by
 simp only[P,Bool.and_eq_true,decide_eq_true_eq]at hp
 obtain⟨n,rfl⟩:=Int.eq_ofNat_of_zero_le hp.1
 simp only[Z0,Z1,Z2,Z3,Z4,Z5,Z6,Z7,Z8]
 refine(outer hN (by omega) _ N 0 (Nat.zero_le _) (by omega)).trans ?_
 rw[g,Int.toNat_natCast]
 rfl⟩
end z0h
end
end Go.Fw
namespace Go.Fw
section
variable {ρ : Type}
namespace z0s
def go(v:Int):List Int->Nat->Int
 | [],_=>-1
 | x::xs,j=>if v=x then(j:Int)else go v xs (j+1)
def g(s:List Int)(v:Int):Int:=go v s 0
end z0s
namespace z0s
def Z1{ρ:Type}(N:Nat)(a:LI)(b:Int)(kn:LI->Int->Option ρ):Option ρ :=
 kn a b
def Z4{ρ:Type}(N:Nat)(a:LI)(b:Int)(kn:LI->I3 (Option ρ)):Option ρ :=
 kn a b (a.length:Int) 0
def Z7{ρ:Type}(N:Nat)(b:LI)(c d a:Int)(kn:LI->I3 (Option ρ))(k0:Option ρ)(kr:Int->Option ρ):Option ρ :=
 cond (lk N (decide (a<d)))
 (
  cond (lk N (inB a b.length)) (
   cond (lk N (decide (c=(b.getD a.toNat 0))))
   (
    kr a)
   (
    kn b c d (w64 (a+1)))) none)
 (
  k0)
def Z6L{ρ:Type}(N:Nat)(k0:Option ρ)(kr:Int->Option ρ):Nat->LI->Int->Int->Int->Option ρ
 | 0,_,_,_,_=>none
 | M+1,a,b,c,d=>Z7 N a b c d (λa b c d=>Z6L N k0 kr M a b c d) k0 kr
def Z6 N a b c d k0 kr:=(Z6L N k0 kr N a b c d:Option ρ)
def Z5 N a b c d kn kr:=(Z6 N a b c d kn kr:Option ρ)
def Z3 N a b kn kr:=(Z4 N a b (λa b c d=>Z5 N a b c d kn kr):Option ρ)
def Z8{ρ:Type}(N:Nat) (kr:Int->Option ρ):Option ρ :=
 kr (-1)
def Z2 N a b kr:=(Z3 N a b (Z8 N kr) kr:Option ρ)
def Z0 N a b kr:=(Z1 N a b (λa b=>Z2 N a b kr):Option ρ)
def Spec:Prop:=∀ (v0:LI) (v1:Int),Ty.bd (.sl 0 (.int .i64)) v0->∃N0,∀N,N0<=N->Z0 N v0 v1 (λv4=>some ((),(v4,())))=some ((),((g v0 v1),()))
def loop{ρ:Type}(N:Nat)(kr:Int->Option ρ)(v:Int)(a:List Int)(ha:a.length<=maxLen):∀(M j:Nat),j<=a.length->a.length-j<M ->
  Z6L N (kr (-1)) kr M a v (a.length:Int) (j:Int)=kr (go v (a.drop j) j):=by
 intro M
 induction M with
 | zero=>intro j _ h;omega
 | succ M ih =>
  intro j hj hM
  simp only[Z6L,Z7]
  by_cases h:j<a.length
  ·rw[ct (dt (by omega)),ct (z0u h),Int.toNat_natCast,z0w (by omega),ih (j+1) h (by omega),z2d 0 h,go]
   by_cases e:v=a.getD j 0
   ·rw[ct (dt e),if_pos e]
   ·rw[cf (df e),if_neg e]
  ·rw[cf (df (by omega)),List.drop_of_length_le (by omega),go]
def ok:Spec:=λa v ha=>⟨a.length+1,λN hN=>by
 simp only[Z1,Z4,Z7,Z6,Z5,Z3,Z8,Z2,Z0]
 exact(loop N (λt=>some ((),(t,()))) v a ha.1 N 0 (by omega) (by omega)).trans rfl⟩
def go_pos(v:Int):∀(l:List Int) (j:Nat),0<=go v l j↔v∈l
 | [],j=>by simp[go]
 | x::xs,j=>by
  rw[go]
  by_cases h:v=x
  ·rw[if_pos h];simp[h]
  ·rw[if_neg h,go_pos v xs];simp[h]
end z0s
end
end Go.Fw
namespace Go.Fw
section
variable {ρ : Type}
namespace z1g
def g(s:List Int)(v:Int):Bool:=s.any λx=>decide (x=v)
end z1g
namespace z1g
def Z0{ρ:Type}(N:Nat)(a:LI)(b:Int)(kr:Bool->Option ρ):Option ρ :=
 kr (lk N (decide (0<=(z0s.g a b))))
def Spec:Prop:=∀ (v0:LI) (v1:Int),Ty.bd (.sl 0 (.int .i64)) v0->∃N0,∀N,N0<=N->Z0 N v0 v1 (λv4=>some ((),(v4,())))=some ((),((g v0 v1),()))
def ok:Spec:=λa v ha=>⟨0,λN hN=>by
 simp only[Z0,z2c,g]
 have:=(show 0<=z0s.g a v↔v∈a from z0s.go_pos v a 0)
 have h2:(a.any λx=>decide (x=v))=true↔v∈a:=by simp
 cases e:a.any λx=>decide (x=v)
 ·rw[df (λh=>by rw[h2.2 (this.1 h)]at e;cases e)]
 ·rw[dt (this.2 (h2.1 e))]⟩
end z1g
end
end Go.Fw
namespace Go.Fw
section
variable {ρ : Type}
namespace z1l
def g(l:List Int)(n:Int):Bool:=z4g l n
end z1l
namespace z1l
def Z1{ρ:Type}(N:Nat)(a:LI)(b:Int)(kn:LI->Int->Option ρ):Option ρ :=
 kn a b
def Z3{ρ:Type}(N:Nat)(a:LI)(b:Int)(kn:LI->Int->Option ρ)(kr:Bool->Option ρ):Option ρ :=
 cond (lk N (!(decide ((a.length:Int)=b))))
 (
  kr false)
 (
  kn a b)
def Z6{ρ:Type}(N:Nat)(a:LI)(b:Int)(kn:LI->Int->LI->I2 (Option ρ)):Option ρ :=
 kn a b a (a.length:Int) 0
def Z9{ρ:Type}(N:Nat)(c:LI)(d:Int)(b:LI)(e a:Int)(kn:LI->Int->LI->I2 (Option ρ))(k0:Option ρ)(kr:Bool->Option ρ):Option ρ :=
 cond (lk N (decide (a<e)))
 (
  cond (lk N (inB a b.length)) (
   cond (!(lk N ((z2i.g (b.getD a.toNat 0) 0 (w64 (d-1))))))
   (
    kr false)
   (
    cond (lk N (leB 0 a&&leB a c.length)) (
     cond (lk N ((z1g.g (c.take a.toNat) (b.getD a.toNat 0))))
     (
      kr false)
     (
      kn c d b e (w64 (a+1)))) none)) none)
 (
  k0)
def Z8L{ρ:Type}(N:Nat)(k0:Option ρ)(kr:Bool->Option ρ):Nat->LI->Int->LI->Int->Int->Option ρ
 | 0,_,_,_,_,_=>none
 | M+1,a,b,c,d,e=>Z9 N a b c d e (λa b c d e=>Z8L N k0 kr M a b c d e) k0 kr
def Z8 N a b c d e k0 kr:=(Z8L N k0 kr N a b c d e:Option ρ)
def Z7 N a b c d e kn kr:=(Z8 N a b c d e kn kr:Option ρ)
def Z5 N a b kn kr:=(Z6 N a b (λa b c d e=>Z7 N a b c d e kn kr):Option ρ)
def Z10{ρ:Type}(N:Nat) (kr:Bool->Option ρ):Option ρ :=
 kr true
def Z4 N a b kr:=(Z5 N a b (Z10 N kr) kr:Option ρ)
def Z2 N a b kr:=(Z3 N a b (λa b=>Z4 N a b kr) kr:Option ρ)
def Z0 N a b kr:=(Z1 N a b (λa b=>Z2 N a b kr):Option ρ)
def Spec:Prop:=∀ (v0:LI) (v1:Int),Ty.bd (.sl 0 (.int .i64)) v0->∃N0,∀N,N0<=N->Z0 N v0 v1 (λv4=>some ((),(v4,())))=some ((),((g v0 v1),()))
def loop{ρ:Type}(N:Nat)(k0:Option ρ)(kr:Bool->Option ρ)(l:List Int)(hl:l.length<=maxLen):∀(M j:Nat),j<=l.length->l.length-j<M ->
  Z8L N k0 kr M l (l.length:Int) l (l.length:Int) (j:Int)=cond (((List.range l.length).drop j).all (ze5 l (l.length:Int))) k0 (kr false):=by
 intro M
 induction M with
 | zero=>intro j _ h;omega
 | succ M ih =>
  intro j hj hM
  simp only[Z8L,Z9]
  by_cases h:j<l.length
  ·have e1:z2i.g (l.getD j 0) 0 (w64 ((l.length:Int)-1))=inK (l.getD j 0) 0 ((l.length:Int)-1):=by
    rw[z1r (by omega) (by rw[z0k]at hl;omega)];rfl
   have e2:(leB 0 (j:Int)&&leB (j:Int) l.length)=true:=by rw[zh4 (by omega),zh4 (by omega)];rfl
   rw[ct (dt (by omega)),ct (z0u h),Int.toNat_natCast,e1,ct e2,z0w (by omega),ih (j+1) h (by omega),z63 h,List.all_cons,ze5]
   simp only[z2c,z1g.g]
   cases inK (l.getD j 0) 0 ((l.length:Int)-1)
   ·rfl
   ·cases((l.take j).any λx=>decide (x=l.getD j 0))<;>rfl
  ·rw[cf (df (by omega)),List.drop_of_length_le (by simp;omega)];rfl
def ok:Spec:=λl n hb=>⟨l.length+1,λN hN=>by
 simp only[Z1,Z3,Z6,Z9,Z8,Z7,Z5,Z10,Z4,Z2,Z0,g,z4g]
 by_cases h:(l.length:Int)=n
 ·subst h
  have:=loop N (some ((),(true,()))) (λt=>some ((),(t,()))) l hb.1 N 0 (by omega) (by omega)
  rw[show((0:Nat):Int)=0 from rfl,List.drop_zero]at this
  rw[cf (nf rfl),this,dt rfl]
  cases(List.range l.length).all (ze5 l (l.length:Int))<;>rfl
 ·rw[ct (nt h),df h];rfl⟩
end z1l
end
end Go.Fw
namespace Go.Fw
section
variable {ρ : Type}
namespace z03
def g(m:Int×Int×List Int)(names:List Int):(Int×Int×List Int)×Bool :=
 if((z12 m&&!decide (z4y m=[]))&&z4g names m.1)=true then(z71 m names,true)else((0,0,[]),false)
end z03
namespace z03
def Z1{ρ:Type}(N:Nat)(a:MT)(b:LI)(kn:LI->I2 (LI->I2 (Option ρ))):Option ρ :=
 kn b a.1 a.2.1 a.2.2 0 0
def Z3{ρ:Type}(N:Nat)(b:LI)(a c:Int)(d:LI)(e f:Int)(kn:LI->I2 (LI->I2 (Option ρ)))(kr:LI->Bool->I2 (Option ρ)):Option ρ :=
 cond (!(lk N ((z1u.g (a,(c,d))))))
 (
  kr ([]:List Int) false 0 0)
 (
  cond (!(lk N ((z1l.g b a))))
  (
   kr ([]:List Int) false 0 0)
  (
   kn b a c d e f))
def Z5{ρ:Type}(N:Nat)(d:LI)(b c:Int)(a:LI)(e f:Int)(kn:LI->LI->I2 (LI->I4 (Option ρ))):Option ρ :=
 zub (
  cond (lk N (leB 0 (a.length:Int)&&decide ((a.length:Int)<1099511627776))) (
   bo (
    kn (List.replicate (a.length:Int).toNat (0:Int)) d b c a e f b c)) none)
 (
  cond (lk N (leB 0 (a.length:Int)&&decide ((a.length:Int)<1099511627776))) (
   kn (List.replicate (a.length:Int).toNat (0:Int)) d b c a e f b c) none)
def Z8{ρ:Type}(N:Nat)(a b:LI)(c d:Int)(e:LI)(f g h i:Int)(kn:LI->LI->I3 (LI->I4 (Option ρ))):Option ρ :=
 kn a b 0 c d e f g h i
def Z12{ρ:Type}(N:Nat)(a h:LI)(b i c:Int)(j:LI)(d e f g:Int)(kn:LI->LI->I3 (LI->I4 (Option ρ)))(k0:LI->I4 (Option ρ)):Option ρ :=
 cond (lk N (decide (b<c)))
 (
  kn a h b i c j d e f g)
 (
  k0 a d e f g)
def Z16{ρ:Type}(N:Nat)(b c:LI)(a d e:Int)(f:LI)(g h i j:Int)(kn:LI->LI->I4 (LI->I4 (Option ρ))):Option ρ :=
 kn b c a a d e f g h i j
def Z18{ρ:Type}(N:Nat)(d b:LI)(a l c e:Int)(f:LI)(g h i j:Int)(kn:LI->LI->I4 (LI->I4 (Option ρ))):Option ρ :=
 cond (lk N (decide (a<c)))
 (
  cond (lk N (inB a b.length)) (
   kn d b a (b.getD a.toNat 0) c e f g h i j) none)
 (
  kn d b a l c e f g h i j)
def Z20{ρ:Type}(N:Nat)(a b:LI)(c d e f:Int)(g:LI)(h i j l:Int)(kn:LI->LI->I5 (LI->I4 (Option ρ))):Option ρ :=
 kn a b c d 0 e f g h i j l
def Z23{ρ:Type}(N:Nat)(h c:LI)(d i a b e:Int)(f:LI)(j l m o:Int)(kn:LI->LI->I5 (LI->I4 (Option ρ)))(k2:LI->LI->I3 (LI->I4 (Option ρ))):Option ρ :=
 cond (lk N (decide (a<b)))
 (
  cond (lk N (inB a c.length)) (
   cond (lk N (z0m.P (b,(e,f)) d a)) (
    cond (lk N (inB (w64 ((w64 (i*b))+(c.getD a.toNat 0))) h.length)) (
     kn (h.set (w64 ((w64 (i*b))+(c.getD a.toNat 0))).toNat (z0m.g (b,(e,f)) d a)) c d i (w64 (a+1)) b e f j l m o) none) none) none)
 (
  k2 h c d b e f j l m o)
def Z22L{ρ:Type}(N:Nat)(k2:LI->LI->I3 (LI->I4 (Option ρ))):Nat->LI->LI->Int->Int->Int->Int->Int->LI->Int->Int->Int->Int->Option ρ
 | 0,_,_,_,_,_,_,_,_,_,_,_,_=>none
 | M+1,a,b,c,d,e,f,g,h,i,j,l,m=>Z23 N a b c d e f g h i j l m (λa b c d e f g h i j l m=>Z22L N k2 M a b c d e f g h i j l m) k2
def Z22 N a b c d e f g h i j l m k2:=(Z22L N k2 N a b c d e f g h i j l m:Option ρ)
def Z21 N a b c d e f g h i j l m kn:=(Z22 N a b c d e f g h i j l m kn:Option ρ)
def Z19 N a b c d e f g h i j l kn:=(Z20 N a b c d e f g h i j l (λa b c d m e f g h i j l=>Z21 N a b c d m e f g h i j l kn):Option ρ)
def Z17 N a b c d e f g h i j l kn:=(Z18 N a b c d e f g h i j l (λa b c d e f g h i j l=>Z19 N a b c d e f g h i j l kn):Option ρ)
def Z15 N a b c d e f g h i j kn:=(Z16 N a b c d e f g h i j (λa b c l d e f g h i j=>Z17 N a b c l d e f g h i j kn):Option ρ)
def Z14 N a b c d e f g h i j kn:=(Z15 N a b c d e f g h i j kn:Option ρ)
def Z24{ρ:Type}(N:Nat)(a b:LI)(c d e:Int)(f:LI)(g h i j:Int)(kn:LI->LI->I3 (LI->I4 (Option ρ))):Option ρ :=
 kn a b (w64 (c+1)) d e f g h i j
def Z13 N a b c d e f g h i j kn:=(Z14 N a b c d e f g h i j (λa b c d e f g h i j=>Z24 N a b c d e f g h i j kn):Option ρ)
def Z11 N a b c d e f g h i j kn k0:=(Z12 N a b c d e f g h i j (λa b c d e f g h i j=>Z13 N a b c d e f g h i j kn) k0:Option ρ)
def Z10L{ρ:Type}(N:Nat)(k0:LI->I4 (Option ρ)):Nat->LI->LI->Int->Int->Int->LI->Int->Int->Int->Int->Option ρ
 | 0,_,_,_,_,_,_,_,_,_,_=>none
 | M+1,a,b,c,d,e,f,g,h,i,j=>Z11 N a b c d e f g h i j (λa b c d e f g h i j=>Z10L N k0 M a b c d e f g h i j) k0
def Z10 N a b c d e f g h i j k0:=(Z10L N k0 N a b c d e f g h i j:Option ρ)
def Z9 N a b c d e f g h i j kn:=(Z10 N a b c d e f g h i j kn:Option ρ)
def Z7 N a b c d e f g h i kn:=(Z8 N a b c d e f g h i (λa b j c d e f g h i=>Z9 N a b j c d e f g h i kn):Option ρ)
def Z25{ρ:Type}(N:Nat)(a:LI)(d e b c:Int)(kr:LI->Bool->I2 (Option ρ)):Option ρ :=
 kr a true b c
def Z6 N a f g h i b c d e kr:=(Z7 N a f g h i b c d e (λa b c d e=>Z25 N a b c d e kr):Option ρ)
def Z4 N a b c d e f kr:=(Z5 N a b c d e f (λg a b c d e f h i=>Z6 N g a b c d e f h i kr):Option ρ)
def Z2 N a b c d e f kr:=(Z3 N a b c d e f (λa b c d e f=>Z4 N a b c d e f kr) kr:Option ρ)
def Z0 N b a kr:=(Z1 N b a (λa c d e f g=>Z2 N a c d e f g kr):Option ρ)
def Spec:Prop:=∀ (v0:MT) (v1:LI),Ty.bd (.pair (.int .i64) (.pair (.int .i64) (.sl 0 (.int .i64)))) v0->Ty.bd (.sl 0 (.int .i64)) v1->∃N0,∀N,N0<=N->Z0 N v0 v1 (λv4_2 v5 v4_0 v4_1=>some ((),((v4_0,(v4_1,v4_2)),(v5,()))))=some ((),((g v0 v1).1,((g v0 v1).2,())))
section
variable {ρ : Type} {N : Nat} {m : Int × Int × List Int} {L : List Nat}
def at_g(hd:0<=m.1)(a b:Nat):z0m.g (m.1,(m.2.1,m.2.2)) (a:Int) (b:Int)=ent m a b:=z5t hd a b
def at_p(hd:z4q m=true){a b:Nat}(ha:a<m.2.1.toNat)(hb:b<m.1.toNat):z0m.P (m.1,(m.2.1,m.2.2)) (a:Int) (b:Int)=true:=zd9 hd ha hb
def cur(m:Int×Int×List Int)(L:List Nat)(st:List Int)(t:Nat):List Int:=zqi m.2.2.length t (z7w m.1.toNat L) (λp=>m.2.2.getD (z7w m.1.toNat L p) 0) (λp=>st.getD p 0)
def inner(hd:z4q m=true)(h1:L.Nodup)(h2:∀x∈L,x<m.1.toNat)(h3:L.length=m.1.toNat)(st:List Int)(k2:List Int->List Int->Int->Int->Int->List Int->Int->Int->Int->Int->Option ρ)(t0 t1 o0 o1:Int){i:Nat}(hi:i<m.2.1.toNat):∀(M j:Nat),j<=m.1.toNat->m.1.toNat-j<M ->
  Z22L N k2 M (cur m L st (i*m.1.toNat+j)) (z33 L) (i:Int) ((z85 m.1.toNat L i:Nat):Int) (j:Int) m.1 m.2.1 m.2.2 t0 t1 o0 o1=k2 (cur m L st (i*m.1.toNat+m.1.toNat)) (z33 L) (i:Int) m.1 m.2.1 m.2.2 t0 t1 o0 o1:=by
 obtain⟨n,r,hn,hr,hn1,hn5,hnr,hr8,hl⟩:=z13 hd
 have hnr':m.1.toNat<=m.2.1.toNat:=by omega
 intro M
 induction M with
 | zero=>intro j _ h;omega
 | succ M ih =>
  intro j hj hM
  simp only[Z22L,Z23]
  by_cases h:j<m.1.toNat
  ·have hx:=h2 _ (z18 (l:=L) (j:=j) 0 (by omega))
   have hrow:=zlm h1 h2 h3 hnr' hi
   have hlt:z85 m.1.toNat L i*m.1.toNat+L.getD j 0<m.2.2.length:=by
    have:=z9n (n:=m.1.toNat) (r:=m.2.1.toNat) hrow hx
    rw[hl]
    have e:m.2.1.toNat*m.1.toNat=r*n:=by rw[hn,hr];rfl
    omega
   have hidx:w64 (w64 (((z85 m.1.toNat L i:Nat):Int)*m.1)+((L.getD j 0:Nat):Int))=((z85 m.1.toNat L i*m.1.toNat+L.getD j 0:Nat):Int):=by
    have e:((z85 m.1.toNat L i:Nat):Int)*m.1=((z85 m.1.toNat L i*m.1.toNat:Nat):Int):=by rw[hn,Int.natCast_mul];simp
    have hb:z85 m.1.toNat L i*m.1.toNat<=8*5:=Nat.mul_le_mul (by omega) (by omega)
    have e2:w64 (((z85 m.1.toNat L i*m.1.toNat:Nat):Int))=((z85 m.1.toNat L i*m.1.toNat:Nat):Int):=z1r (by omega) (by omega)
    rw[e,e2,z1r (by omega) (by omega)]
    omega
   have hset:(cur m L st (i*m.1.toNat+j)).set (z85 m.1.toNat L i*m.1.toNat+L.getD j 0) (ent m i j)=cur m L st (i*m.1.toNat+(j+1)):=by
    have e:=zn3 (total:=m.2.2.length) (t:=i*m.1.toNat+j) (p:=z85 m.1.toNat L i*m.1.toNat+L.getD j 0) (back:=z7w m.1.toNat L) (F:=λp=>m.2.2.getD (z7w m.1.toNat L p) 0) (G:=λp=>st.getD p 0) hlt (zdk h1 h2 h3 hnr' h) (λq _ hq=>zof h1 h2 h3 hnr' h hq)
    simp only[zdk h1 h2 h3 hnr' h]at e
    exact e
   rw[ct (dt (by omega)),ct (z0u (by rw[z1p];omega)),ct (at_p hd hi h)]
   simp only[Int.toNat_natCast,z3i,hidx]
   rw[ct (z0u (by rw[cur,zao];exact hlt)),at_g (by omega),hset,z0w (by rw[z0k];omega)]
   exact ih (j+1) h (by omega)
  ·rw[cf (df (by omega)),show j=m.1.toNat by omega]
def outer(hN:10<=N)(hd:z4q m=true)(h1:L.Nodup)(h2:∀x∈L,x<m.1.toNat)(h3:L.length=m.1.toNat)(st:List Int)(k0:List Int->Int->Int->Int->Int->Option ρ)(t0 t1 o0 o1:Int):∀(M i:Nat),i<=m.2.1.toNat->m.2.1.toNat-i<M ->
  Z10L N k0 M (cur m L st (i*m.1.toNat)) (z33 L) (i:Int) m.1 m.2.1 m.2.2 t0 t1 o0 o1=k0 (cur m L st (m.2.1.toNat*m.1.toNat)) t0 t1 o0 o1:=by
 obtain⟨n,r,hn,hr,hn1,hn5,hnr,hr8,hl⟩:=z13 hd
 intro M
 induction M with
 | zero=>intro i _ h;omega
 | succ M ih =>
  intro i hi hM
  simp only[Z10L,Z11,Z12]
  by_cases h:i<m.2.1.toNat
  ·have hin:=inner (ρ:=ρ) (N:=N) hd h1 h2 h3 st (λout5_2 names1 i6 m2_0 m2_1 m2_2 t4_0 t4_1 out5_0 out5_1=>Z24 N out5_2 names1 i6 m2_0 m2_1 m2_2 t4_0 t4_1 out5_0 out5_1 (λout5_2 names1 i6 m2_0 m2_1 m2_2 t4_0 t4_1 out5_0 out5_1=>Z10L N k0 M out5_2 names1 i6 m2_0 m2_1 m2_2 t4_0 t4_1 out5_0 out5_1)) t0 t1 o0 o1 h N 0 (by omega) (by omega)
   rw[show((0:Nat):Int)=0 from rfl,Nat.add_zero]at hin
   have hnext:=ih (i+1) h (by omega)
   rw[Nat.add_mul,Nat.one_mul]at hnext
   rw[ct (dt (by omega))]
   simp only[Z13,Z14,Z15,Z16,Z17,Z18]
   by_cases hin':i<m.1.toNat
   ·rw[ct (dt (by omega)),ct (z0u (by rw[z1p];omega)),Int.toNat_natCast,z3i]
    rw[z85,if_pos hin']at hin
    simp only[Z19,Z20,Z21,Z22]
    rw[hin]
    simp only[Z24]
    rw[z0w (by rw[z0k];omega)]
    exact hnext
   ·rw[cf (df (by omega))]
    rw[z85,if_neg hin']at hin
    simp only[Z19,Z20,Z21,Z22]
    rw[hin]
    simp only[Z24]
    rw[z0w (by rw[z0k];omega)]
    exact hnext
  ·rw[cf (df (by omega)),show i=m.2.1.toNat by omega]
def cur_start(L:List Nat):cur m L (List.replicate m.2.2.length 0) 0=List.replicate m.2.2.length 0:=by
 unfold cur
 rw[ziv]
 exact zaz 0 (by simp)
def cur_end(hd:z4q m=true)(h1:L.Nodup)(h2:∀x∈L,x<m.1.toNat)(h3:L.length=m.1.toNat)(st:List Int):cur m L st (m.2.1.toNat*m.1.toNat)=(z71 m (z33 L)).2.2:=by
 obtain⟨n,r,hn,hr,hn1,hn5,hnr,hr8,hl⟩:=z13 hd
 have e:m.2.1.toNat*m.1.toNat=m.2.2.length:=by rw[hl,hn,hr];simp
 rw[e]
 unfold cur z71
 rw[z3p]
 exact ziw (λp hp=>by
  have:=zuc h1 h2 h3 (r:=m.2.1.toNat) (by omega) (by omega) (q:=p) (by omega)
  omega)
end
def ok:Spec:=λm names hb hv=>⟨10,λN hN=>by
 have e0:z1u.g (m.1,(m.2.1,m.2.2))=(z12 m&&!decide (z4y m=[])):=rfl
 have e1:z1l.g names m.1=z4g names m.1:=rfl
 simp only[Z0,Z1,Z2,Z3,e0,e1,g,z2c]
 cases h1:(z12 m&&!decide (z4y m=[]))
 ·rfl
 have hs:z12 m=true:=by
  simp only[Bool.and_eq_true]at h1
  exact h1.1
 have hd:=z1j hs
 cases hnm:z4g names m.1
 ·rfl
 obtain⟨L,rfl,g1,g2,g3⟩:=z6b hnm
 obtain⟨n,r,hn,hr,hn1,hn5,hnr,hr8,hl⟩:=z13 hd
 have hlen:m.2.2.length<=8*5:=by rw[hl];exact Nat.mul_le_mul hr8 hn5
 have hc:(leB 0 (m.2.2.length:Int)&&decide ((m.2.2.length:Int)<1099511627776))=true:=by rw[zh4 (by omega),dt (by omega)];rfl
 simp only[Bool.not_true,cond_false,Z4,Z5]
 rw[ct hc,ct hc]
 simp only[bo,z8w]
 rw[Int.toNat_natCast]
 simp only[Z6,Z7,Z8,Z9,Z10]
 have:=outer (ρ:=Unit×(Int×Int×List Int)×Bool×Unit) hN hd g1 g2 g3 (List.replicate m.2.2.length 0) (λout6_2 t4_0 t4_1 out6_0 out6_1=>Z25 N out6_2 t4_0 t4_1 out6_0 out6_1 (λt4_2 t5 t4_0 t4_1=>some ((),((t4_0,(t4_1,t4_2)),(t5,()))))) 0 0 m.1 m.2.1 N 0 (by omega) (by omega)
 rw[Nat.zero_mul,cur_start,cur_end hd g1 g2 g3]at this
 exact this⟩
end z03
end
end Go.Fw
namespace Go.Fw
section
variable {ρ : Type}
namespace z2u
def g(_:Int):Bool:=false
end z2u
namespace z2u
def Z0{ρ:Type}(N:Nat)(a:Int)(kr:Bool->Option ρ):Option ρ :=
 kr (lk N (!(decide (a=a))))
def Spec:Prop:=∀ (v0:Int),∃N0,∀N,N0<=N->Z0 N v0 (λv2=>some ((),(v2,())))=some ((),((g v0),()))
def ok:Spec:=λx=>⟨0,λN hN=>by simp[Z0,z2c,g]⟩
end z2u
end
end Go.Fw
namespace Go.Fw
section
variable {ρ : Type}
namespace z29
def g(x y:Int):Int:=if x=y then 0 else if x<y then -1 else 1
end z29
namespace z29
def Z0{ρ:Type}(N:Nat)(b a:Int)(kr:Int->Option ρ):Option ρ :=
 cond (lk N ((z2u.g b)))
 (
  cond (lk N ((z2u.g a)))
  (
   kr 0)
  (
   kr (-1)))
 (
  cond (lk N ((z2u.g a)))
  (
   kr 1)
  (
   cond (lk N (decide (b<a)))
   (
    kr (-1))
   (
    cond (lk N (decide (a<b)))
    (
     kr 1)
    (
     kr 0))))
def Spec:Prop:=∀ (v0 v1:Int),∃N0,∀N,N0<=N->Z0 N v0 v1 (λv4=>some ((),(v4,())))=some ((),((g v0 v1),()))
def ok:Spec:=λx y=>⟨0,λN hN=>by
 simp only[Z0,z2c,g,z2u.g,cond_false]
 by_cases h:x<y
 ·rw[dt h,if_neg (by omega),if_pos h];rfl
 ·rw[df h]
  by_cases h2:y<x
  ·rw[dt h2,if_neg (by omega),if_neg h];rfl
  ·rw[df h2,if_pos (by omega)];rfl⟩
end z29
end
end Go.Fw
namespace Go.Fw
section
variable {ρ : Type}
namespace z0j
abbrev g(a b:List Int):Int:=z79 a b
end z0j
namespace z0j
def Z1{ρ:Type}(N:Nat)(a b:LI)(kn:LI->LI->Option ρ):Option ρ :=
 kn a b
def Z4{ρ:Type}(N:Nat)(a b:LI)(kn:LI->LI->LI->I2 (Option ρ)):Option ρ :=
 kn a b a (a.length:Int) 0
def Z7{ρ:Type}(N:Nat)(d b c:LI)(e a:Int)(kn:LI->LI->LI->I2 (Option ρ))(k0:LI->LI->Option ρ)(kr:Int->Option ρ):Option ρ :=
 cond (lk N (decide (a<e)))
 (
  cond (lk N (inB a c.length)) (
   cond (lk N (decide ((b.length:Int)<=a)))
   (
    kr 1)
   (
    cond (lk N (inB a b.length)) (
     cond (lk N (!(decide ((z29.g (c.getD a.toNat 0) (b.getD a.toNat 0))=0))))
     (
      kr (z29.g (c.getD a.toNat 0) (b.getD a.toNat 0)))
     (
      kn d b c e (w64 (a+1)))) none)) none)
 (
  k0 d b)
def Z6L{ρ:Type}(N:Nat)(k0:LI->LI->Option ρ)(kr:Int->Option ρ):Nat->LI->LI->LI->Int->Int->Option ρ
 | 0,_,_,_,_,_=>none
 | M+1,a,b,c,d,e=>Z7 N a b c d e (λa b c d e=>Z6L N k0 kr M a b c d e) k0 kr
def Z6 N a b c d e k0 kr:=(Z6L N k0 kr N a b c d e:Option ρ)
def Z5 N a b c d e kn kr:=(Z6 N a b c d e kn kr:Option ρ)
def Z3 N a b kn kr:=(Z4 N a b (λa b c d e=>Z5 N a b c d e kn kr):Option ρ)
def Z8{ρ:Type}(N:Nat)(a b:LI)(kr:Int->Option ρ):Option ρ :=
 cond (lk N (decide ((a.length:Int)<(b.length:Int))))
 (
  kr (-1))
 (
  kr 0)
def Z2 N a b kr:=(Z3 N a b (λa b=>Z8 N a b kr) kr:Option ρ)
def Z0 N a b kr:=(Z1 N a b (λa b=>Z2 N a b kr):Option ρ)
def Spec:Prop:=∀ (v0 v1:LI),Ty.bd (.sl 0 (.int .i64)) v0->Ty.bd (.sl 0 (.int .i64)) v1->∃N0,∀N,N0<=N->Z0 N v0 v1 (λv4=>some ((),(v4,())))=some ((),((g v0 v1),()))
def loop{ρ:Type}(N:Nat)(k0:List Int->List Int->Option ρ)(kr:Int->Option ρ)(a b:List Int)(ha:a.length<=maxLen)(h0:k0 a b=if a.length<b.length then kr (-1)else kr 0):∀(M j:Nat),j<=a.length->j<=b.length->a.length-j<M ->
  Z6L N k0 kr M a b a (a.length:Int) (j:Int)=kr (z79 (a.drop j) (b.drop j)):=by
 intro M
 induction M with
 | zero=>intro j _ _ h;omega
 | succ M ih =>
  intro j hj hb hM
  simp only[Z6L,Z7]
  by_cases h:j<a.length
  ·rw[ct (dt (by omega)),ct (z0u h),z2d 0 h]
   by_cases h2:j<b.length
   ·rw[cf (df (by omega)),ct (z0u h2),Int.toNat_natCast,z0w (by omega),z2d (l:=b) 0 h2,z79,ih (j+1) h h2 (by omega)]
    by_cases e:a.getD j 0=b.getD j 0
    ·rw[cf (nf (by rw[z29.g,if_pos e])),if_pos e]
    ·rw[ct (nt (by simp only[z29.g,if_neg e];split<;>omega)),if_neg e]
     simp only[z29.g,if_neg e]
   ·rw[ct (dt (by omega)),List.drop_of_length_le (l:=b) (by omega)]
    rfl
  ·rw[cf (df (by omega)),List.drop_of_length_le (by omega),h0]
   by_cases h2:j<b.length
   ·rw[if_pos (by omega),z2d (l:=b) 0 h2];rfl
   ·rw[if_neg (by omega),List.drop_of_length_le (l:=b) (by omega)];rfl
def ok:Spec:=λa b ha hb=>⟨a.length+1,λN hN=>by
 simp only[Z1,Z4,Z7,Z6,Z5,Z3,Z8,Z2,Z0]
 refine(loop N _ (λt=>some ((),(t,()))) a b ha.1 ?_ N 0 (by omega) (by omega) (by omega)).trans rfl
 by_cases h:a.length<b.length
 ·rw[ct (dt (by omega)),if_pos h]
 ·rw[cf (df (by omega)),if_neg h]⟩
end z0j
end
end Go.Fw
namespace Go.Fw
section
variable {ρ : Type}
namespace z04
def g(m:Int×Int×List Int):(Int×Int×List Int)×Bool:=if((z12 m&&!decide (z4y m=[]))&&decide (m.2.1=m.1))=true then(canI m,true)else((0,0,[]),false)
end z04
namespace z04
def Z1{ρ:Type}(N:Nat)(a:MT)(kn:I2 (LI->I2 (Option ρ))):Option ρ :=
 kn a.1 a.2.1 a.2.2 0 0
def Z3{ρ:Type}(N:Nat)(a b:Int)(c:LI)(d e:Int)(kn:I2 (LI->I2 (Option ρ)))(kr:LI->Bool->I2 (Option ρ)):Option ρ :=
 cond (!(lk N ((z1u.g (a,(b,c))))))
 (
  kr ([]:List Int) false 0 0)
 (
  cond (lk N (!(decide (b=a))))
  (
   kr ([]:List Int) false 0 0)
  (
   kn a b c d e))
def Z5{ρ:Type}(N:Nat)(a b:Int)(c:LI)(d e:Int)(kn:I2 (LI->I4 (LI->Option ρ))):Option ρ :=
 kn a b c d e a b c
def Z8{ρ:Type}(N:Nat)(a b:Int)(c:LI)(d e f h:Int)(i:LI)(kn:LL->I4 (LI->I4 (LI->Option ρ))):Option ρ :=
 cond (lk N (z0h.P a)) (
  kn (z0h.g a) ((z0h.g a).length:Int) 0 a b c d e f h i) none
def Z11{ρ:Type}(N:Nat)(b:LL)(j:LI)(f a c d:Int)(e:LI)(h i l m:Int)(kn:LL->LI->I4 (LI->I4 (Option ρ)))(k0:LI->I4 (Option ρ)):Option ρ :=
 cond (lk N (decide (a<f)))
 (
  cond (lk N (inB a b.length)) (
   cond (lk N (decide (a=0)))
   (
    kn b (z03.g (c,(d,e)) (b.getD a.toNat [])).1.2.2 f (w64 (a+1)) c d e h i (z03.g (c,(d,e)) (b.getD a.toNat [])).1.1 (z03.g (c,(d,e)) (b.getD a.toNat [])).1.2.1)
   (
    cond (lk N (decide ((z0j.g (z03.g (c,(d,e)) (b.getD a.toNat [])).1.2.2 j)<0)))
    (
     kn b (z03.g (c,(d,e)) (b.getD a.toNat [])).1.2.2 f (w64 (a+1)) c d e h i (z03.g (c,(d,e)) (b.getD a.toNat [])).1.1 (z03.g (c,(d,e)) (b.getD a.toNat [])).1.2.1)
    (
     kn b j f (w64 (a+1)) c d e h i l m))) none)
 (
  k0 j h i l m)
def Z12{ρ:Type}(N:Nat)(b:LL)(f a c d:Int)(e:LI)(h i l m:Int)(j:LI)(kn:LL->LI->I4 (LI->I4 (Option ρ)))(k0:LI->I4 (Option ρ)):Option ρ :=
 cond (lk N (decide (a<f)))
 (
  cond (lk N (inB a b.length)) (
   cond (lk N (decide (a=0)))
   (
    kn b (z03.g (c,(d,e)) (b.getD a.toNat [])).1.2.2 f (w64 (a+1)) c d e h i (z03.g (c,(d,e)) (b.getD a.toNat [])).1.1 (z03.g (c,(d,e)) (b.getD a.toNat [])).1.2.1)
   (
    cond (lk N (decide ((z0j.g (z03.g (c,(d,e)) (b.getD a.toNat [])).1.2.2 j)<0)))
    (
     kn b (z03.g (c,(d,e)) (b.getD a.toNat [])).1.2.2 f (w64 (a+1)) c d e h i (z03.g (c,(d,e)) (b.getD a.toNat [])).1.1 (z03.g (c,(d,e)) (b.getD a.toNat [])).1.2.1)
    (
     none))) none)
 (
  none)
def Z10L{ρ:Type}(N:Nat)(k0:LI->I4 (Option ρ)):Nat->LL->LI->Int->Int->Int->Int->LI->Int->Int->Int->Int->Option ρ
 | 0,_,_,_,_,_,_,_,_,_,_,_=>none
 | M+1,a,b,c,d,e,f,g,h,i,j,l=>Z11 N a b c d e f g h i j l (λa b c d e f g h i j l=>Z10L N k0 M a b c d e f g h i j l) k0
def Z10 N a b c d e f g h i j l k0:=(Z12 N a b c d e f g h i j l (λa l b c d e f g h i j=>Z10L N k0 N a l b c d e f g h i j) k0:Option ρ)
def Z9 N a b c d e f g h i j l kn:=(Z10 N a b c d e f g h i j l kn:Option ρ)
def Z7 N a b c d e f g h kn:=(Z8 N a b c d e f g h (λi j l a b c d e f g h=>Z9 N i j l a b c d e f g h kn):Option ρ)
def Z13{ρ:Type}(N:Nat)(a:LI)(d e b c:Int)(kr:LI->Bool->I2 (Option ρ)):Option ρ :=
 kr a true b c
def Z6 N f g h a b c d e kr:=(Z7 N f g h a b c d e (λe a b c d=>Z13 N e a b c d kr):Option ρ)
def Z4 N a b c d e kr:=(Z5 N a b c d e (λa b c d e f g h=>Z6 N a b c d e f g h kr):Option ρ)
def Z2 N a b c d e kr:=(Z3 N a b c d e (λa b c d e=>Z4 N a b c d e kr) kr:Option ρ)
def Z0 N a kr:=(Z1 N a (λb c d e f=>Z2 N b c d e f kr):Option ρ)
def Spec:Prop:=∀ (v0:MT),Ty.bd (.pair (.int .i64) (.pair (.int .i64) (.sl 0 (.int .i64)))) v0->∃N0,∀N,N0<=N->Z0 N v0 (λv2_2 v3 v2_0 v2_1=>some ((),((v2_0,(v2_1,v2_2)),(v3,()))))=some ((),((g v0).1,((g v0).2,())))
def ren_at{m:Int×Int×List Int}(hok:(z12 m&&!decide (z4y m=[]))=true){o:List Int}(ho:z4g o m.1=true):z03.g (m.1,(m.2.1,m.2.2)) o=(z71 m o,true):=by
 unfold z03.g
 rw[if_pos]
 rw[show(m.1,(m.2.1,m.2.2))=m from rfl,hok,ho]
 rfl
def loop{ρ:Type}{N:Nat}{m:Int×Int×List Int}(hok:(z12 m&&!decide (z4y m=[]))=true){l:List (List Int)}(hl:∀o∈l,z4g o m.1=true)(hl2:l.length<=4000)(k0:List Int->Int->Int->Int->Int->Option ρ)(t0 t1:Int) :
  ∀(M j:Nat) (b:List Int),1<=j->j<=l.length->l.length-j<M->Z10L N k0 M l b (l.length:Int) (j:Int) m.1 m.2.1 m.2.2 t0 t1 m.1 m.2.1=k0 (za2 (z6t m) b (l.drop j)) t0 t1 m.1 m.2.1:=by
 intro M
 induction M with
 | zero=>intro j b _ _ h;omega
 | succ M ih =>
  intro j b h1 hj hM
  simp only[Z10L,Z11]
  by_cases h:j<l.length
  ·have e0:=ren_at hok (hl _ (z18 (l:=l) [] h))
   have e1:decide ((z0j.g (z6t m (l.getD j [])) b)<0)=z3e (z6t m (l.getD j [])) b:=zb0 _ _
   rw[ct (dt (by omega)),ct (z0u h),cf (df (by omega)),Int.toNat_natCast,e0]
   have e2:((z71 m (l.getD j []),true):(Int×Int×List Int)×Bool).1.2.2=z6t m (l.getD j []):=rfl
   have e3:((z71 m (l.getD j []),true):(Int×Int×List Int)×Bool).1.1=m.1:=rfl
   have e4:((z71 m (l.getD j []),true):(Int×Int×List Int)×Bool).1.2.1=m.2.1:=rfl
   rw[e2,e3,e4,e1,z2c,z0w (by rw[z0k];omega),ih (j+1) _ (by omega) h (by omega),ih (j+1) _ (by omega) h (by omega),z2d (l:=l) [] h]
   have e5:za2 (z6t m) b (l.getD j []::l.drop (j+1))=za2 (z6t m) (if z3e (z6t m (l.getD j [])) b=true then z6t m (l.getD j [])else b) (l.drop (j+1)):=rfl
   rw[e5]
   cases z3e (z6t m (l.getD j [])) b<;>rfl
  ·rw[cf (df (by omega)),List.drop_of_length_le (by omega)]
   rfl
def ok:Spec:=λm hb=>⟨5000,λN hN=>by
 have e0:z1u.g (m.1,(m.2.1,m.2.2))=(z12 m&&!decide (z4y m=[])):=rfl
 simp only[Z0,Z1,Z2,Z3,e0,z2c,g]
 cases h1:(z12 m&&!decide (z4y m=[]))
 ·rfl
 by_cases h2:m.2.1=m.1
 ·have hs:z12 m=true:=by
   simp only[Bool.and_eq_true]at h1
   exact h1.1
  have hd:=z1j hs
  obtain⟨n,r,hn,hr',hn1,hn5,hnr,hr8,hl⟩:=z13 hd
  have e1:m.1.toNat=n:=by omega
  have hOP:z0h.P m.1=true:=by
   simp only[z0h.P,Bool.and_eq_true,decide_eq_true_eq]
   exact⟨by omega,by omega⟩
  have hO:z0h.g m.1=zfw n:=by rw[z0h.g,e1]
  have hcnt:=zfv hn5
  have hnm:∀o∈zfw n,z4g o m.1=true:=λo ho=>by
   rw[hn]
   exact z74 hn5 ho
  have hid:=znh hn5
  rw[dt h2]
  simp only[Bool.not_true,cond_false,Z4,Z5,Z6,Z7,Z8,hOP,z2c,cond_true,hO]
  simp only[Z9,Z10,Z12]
  have hca:canI m=(m.1,m.2.1,minI (z6t m) (zfw n)):=by rw[canI,e1]
  rw[hca]
  generalize zfw n=O at hcnt hnm hid
  cases O with
  | nil=>cases hid
  | cons o os =>
   have e2:=ren_at h1 (hnm o (List.mem_cons_self ..))
   have e3:(o::os).getD (0:Int).toNat []=o:=rfl
   rw[ct (dt (by simp)),ct (show inB 0 (o::os).length=true from z0u (j:=0) (by simp)),ct (show decide True=true from rfl),e3,e2]
   have hlp:=loop (ρ:=Unit×(Int×Int×List Int)×Bool×Unit) (N:=N) h1 hnm (by omega) (λbest4_2 t2_0 t2_1 best4_0 best4_1=>Z13 N best4_2 t2_0 t2_1 best4_0 best4_1 (λt2_2 t3 t2_0 t2_1=>some ((),((t2_0,(t2_1,t2_2)),(t3,()))))) 0 0 N 1 (z6t m o) (by omega) (by simp) (by omega)
   exact hlp
 ·rw[df h2]
  rfl⟩
end z04
end
end Go.Fw
namespace Go.Fw
section
variable {ρ : Type}
namespace strconv_Itoa
def g(n:Int):ByteArray:=z5j n
def P(n:Int):Bool:=zl8 n
end strconv_Itoa
namespace strconv_Itoa
def ok:True:=trivial
end strconv_Itoa
end
end Go.Fw
namespace Go.Fw
section
variable {ρ : Type}
namespace z23
def g(n:Int):ByteArray:=z5j n
def P(n:Int):Bool:=zl8 n
end z23
namespace z23
def Z0{ρ:Type}(N:Nat)(a:Int)(kr:ByteArray->Option ρ):Option ρ :=
 cond (lk N (strconv_Itoa.P a)) (
  kr (strconv_Itoa.g a)) none
def Spec:Prop:=∀ (v0:Int),P v0=true->∃N0,∀N,N0<=N->Z0 N v0 (λv2=>some ((),(v2,())))=some ((),((g v0),()))
def ok:Spec:=λn hp=>⟨0,λN hN=>by
 simp only[Z0]
 rw[ct (show strconv_Itoa.P n=true from hp)]
 rfl⟩
end z23
end
end Go.Fw
namespace Go.Fw
section
variable {ρ : Type}
namespace strings_Join
def g(xs:List ByteArray)(sep:ByteArray):ByteArray:=⟨(Lib.join (xs.map (·.data.toList)) sep.data.toList).toArray⟩
def P(xs:List ByteArray)(sep:ByteArray):Bool:=Nat.ble xs.length 140737488355328&&Nat.ble (Lib.join (xs.map (·.data.toList)) sep.data.toList).length 140737488355328
end strings_Join
namespace strings_Join
def ok:True:=trivial
end strings_Join
end
end Go.Fw
namespace Go.Fw
section
variable {ρ : Type}
namespace z0r
def g(l:List Int):ByteArray:=z4v l
def P(l:List Int):Bool:=rowP l
end z0r
namespace z0r
def Z1{ρ:Type}(N:Nat)(a:LI)(kn:LI->Option ρ):Option ρ :=
 kn a
def Z3{ρ:Type}(N:Nat)(a:LI)(kn:LI->Option ρ):Option ρ :=
 kn a
def Z6{ρ:Type}(N:Nat)(a:LI)(kn:LI->I2 (Option ρ)):Option ρ :=
 kn a (a.length:Int) 0
def Z9{ρ:Type}(N:Nat)(c:List ByteArray)(b:LI)(d a:Int)(kn:List ByteArray->LI->I2 (Option ρ))(k0:List ByteArray->Option ρ):Option ρ :=
 cond (lk N (decide (a<d)))
 (
  cond (lk N (inB a b.length)) (
   cond (lk N (z23.P (b.getD a.toNat 0))) (
    cond (lk N (Nat.blt (c.length+([(z23.g (b.getD a.toNat 0))]:List ByteArray).length) 1099511627776)) (
     kn (c++([(z23.g (b.getD a.toNat 0))]:List ByteArray)) b d (w64 (a+1))) none) none) none)
 (
  k0 c)
def Z8L{ρ:Type}(N:Nat)(k0:List ByteArray->Option ρ):Nat->List ByteArray->LI->Int->Int->Option ρ
 | 0,_,_,_,_=>none
 | M+1,a,b,c,d=>Z9 N a b c d (λa b c d=>Z8L N k0 M a b c d) k0
def Z8 N a b c k0:=(Z8L N k0 N ([]:List ByteArray) a b c:Option ρ)
def Z7 N a b c kn:=(Z8 N a b c kn:Option ρ)
def Z5 N a kn:=(Z6 N a (λb c d=>Z7 N b c d kn):Option ρ)
def Z10{ρ:Type}(N:Nat)(a:List ByteArray)(kr:ByteArray->Option ρ):Option ρ :=
 cond (lk N (strings_Join.P a (⟨#[32]⟩:ByteArray))) (
  kr (strings_Join.g a (⟨#[32]⟩:ByteArray))) none
def Z4 N a kr:=(Z5 N a (λb=>Z10 N b kr):Option ρ)
def Z2 N a kr:=(Z3 N a (λa=>Z4 N a kr):Option ρ)
def Z0 N a kr:=(Z1 N a (λa=>Z2 N a kr):Option ρ)
def Spec:Prop:=∀ (v0:LI),Ty.bd (.sl 0 (.int .i64)) v0->P v0=true->∃N0,∀N,N0<=N->Z0 N v0 (λv2=>some ((),(v2,())))=some ((),((g v0),()))
def loop{ρ:Type}{N:Nat}(k0:List ByteArray->Option ρ){l:List Int}(hp:rowP l=true):∀(M j:Nat),j<=l.length->l.length-j<M->Z8L N k0 M ((l.take j).map z5j) l (l.length:Int) (j:Int)=k0 (l.map z5j):=by
 simp only[rowP,Bool.and_eq_true,decide_eq_true_eq]at hp
 intro M
 induction M with
 | zero=>intro j _ h;omega
 | succ M ih =>
  intro j hj hM
  simp only[Z8L,Z9]
  by_cases h:j<l.length
  ·have h1:z23.P (l.getD j 0)=true:=List.all_eq_true.1 hp.2 _ (z18 0 h)
   have h2:z23.g (l.getD j 0)=z5j (l.getD j 0):=rfl
   have h3:∀x:ByteArray,Nat.blt (((l.take j).map z5j).length+([x]:List ByteArray).length) 1099511627776=true:=λx=>Nat.ble_eq_true_of_le (by simp;omega)
   rw[ct (dt (by omega)),ct (z0u h),Int.toNat_natCast,ct h1,h2,ct (h3 _),z0w (by rw[z0k];omega)]
   have e:(l.take j).map z5j++[z5j (l.getD j 0)]=(l.take (j+1)).map z5j:=by rw[<-zdn 0 h,List.map_append];rfl
   rw[e]
   exact ih (j+1) h (by omega)
  ·rw[cf (df (by omega)),List.take_of_length_le (by omega)]
def ok:Spec:=λl hb hp=>⟨l.length+1,λN hN=>by
 have hp':=hp
 simp only[P,rowP,Bool.and_eq_true,decide_eq_true_eq]at hp'
 simp only[Z1,Z3,Z6,Z9,Z8,Z7,Z5,Z10,Z4,Z2,Z0]
 refine(loop _ hp N 0 (Nat.zero_le _) (by omega)).trans ?_
 have e:((l.map z5j).map (·.data.toList))=l.map Lib.itoa:=by
  rw[List.map_map]
  exact List.map_congr_left λn _=>zbp n
 have hlen:=zjp hp'.2
 have e2:(⟨#[32]⟩:ByteArray).data.toList=[32]:=rfl
 have hP:strings_Join.P (l.map z5j) ⟨#[32]⟩=true:=by
  simp only[strings_Join.P,e,e2,Bool.and_eq_true,List.length_map]
  exact⟨Nat.ble_eq_true_of_le (by omega),Nat.ble_eq_true_of_le (show(z4i l).length<=_ by omega)⟩
 have hg:strings_Join.g (l.map z5j) ⟨#[32]⟩=z4v l:=by
  simp only[strings_Join.g,e,e2]
  rfl
 rw[ct hP,hg]
 rfl⟩
end z0r
end
end Go.Fw
namespace Go.Fw
section
variable {ρ : Type}
namespace z0e
def P(m:Int×Int×List Int)(k:Int):Bool:=z12 m&&(decide (0<=k)&&decide (k<m.1))
def g(m:Int×Int×List Int)(k:Int):Int×Int×List Int:=z5p m k.toNat
end z0e
namespace z0e
def Z1{ρ:Type}(N:Nat)(a:MT)(b:Int)(kn:I3 (LI->I2 (Option ρ))):Option ρ :=
 kn b a.1 a.2.1 a.2.2 0 0
def Z3{ρ:Type}(N:Nat)(d b c:Int)(a:LI)(e f:Int)(kn:LI->I3 (LI->I4 (Option ρ))):Option ρ :=
 zub (
  cond (lk N (z0i.P a)) (
   bo (
    kn (z0i.g a) d b c a e f b c)) none)
 (
  cond (lk N (z0i.P a)) (
   kn (z0i.g a) d b c a e f b c) none)
def Z6{ρ:Type}(N:Nat)(a:LI)(b c d:Int)(e:LI)(f g h i:Int)(kn:LI->I4 (LI->I4 (Option ρ))):Option ρ :=
 kn a b 0 c d e f g h i
def Z10{ρ:Type}(N:Nat)(a:LI)(h b i c:Int)(j:LI)(d e f g:Int)(kn:LI->I4 (LI->I4 (Option ρ)))(k0:LI->I4 (Option ρ)):Option ρ :=
 cond (lk N (decide (b<c)))
 (
  kn a h b i c j d e f g)
 (
  k0 a d e f g)
def Z14{ρ:Type}(N:Nat)(a:LI)(b c d e:Int)(f:LI)(g h i j:Int)(kn:LI->I5 (LI->I4 (Option ρ))):Option ρ :=
 kn a b c 0 d e f g h i j
def Z18{ρ:Type}(N:Nat)(b:LI)(c d e a f:Int)(g:LI)(h i j l:Int)(kn:LI->I5 (LI->I4 (Option ρ)))(k2:LI->I4 (LI->I4 (Option ρ))):Option ρ :=
 cond (lk N (decide (e<a)))
 (
  kn b c d e a f g h i j l)
 (
  k2 b c d a f g h i j l)
def Z22{ρ:Type}(N:Nat)(d:LI)(e a b c f:Int)(g:LI)(h i j l:Int)(kn:LI->I6 (LI->I4 (Option ρ))):Option ρ :=
 cond (lk N (inB (w64 ((w64 (a*c))+b)) d.length)) (
  kn d e a b (w64 ((w64 (a*c))+b)) c f g h i j l) none
def Z24{ρ:Type}(N:Nat)(h:LI)(a e f i b c:Int)(d:LI)(j l m o:Int)(kn:LI->I8 (LI->I4 (Option ρ))):Option ρ :=
 cond (lk N (z0m.P (b,(c,d)) e a)) (
  cond (lk N (z0m.P (b,(c,d)) a f)) (
   kn h a e f i (z0m.g (b,(c,d)) e a) (z0m.g (b,(c,d)) a f) b c d j l m o) none) none
def Z27{ρ:Type}(N:Nat)(d:LI)(a b c e f g h i:Int)(j:LI)(l m o p:Int)(kn:LI->I6 (Bool->I2 (LI->I4 (Option ρ)))):Option ρ :=
 cond (lk N (decide (b=a)))
 (
  kn d a b c e f g true h i j l m o p)
 (
  kn d a b c e f g (lk N (decide (c=a))) h i j l m o p)
def Z28{ρ:Type}(N:Nat)(a:LI)(b c d e o p:Int)(q:Bool)(f g:Int)(h:LI)(i j l m:Int)(kn:LI->I5 (LI->I4 (Option ρ))):Option ρ :=
 cond (q)
 (
  kn (a.set e.toNat (w64 (0-(a.getD e.toNat 0)))) b c d f g h i j l m)
 (
  cond (lk N (decide (0<o)))
  (
   cond (lk N (decide (0<p)))
   (
    kn (a.set e.toNat (w64 ((a.getD e.toNat 0)+(w64 (o*p))))) b c d f g h i j l m)
   (
    cond (lk N (decide (o<0)))
    (
     cond (lk N (decide (p<0)))
     (
      kn (a.set e.toNat (w64 ((a.getD e.toNat 0)-(w64 (o*p))))) b c d f g h i j l m)
     (
      kn a b c d f g h i j l m))
    (
     kn a b c d f g h i j l m)))
  (
   cond (lk N (decide (o<0)))
   (
    cond (lk N (decide (p<0)))
    (
     kn (a.set e.toNat (w64 ((a.getD e.toNat 0)-(w64 (o*p))))) b c d f g h i j l m)
    (
     kn a b c d f g h i j l m))
   (
    kn a b c d f g h i j l m)))
def Z26 N a b c d e f g h i j l m o p kn:=(Z27 N a b c d e f g h i j l m o p (λa b c d e f g q h i j l m o p=>Z28 N a b c d e f g q h i j l m o p kn):Option ρ)
def Z25 N a b c d e f g h i j l m o p kn:=(Z26 N a b c d e f g h i j l m o p kn:Option ρ)
def Z23 N a b c d e f g h i j l m kn:=(Z24 N a b c d e f g h i j l m (λa b c d e o p f g h i j l m=>Z25 N a b c d e o p f g h i j l m kn):Option ρ)
def Z21 N a b c d e f g h i j l kn:=(Z22 N a b c d e f g h i j l (λa b c d m e f g h i j l=>Z23 N a b c d m e f g h i j l kn):Option ρ)
def Z20 N a b c d e f g h i j l kn:=(Z21 N a b c d e f g h i j l kn:Option ρ)
def Z29{ρ:Type}(N:Nat)(a:LI)(b c d e f:Int)(g:LI)(h i j l:Int)(kn:LI->I5 (LI->I4 (Option ρ))):Option ρ :=
 kn a b c (w64 (d+1)) e f g h i j l
def Z19 N a b c d e f g h i j l kn:=(Z20 N a b c d e f g h i j l (λa b c d e f g h i j l=>Z29 N a b c d e f g h i j l kn):Option ρ)
def Z17 N a b c d e f g h i j l kn k2:=(Z18 N a b c d e f g h i j l (λa b c d e f g h i j l=>Z19 N a b c d e f g h i j l kn) k2:Option ρ)
def Z16L{ρ:Type}(N:Nat)(k2:LI->I4 (LI->I4 (Option ρ))):Nat->LI->Int->Int->Int->Int->Int->LI->Int->Int->Int->Int->Option ρ
 | 0,_,_,_,_,_,_,_,_,_,_,_=>none
 | M+1,a,b,c,d,e,f,g,h,i,j,l=>Z17 N a b c d e f g h i j l (λa b c d e f g h i j l=>Z16L N k2 M a b c d e f g h i j l) k2
def Z16 N a b c d e f g h i j l k2:=(Z16L N k2 N a b c d e f g h i j l:Option ρ)
def Z15 N a b c d e f g h i j l kn:=(Z16 N a b c d e f g h i j l kn:Option ρ)
def Z13 N a b c d e f g h i j kn:=(Z14 N a b c d e f g h i j (λa b c l d e f g h i j=>Z15 N a b c l d e f g h i j kn):Option ρ)
def Z12 N a b c d e f g h i j kn:=(Z13 N a b c d e f g h i j kn:Option ρ)
def Z30{ρ:Type}(N:Nat)(a:LI)(b c d e:Int)(f:LI)(g h i j:Int)(kn:LI->I4 (LI->I4 (Option ρ))):Option ρ :=
 kn a b (w64 (c+1)) d e f g h i j
def Z11 N a b c d e f g h i j kn:=(Z12 N a b c d e f g h i j (λa b c d e f g h i j=>Z30 N a b c d e f g h i j kn):Option ρ)
def Z9 N a b c d e f g h i j kn k0:=(Z10 N a b c d e f g h i j (λa b c d e f g h i j=>Z11 N a b c d e f g h i j kn) k0:Option ρ)
def Z8L{ρ:Type}(N:Nat)(k0:LI->I4 (Option ρ)):Nat->LI->Int->Int->Int->Int->LI->Int->Int->Int->Int->Option ρ
 | 0,_,_,_,_,_,_,_,_,_,_=>none
 | M+1,a,b,c,d,e,f,g,h,i,j=>Z9 N a b c d e f g h i j (λa b c d e f g h i j=>Z8L N k0 M a b c d e f g h i j) k0
def Z8 N a b c d e f g h i j k0:=(Z8L N k0 N a b c d e f g h i j:Option ρ)
def Z7 N a b c d e f g h i j kn:=(Z8 N a b c d e f g h i j kn:Option ρ)
def Z5 N a b c d e f g h i kn:=(Z6 N a b c d e f g h i (λa b j c d e f g h i=>Z7 N a b j c d e f g h i kn):Option ρ)
def Z31{ρ:Type}(N:Nat)(a:LI)(d e b c:Int)(kr:LI->I2 (Option ρ)):Option ρ :=
 kr a b c
def Z4 N a f g h i b c d e kr:=(Z5 N a f g h i b c d e (λa b c d e=>Z31 N a b c d e kr):Option ρ)
def Z2 N a b c d e f kr:=(Z3 N a b c d e f (λg a b c d e f h i=>Z4 N g a b c d e f h i kr):Option ρ)
def Z0 N b a kr:=(Z1 N b a (λa c d e f g=>Z2 N a c d e f g kr):Option ρ)
def Spec:Prop:=∀ (v0:MT) (v1:Int),Ty.bd (.pair (.int .i64) (.pair (.int .i64) (.sl 0 (.int .i64)))) v0->P v0 v1=true->∃N0,∀N,N0<=N->Z0 N v0 v1 (λv4_2 v4_0 v4_1=>some ((),((v4_0,(v4_1,v4_2)),())))=some ((),((g v0 v1),()))
section
variable {ρ : Type} {N : Nat} {m : Int × Int × List Int} {k : Nat}
def at_g(hd:0<=m.1)(a b:Nat):z0m.g (m.1,(m.2.1,m.2.2)) (a:Int) (b:Int)=ent m a b:=z5t hd a b
def at_p(hd:z4q m=true){a b:Nat}(ha:a<m.2.1.toNat)(hb:b<m.1.toNat):z0m.P (m.1,(m.2.1,m.2.2)) (a:Int) (b:Int)=true:=zd9 hd ha hb
def cur(m:Int×Int×List Int)(k p:Nat):List Int:=zl6 m.2.2.length p (mutF m k) (λp=>m.2.2.getD p 0)
def inner(hs:z12 m=true)(hk:k<m.1.toNat)(k2:List Int->Int->Int->Int->Int->List Int->Int->Int->Int->Int->Option ρ)(t0 t1 o0 o1:Int){i:Nat}(hi:i<m.2.1.toNat):∀(M j:Nat),j<=m.1.toNat->m.1.toNat-j<M ->
  Z16L N k2 M (cur m k (i*m.1.toNat+j)) (k:Int) (i:Int) (j:Int) m.1 m.2.1 m.2.2 t0 t1 o0 o1=k2 (cur m k (i*m.1.toNat+m.1.toNat)) (k:Int) (i:Int) m.1 m.2.1 m.2.2 t0 t1 o0 o1:=by
 have hd:=z1j hs
 obtain⟨n,r,hn,hr,hn1,hn5,hnr,hr8,hl⟩:=z13 hd
 intro M
 induction M with
 | zero=>intro j _ h;omega
 | succ M ih =>
  intro j hj hM
  simp only[Z16L,Z17,Z18]
  by_cases h:j<m.1.toNat
  ·have hlt:i*m.1.toNat+j<m.2.2.length:=by
    have:=z9n (n:=n) (r:=r) (i:=i) (j:=j) (by omega) (by omega)
    rw[hl,hn];exact this
   have hidx:w64 (w64 ((i:Int)*m.1)+(j:Int))=((i*m.1.toNat+j:Nat):Int):=by
    have e:(i:Int)*m.1=((i*m.1.toNat:Nat):Int):=by rw[hn,Int.natCast_mul];simp
    have hb:i*m.1.toNat<=8*5:=Nat.mul_le_mul (by omega) (by omega)
    have e2:w64 (((i*m.1.toNat:Nat):Int))=((i*m.1.toNat:Nat):Int):=z1r (by omega) (by omega)
    rw[e,e2,z1r (by omega) (by omega)]
    omega
   have b1:=z3j hs i j
   have b2:=z3j hs i k
   have b3:=z3j hs k j
   have hbc:=zfy (f:=false) b1 b2 b3
   have hF:=zlt (m:=m) (k:=k) (i:=i) h
   have hcl:(cur m k (i*m.1.toNat+j)).length=m.2.2.length:=zak
   have hset:∀v,v=mutF m k (i*m.1.toNat+j)->(cur m k (i*m.1.toNat+j)).set (i*m.1.toNat+j) v=cur m k (i*m.1.toNat+(j+1)):=λv hv=>by
    subst hv
    exact zmz hlt
   have hsame:mutF m k (i*m.1.toNat+j)=ent m i j->cur m k (i*m.1.toNat+j)=cur m k (i*m.1.toNat+(j+1)):=λhv=>(zih hv).symm
   have iB:inB (((i*m.1.toNat+j:Nat):Int)) (cur m k (i*m.1.toNat+j)).length=true:=z0u (by rw[hcl];exact hlt)
   have pij:=at_p hd hi h
   rw[ct (dt (by omega))]
   simp only[Z19,Z20,Z21,Z22,Z23,Z24,Z25]
   have fin:∀c,c=cur m k (i*m.1.toNat+(j+1))->Z29 N c (k:Int) (i:Int) (j:Int) m.1 m.2.1 m.2.2 t0 t1 o0 o1 (λout5_2 k1 i6 j7 m2_0 m2_1 m2_2 t4_0 t4_1 out5_0 out5_1=>Z16L N k2 M out5_2 k1 i6 j7 m2_0 m2_1 m2_2 t4_0 t4_1 out5_0 out5_1)=k2 (cur m k (i*m.1.toNat+m.1.toNat)) (k:Int) (i:Int) m.1 m.2.1 m.2.2 t0 t1 o0 o1:=by
    intro c hc
    subst hc
    simp only[Z29]
    rw[z0w (by rw[z0k];omega)]
    exact ih (j+1) h (by omega)
   have hcg:(cur m k (i*m.1.toNat+j)).getD (i*m.1.toNat+j) 0=ent m i j:=by
    refine(upto_get hlt 0).trans ?_
    rw[if_neg (by omega)]
    rfl
   rw[hidx,ct iB,ct (at_p hd hi hk),ct (at_p hd (show k<m.2.1.toNat by omega) h),at_g (by omega),at_g (by omega)]
   simp only[Z26,Z27,Z28,Int.toNat_natCast,hcg]
   by_cases hik:i=k
   ·rw[ct (dt (by omega)),ct' rfl,z1r (by omega) (by omega)]
    refine fin _ (hset _ ?_)
    rw[hF,dt hik,Int.zero_sub];rfl
   ·rw[cf (df (by omega))]
    by_cases hjk:j=k
    ·rw[ct' (by rw[z2c];exact dt (by omega)),z1r (by omega) (by omega)]
     refine fin _ (hset _ ?_)
     rw[hF,df hik,dt hjk,Int.zero_sub];rfl
    ·rw[cf' (by rw[z2c];exact df (by omega))]
     rw[df hik,df hjk]at hF
     simp only[mutE,Bool.or_self,Bool.false_eq_true,if_false]at hF
     have wbc:w64 (ent m i k*ent m k j)=ent m i k*ent m k j:=z1r (by omega) (by omega)
     rw[wbc]
     by_cases a1:0<ent m i k
     ·rw[ct (dt a1)]
      by_cases a2:0<ent m k j
      ·rw[ct (dt a2),z1r (by omega) (by omega)]
       refine fin _ (hset _ ?_)
       rw[hF,if_pos ⟨a1,a2⟩]
      ·rw[cf (df a2),cf (df (by omega))]
       refine fin _ (hsame ?_)
       rw[hF,if_neg (by omega),if_neg (by omega)]
     ·rw[cf (df a1)]
      by_cases a2:ent m i k<0
      ·rw[ct (dt a2)]
       by_cases a3:ent m k j<0
       ·rw[ct (dt a3),z1r (by omega) (by omega)]
        refine fin _ (hset _ ?_)
        rw[hF,if_neg (by omega),if_pos ⟨a2,a3⟩]
       ·rw[cf (df a3)]
        refine fin _ (hsame ?_)
        rw[hF,if_neg (by omega),if_neg (by omega)]
      ·rw[cf (df a2)]
       refine fin _ (hsame ?_)
       rw[hF,if_neg (by omega),if_neg (by omega)]
  ·rw[cf (df (by omega)),show j=m.1.toNat by omega]
def outer(hN:10<=N)(hs:z12 m=true)(hk:k<m.1.toNat)(k0:List Int->Int->Int->Int->Int->Option ρ)(t0 t1 o0 o1:Int):∀(M i:Nat),i<=m.2.1.toNat->m.2.1.toNat-i<M ->
  Z8L N k0 M (cur m k (i*m.1.toNat)) (k:Int) (i:Int) m.1 m.2.1 m.2.2 t0 t1 o0 o1=k0 (cur m k (m.2.1.toNat*m.1.toNat)) t0 t1 o0 o1:=by
 have hd:=z1j hs
 obtain⟨n,r,hn,hr,hn1,hn5,hnr,hr8,hl⟩:=z13 hd
 intro M
 induction M with
 | zero=>intro i _ h;omega
 | succ M ih =>
  intro i hi hM
  simp only[Z8L,Z9,Z10]
  by_cases h:i<m.2.1.toNat
  ·rw[ct (dt (by omega))]
   simp only[Z11,Z12,Z13,Z14,Z15,Z16]
   have hin:=inner (ρ:=ρ) (N:=N) hs hk (λout5_2 k1 i6 m2_0 m2_1 m2_2 t4_0 t4_1 out5_0 out5_1=>Z30 N out5_2 k1 i6 m2_0 m2_1 m2_2 t4_0 t4_1 out5_0 out5_1 (λout5_2 k1 i6 m2_0 m2_1 m2_2 t4_0 t4_1 out5_0 out5_1=>Z8L N k0 M out5_2 k1 i6 m2_0 m2_1 m2_2 t4_0 t4_1 out5_0 out5_1)) t0 t1 o0 o1 h N 0 (by omega) (by omega)
   rw[show((0:Nat):Int)=0 from rfl,Nat.add_zero]at hin
   rw[hin]
   simp only[Z30]
   rw[z0w (by rw[z0k];omega)]
   have:=ih (i+1) h (by omega)
   rw[Nat.add_mul,Nat.one_mul]at this
   exact this
  ·rw[cf (df (by omega)),show i=m.2.1.toNat by omega]
end
def ok:Spec:=λm k hb hp=>⟨10,λN hN=>by
 simp only[P,Bool.and_eq_true,decide_eq_true_eq]at hp
 obtain⟨hs,h0,h1⟩:=hp
 obtain⟨x,rfl⟩:=Int.eq_ofNat_of_zero_le h0
 have hd:=z1j hs
 obtain⟨n,r,hn,hr,hn1,hn5,hnr,hr8,hl⟩:=z13 hd
 have hlen:m.2.2.length<=8*5:=by rw[hl];exact Nat.mul_le_mul hr8 hn5
 simp only[Z0,Z1,Z2,Z3]
 rw[ct (show z0i.P m.2.2=true from dt (by omega)),ct (show z0i.P m.2.2=true from dt (by omega))]
 simp only[bo,z8w]
 simp only[Z4,Z5,Z6,Z7,Z8]
 have hstart:cur m x 0=m.2.2:=by
  unfold cur
  rw[zig]
  exact zaz 0 rfl
 have hend:cur m x (m.2.1.toNat*m.1.toNat)=(z5p m x).2.2:=by
  have e:m.2.1.toNat*m.1.toNat=m.2.2.length:=by rw[hl,hn,hr];simp
  rw[e]
  exact zii
 have:=outer (ρ:=Unit×(Int×Int×List Int)×Unit) hN hs (show x<m.1.toNat by omega) (λout5_2 t4_0 t4_1 out5_0 out5_1=>Z31 N out5_2 t4_0 t4_1 out5_0 out5_1 (λt4_2 t4_0 t4_1=>some ((),((t4_0,(t4_1,t4_2)),())))) 0 0 m.1 m.2.1 N 0 (by omega) (by omega)
 rw[Nat.zero_mul,hstart,hend]at this
 exact this⟩
end z0e
end
end Go.Fw
namespace Go.Fw
section
variable {ρ : Type}
namespace z15
def g(m:Int×Int×List Int)(k:Int):(Int×Int×List Int)×Bool :=
 if((z12 m&&!decide (z4y m=[]))&&(inK k 0 (m.1-1)&&(z12 (z5p m k.toNat)&&!decide (z4y (z5p m k.toNat)=[]))))=true then(z5p m k.toNat,true)else((0,0,[]),false)
end z15
namespace z15
def Z0{ρ:Type}(N:Nat)(a:MT)(b:Int)(kr:LI->Bool->I2 (Option ρ)):Option ρ :=
 cond (!(lk N ((z1u.g a))))
 (
  kr ([]:List Int) false 0 0)
 (
  cond (!(lk N ((z2i.g b 0 (w64 (a.1-1))))))
  (
   kr ([]:List Int) false 0 0)
  (
   cond (lk N (z0e.P a b)) (
    cond (!(lk N ((z1u.g (z0e.g a b)))))
    (
     kr ([]:List Int) false 0 0)
    (
     kr (z0e.g a b).2.2 true (z0e.g a b).1 (z0e.g a b).2.1)) none))
def Spec:Prop:=∀ (v0:MT) (v1:Int),Ty.bd (.pair (.int .i64) (.pair (.int .i64) (.sl 0 (.int .i64)))) v0->∃N0,∀N,N0<=N->Z0 N v0 v1 (λv4_2 v5 v4_0 v4_1=>some ((),((v4_0,(v4_1,v4_2)),(v5,()))))=some ((),((g v0 v1).1,((g v0 v1).2,())))
def ok:Spec:=λm k hb=>⟨0,λN hN=>by
 simp only[Z0,z2c,g,z1u.g,z2i.g]
 cases h1:(z12 m&&!decide (z4y m=[]))
 ·rfl
 have hs:z12 m=true:=by
  simp only[Bool.and_eq_true]at h1
  exact h1.1
 have hd:=z1j hs
 obtain⟨n,r,hn,hr,hn1,hn5,hnr,hr8,hl⟩:=z13 hd
 rw[z1r (by omega) (by omega)]
 cases h2:inK k 0 (m.1-1)
 ·rfl
 have h3:=z3r.1 h2
 have hP:z0e.P m k=true:=by
  simp only[z0e.P,Bool.and_eq_true,decide_eq_true_eq]
  exact⟨hs,by omega,by omega⟩
 rw[hP]
 have hg:z0e.g m k=z5p m k.toNat:=rfl
 rw[hg]
 cases(z12 (z5p m k.toNat)&&!decide (z4y (z5p m k.toNat)=[]))<;>rfl⟩
end z15
end
end Go.Fw
namespace Go.Fw
section
variable {ρ : Type}
namespace z2j
def g(a b:Int×Int×List Int):Int:=z79 a.2.2 b.2.2
end z2j
namespace z2j
def Z0{ρ:Type}(N:Nat)(a b:MT)(kr:Int->Option ρ):Option ρ :=
 kr (z0j.g a.2.2 b.2.2)
def Spec:Prop:=∀ (v0 v1:MT),Ty.bd (.pair (.int .i64) (.pair (.int .i64) (.sl 0 (.int .i64)))) v0->Ty.bd (.pair (.int .i64) (.pair (.int .i64) (.sl 0 (.int .i64)))) v1->∃N0,∀N,N0<=N->Z0 N v0 v1 (λv4=>some ((),(v4,())))=some ((),((g v0 v1),()))
def ok:Spec:=λa b ha hb=>⟨0,λN hN=>rfl⟩
end z2j
end
end Go.Fw
namespace Go.Fw
section
variable {ρ : Type}
namespace z07
abbrev g(l:List (Int×Int×List Int))(u:Unit):List (Int×Int×List Int):=zgl l
abbrev P(l:List (Int×Int×List Int))(u:Unit):Bool:=Nat.blt 0 l.length&&Nat.blt l.length 4611686018427387904
end z07
namespace z07
def ok:True:=trivial
end z07
end
end Go.Fw
namespace Go.Fw
section
variable {ρ : Type}
namespace z08
def g(m:Int×Int×List Int):List (Int×Int×List Int)×Bool:=mcK m
end z08
namespace z08
def Z1{ρ:Type}(N:Nat)(a:MT)(kn:I2 (LI->Option ρ)):Option ρ :=
 kn a.1 a.2.1 a.2.2
def Z3{ρ:Type}(N:Nat)(a b:Int)(c:LI)(kn:LI->Bool->I2 (LI->I2 (Option ρ))):Option ρ :=
 kn (z04.g (a,(b,c))).1.2.2 (lk N ((z04.g (a,(b,c))).2)) a b c (z04.g (a,(b,c))).1.1 (z04.g (a,(b,c))).1.2.1
def Z5{ρ:Type}(N:Nat)(a:LI)(b:Bool)(c d:Int)(e:LI)(f g:Int)(kn:LI->I2 (LI->I2 (Option ρ)))(kr:LM->Bool->Option ρ):Option ρ :=
 cond (!(b))
 (
  kr ([]:List (MT)) false)
 (
  kn a c d e f g)
def Z7{ρ:Type}(N:Nat)(a:LI)(d e:Int)(f:LI)(b c:Int)(kn:LM->I2 (LI->I2 (LI->Option ρ))):Option ρ :=
 kn ([(b,(c,a))]:List (MT)) d e f b c a
def Z9{ρ:Type}(N:Nat)(b:LM)(c d:Int)(e:LI)(f h:Int)(a:LI)(kn:LM->I2 (LI->List ByteArray->Option ρ)):Option ρ :=
 cond (lk N (z0r.P a)) (
  kn b c d e (zrr ([]:List ByteArray) (z0r.g a))) none
def Z12{ρ:Type}(N:Nat)(a:LM)(b c:Int)(d:LI)(e:List ByteArray)(kn:LM->I3 (LI->List ByteArray->Option ρ)):Option ρ :=
 kn a 0 b c d e
def Z16{ρ:Type}(N:Nat)(a:LM)(b c d:Int)(e:LI)(f:List ByteArray)(kn:LM->I3 (LI->List ByteArray->Option ρ))(k0:LM->Option ρ):Option ρ :=
 cond (lk N (decide (b<(a.length:Int))))
 (
  kn a b c d e f)
 (
  k0 a)
def Z20{ρ:Type}(N:Nat)(a:LM)(b c d:Int)(e:LI)(f:List ByteArray)(kn:LM->I4 (LI->List ByteArray->Option ρ)):Option ρ :=
 kn a b 0 c d e f
def Z23{ρ:Type}(N:Nat)(a:LM)(b c d f:Int)(h:LI)(e:List ByteArray)(kn:LM->I4 (LI->List ByteArray->Option ρ))(k2:LM->I3 (LI->List ByteArray->Option ρ))(kr:LM->Bool->Option ρ):Option ρ :=
 cond (lk N (decide (c<d)))
 (
  cond (lk N (inB b a.length)) (
   cond (!(lk N ((z15.g (a.getD b.toNat (0,(0,[]))) c).2)))
   (
    kr ([]:List (MT)) false)
   (
    cond (lk N (z0r.P (z04.g (z15.g (a.getD b.toNat (0,(0,[]))) c).1).1.2.2)) (
     cond (!(lk N (zjk e (z0r.g (z04.g (z15.g (a.getD b.toNat (0,(0,[]))) c).1).1.2.2))))
     (
      cond (lk N (Nat.blt (a.length+([(z04.g (z15.g (a.getD b.toNat (0,(0,[]))) c).1).1]:List (MT)).length) 1099511627776)) (
       cond (lk N (decide (100<((a++([(z04.g (z15.g (a.getD b.toNat (0,(0,[]))) c).1).1]:List (MT))).length:Int))))
       (
        kr ([]:List (MT)) false)
       (
        kn (a++([(z04.g (z15.g (a.getD b.toNat (0,(0,[]))) c).1).1]:List (MT))) b (w64 (c+1)) d f h (zrr e (z0r.g (z04.g (z15.g (a.getD b.toNat (0,(0,[]))) c).1).1.2.2)))) none)
     (
      cond (lk N (decide (100<(a.length:Int))))
      (
       kr ([]:List (MT)) false)
      (
       kn a b (w64 (c+1)) d f h e))) none)) none)
 (
  k2 a b d f h e)
def Z22L{ρ:Type}(N:Nat)(k2:LM->I3 (LI->List ByteArray->Option ρ))(kr:LM->Bool->Option ρ):Nat->LM->Int->Int->Int->Int->LI->List ByteArray->Option ρ
 | 0,_,_,_,_,_,_,_=>none
 | M+1,a,b,c,d,e,f,g=>Z23 N a b c d e f g (λa b c d e f g=>Z22L N k2 kr M a b c d e f g) k2 kr
def Z22 N a b c d e f g k2 kr:=(Z22L N k2 kr N a b c d e f g:Option ρ)
def Z21 N a b c d e f g kn kr:=(Z22 N a b c d e f g kn kr:Option ρ)
def Z19 N a b c d e f kn kr:=(Z20 N a b c d e f (λa b g c d e f=>Z21 N a b g c d e f kn kr):Option ρ)
def Z18 N a b c d e f kn kr:=(Z19 N a b c d e f kn kr:Option ρ)
def Z24{ρ:Type}(N:Nat)(a:LM)(b c d:Int)(e:LI)(f:List ByteArray)(kn:LM->I3 (LI->List ByteArray->Option ρ)):Option ρ :=
 kn a (w64 (b+1)) c d e f
def Z17 N a b c d e f kn kr:=(Z18 N a b c d e f (λa b c d e f=>Z24 N a b c d e f kn) kr:Option ρ)
def Z15 N a b c d e f kn k0 kr:=(Z16 N a b c d e f (λa b c d e f=>Z17 N a b c d e f kn kr) k0:Option ρ)
def Z14L{ρ:Type}(N:Nat)(k0:LM->Option ρ)(kr:LM->Bool->Option ρ):Nat->LM->Int->Int->Int->LI->List ByteArray->Option ρ
 | 0,_,_,_,_,_,_=>none
 | M+1,a,b,c,d,e,f=>Z15 N a b c d e f (λa b c d e f=>Z14L N k0 kr M a b c d e f) k0 kr
def Z14 N a b c d e f k0 kr:=(Z14L N k0 kr N a b c d e f:Option ρ)
def Z13 N a b c d e f kn kr:=(Z14 N a b c d e f kn kr:Option ρ)
def Z11 N a b c d e kn kr:=(Z12 N a b c d e (λa f b c d e=>Z13 N a f b c d e kn kr):Option ρ)
def Z25{ρ:Type}(N:Nat)(a:LM)(kr:LM->Bool->Option ρ):Option ρ :=
 cond (lk N (z07.P a ())) (
  kr (z07.g a ()) true) none
def Z10 N a b c d e kr:=(Z11 N a b c d e (λa=>Z25 N a kr) kr:Option ρ)
def Z8 N a b c d e f g kr:=(Z9 N a b c d e f g (λa b c d h=>Z10 N a b c d h kr):Option ρ)
def Z6 N a b c d e f kr:=(Z7 N a b c d e f (λg b c d e f a=>Z8 N g b c d e f a kr):Option ρ)
def Z4 N a g b c d e f kr:=(Z5 N a g b c d e f (λa b c d e f=>Z6 N a b c d e f kr) kr:Option ρ)
def Z2 N a b c kr:=(Z3 N a b c (λd e a b c f g=>Z4 N d e a b c f g kr):Option ρ)
def Z0 N a kr:=(Z1 N a (λb c d=>Z2 N b c d kr):Option ρ)
def Spec:Prop:=∀ (v0:MT),Ty.bd (.pair (.int .i64) (.pair (.int .i64) (.sl 0 (.int .i64)))) v0->∃N0,∀N,N0<=N->Z0 N v0 (λv2 v3=>some ((),(v2,(v3,()))))=some ((),((g v0).1,((g v0).2,())))
def zpe(S:List (Int×Int×List Int)):List ByteArray:=S.map λy=>z4v y.2.2
def key_inj{n:Int}{x y:Int×Int×List Int}(hx:Fit n x)(hy:Fit n y)(h:z4v x.2.2=z4v y.2.2):x.2.2=y.2.2:=by
 have ne:∀{x:Int×Int×List Int},Fit n x->x.2.2≠[]:=λhx e=>by
  have:=hx.len.1
  rw[e]at this
  simp at this
 have rg:∀{x:Int×Int×List Int},Fit n x->∀u∈x.2.2,inK u (-999999999) 999999999=true:=λhx u hu=>by
  have:=hx.ents u hu
  rw[z3r];omega
 have h1:=zj6 (ne hx) (rg hx)
 have h2:=zj6 (ne hy) (rg hy)
 rw[h,h2]at h1
 injection h1 with h1
 exact h1.symm
def zsc{n:Int}{S:List (Int×Int×List Int)}{y:Int×Int×List Int}(hS:zfd n S)(hy:Fit n y):zjk (zpe S) (z4v y.2.2)=znr S y.2.2:=by
 have key:zjk (zpe S) (z4v y.2.2)=true↔znr S y.2.2=true:=by
  rw[mHas_iff,hasD_iff,zpe,List.mem_map]
  exact⟨λ⟨x,hx,e⟩=>⟨x,hx,key_inj (hS x hx) hy e⟩,λ⟨x,hx,e⟩=>⟨x,hx,by rw[e]⟩⟩
 cases h:znr S y.2.2
 ·rw[h]at key
  cases h2:zjk (zpe S) (z4v y.2.2)
  ·rfl
  ·rw[h2]at key
   exact absurd (key.1 rfl) (by simp)
 ·rw[h]at key
  exact key.2 rfl
def zn7{n:Int}{y:Int×Int×List Int}(hy:Fit n y):z0r.P y.2.2=true:=by
 have h1:=hy.len
 simp only[z0r.P,rowP,Bool.and_eq_true,decide_eq_true_eq,List.all_eq_true]
 refine⟨by omega,λu hu=>?_⟩
 have:=hy.ents u hu
 simp only[z23.P,zl8,Bool.and_eq_true,decide_eq_true_eq]
 omega
section
variable {ρ : Type} {N : Nat} {m : Int × Int × List Int} {n : Nat} (hn : m.1 = (n : Int))
include hn
theorem row{k2:List (Int×Int×List Int)->Int->Int->Int->List Int->List ByteArray->Option ρ}{kr:List (Int×Int×List Int)->Bool->Option ρ}{a:Nat}{x:Int×Int×List Int}(hx:Fit m.1 x) :
  ∀(M r k:Nat) {S:List (Int×Int×List Int)},k+r=n->r<M->zfd m.1 S->S.length<=100->a<S.length->S.getD a z3=x ->
   Z22L N k2 kr M S (a:Int) (k:Int) m.1 m.2.1 m.2.2 (zpe S)=match ziz x k r S with
    | some S'=>k2 S' (a:Int) m.1 m.2.1 m.2.2 (zpe S')
    | none=>kr [] false:=by
 intro M
 induction M with
 | zero=>intro r k S _ h;omega
 | succ M ih =>
  intro r k S hk hM hS hl ha hxa
  simp only[Z22L,Z23]
  cases r with
  | zero =>
   rw[cf (df (by omega))]
   rfl
  | succ r =>
   have hb5:=hx.bound
   have h0:=hx.2.1
   obtain⟨d,hR⟩:=hx.1
   have hmu:z15.g x (k:Int)=if z1y (z5p x k)=true then(z5p x k,true)else((0,0,[]),false):=by
    have hkk:inK (k:Int) 0 (x.1-1)=true:=by rw[z3r];omega
    have hok:=hR.ok
    have hal:=zjh hok (k:=k) (by omega)
    unfold z15.g
    rw[z7l,hok,Int.toNat_natCast]
    simp only[hal]
    have:inK (k:Int) 0 (x.1-1)=true:=hkk
    first | rw[this];simp | simp[this]
   rw[ct (dt (by omega)),ct (z0u ha),Int.toNat_natCast,hxa,hmu]
   have e1:ziz x k (r+1) S=(z8b x k S).bind (ziz x (k+1) r):=rfl
   rw[e1]
   cases hz:z1y (z5p x k)
   ·simp only[Bool.false_eq_true,if_false,z2c]
    unfold z8b
    rw[hz]
    rfl
   ·have hf:=hx.mut (k:=k) (by omega) hz
    have hfn:=hx.nxt (k:=k) (by omega) hz
    have hcan:z04.g (z5p x k)=(zbk x k,true):=by
     obtain⟨d',hR'⟩:=hf.1
     unfold z04.g
     rw[z7l,hR'.ok,dt (hf.2.2.trans hf.2.1.symm),Bool.and_self,if_pos rfl,zoe hf.dim (hf.2.2.trans hf.2.1.symm)]
     rfl
    have hk1:z0r.g (zbk x k).2.2=z4v (zbk x k).2.2:=rfl
    simp only[if_true,z2c,hcan,Bool.not_true,cond_false,zn7 hfn,cond_true,hk1,zsc hS hfn]
    have e2:(zum S (zbk x k))=if znr S (zbk x k).2.2=true then S else S++[zbk x k]:=rfl
    have stp:∀{S':List (Int×Int×List Int)},z8b x k S=some S'->Z22L N k2 kr M S' (a:Int) (w64 ((k:Int)+1)) m.1 m.2.1 m.2.2 (zpe S')=match(z8b x k S).bind (ziz x (k+1) r)with
      | some S'=>k2 S' (a:Int) m.1 m.2.1 m.2.2 (zpe S')
      | none=>kr [] false:=by
     intro S' h
     obtain⟨e,f1,f2,f3⟩:=zdo hS hx (by omega) h
     rw[h,z0w (by rw[z0k];omega)]
     exact ih r (k+1) (by omega) (by omega) f1 f3 (by omega) (by rw[e,zet ha,hxa])
    cases hh:znr S (zbk x k).2.2
    ·have hb:Nat.blt (S.length+([zbk x k]:List (Int×Int×List Int)).length) 1099511627776=true:=Nat.ble_eq_true_of_le (by simp;omega)
     have hadd:zrr (zpe S) (z4v (zbk x k).2.2)=zpe (S++[zbk x k]):=by
      unfold zrr
      rw[zsc hS hfn,hh]
      simp[zpe]
     simp only[Bool.not_false,cond_true,hb,hadd]
     by_cases h100:(S++[zbk x k]).length<=100
     ·rw[df (by omega),cond_false]
      refine stp ?_
      unfold z8b
      rw[if_pos hz,e2,hh]
      simp only[Bool.false_eq_true,if_false]
      rw[if_pos h100]
     ·rw[dt (by omega),cond_true]
      have:z8b x k S=none:=by
       unfold z8b
       rw[if_pos hz,e2,hh]
       simp only[Bool.false_eq_true,if_false]
       rw[if_neg h100]
      rw[this]
      rfl
    ·simp only[Bool.not_true,cond_false]
     rw[df (by omega),cond_false]
     refine stp ?_
     unfold z8b
     rw[if_pos hz,e2,hh]
     simp only[if_true]
     rw[if_pos hl]
theorem run(hN:4000<=N){k0:List (Int×Int×List Int)->Option ρ}{kr:List (Int×Int×List Int)->Bool->Option ρ} :
  ∀(M F a:Nat) {S:List (Int×Int×List Int)},zfd m.1 S->S.length<=100->a<=S.length->101-a<M->101-a<F ->
   Z14L N k0 kr M S (a:Int) m.1 m.2.1 m.2.2 (zpe S)=match zn6 n F a S with
    | some S'=>k0 S'
    | none=>kr [] false:=by
 intro M
 induction M with
 | zero=>intro F a S _ _ _ h;omega
 | succ M ih =>
  intro F a S hS hl ha hM hF
  obtain⟨F,rfl⟩:∃F',F=F'+1:=⟨F-1,by omega⟩
  simp only[Z14L,Z15,Z16]
  have e1:zn6 n (F+1) a S=if a<S.length then(ziz (S.getD a z3) 0 n S).bind (zn6 n F (a+1))else some S:=rfl
  rw[e1]
  by_cases h:a<S.length
  ·rw[ct (dt (by omega)),if_pos h]
   simp only[Z17,Z18,Z19,Z20,Z21,Z22]
   have hx:=zb3 hS h
   have hb:=hx.bound
   refine(row hn hx N n 0 (by omega) (by omega) hS hl h rfl).trans ?_
   cases hr:ziz (S.getD a z3) 0 n S with
   | none=>rfl
   | some S' =>
    obtain⟨f1,f2,f3,f4⟩:=zdd hx n 0 (by omega) hS hl hr
    simp only[Option.bind_some,Z24]
    rw[z0w (by rw[z0k];omega)]
    exact ih F (a+1) f1 f3 (by omega) (by omega) (by omega)
  ·rw[cf (df (by omega)),if_neg h]
end
def ok:Spec:=λm hb=>⟨9000,λN hN=>by
 simp only[Z0,Z1,Z2,Z3,z2c]
 have e0:((m.1,(m.2.1,m.2.2)):Int×Int×List Int)=m:=rfl
 rw[e0]
 have hcg:z04.g m=if okC3 m=true then(canI m,true)else((0,0,[]),false):=by
  unfold z04.g
  rw[z7l]
  rfl
 rw[hcg]
 unfold g mcK
 cases hp:okC3 m
 ·rfl
 ·have hf:=zni hp
  obtain⟨b1,b2,_⟩:=hf.bound
  obtain⟨n,hn⟩:=Int.eq_ofNat_of_zero_le (show 0<=m.1 by omega)
  have hcs:canI m=zb9 m:=zoe hf.dim (hf.2.2)
  have hfc:=hf.can
  simp only[if_true,Z4,Z5,Bool.not_true,cond_false,Z6,Z7,Z8,Z9,hcs,z2c]
  have e1:(((zb9 m).1,((zb9 m).2.1,(zb9 m).2.2)):Int×Int×List Int)=zb9 m:=rfl
  have e2:zrr ([]:List ByteArray) (z0r.g (zb9 m).2.2)=zpe [zb9 m]:=rfl
  rw[e1,e2,zn7 hfc,cond_true]
  simp only[Z10,Z11,Z12,Z13,Z14]
  have hFL:zfd m.1 [zb9 m]:=λx hx=>by rw[List.mem_singleton.1 hx];exact hfc
  refine(run (ρ:=Unit×(List (Int×Int×List Int)×(Bool×Unit))) hn (by omega) N 102 0 (S:=[zb9 m]) hFL (by simp) (Nat.zero_le _) (by omega) (by omega)).trans ?_
  have e:zu5 m=zn6 n 102 0 [zb9 m]:=by unfold zu5;rw[show m.1.toNat=n by omega]
  rw[<-e]
  cases hc:zu5 m with
  | none=>rfl
  | some S =>
   obtain⟨f1,f2,f3⟩:=zmf hp hc
   have hP:z07.P S ()=true:=by
    simp only[z07.P,Bool.and_eq_true,Nat.blt_eq]
    omega
   have hS:z07.g S ()=mcL m.1 S:=mcL_eq f1 (zfh S) (zir S)
   simp only[Z25,hP,z2c,cond_true,hS]⟩
end z08
end
end Go.Fw
namespace Go.Fw
section
variable {ρ : Type}
namespace z05
def g(m:Int×Int×List Int):List (Int×Int×List Int)×Bool:=ftK m
end z05
namespace z05
def Z1{ρ:Type}(N:Nat)(a:MT)(kn:I2 (LI->Option ρ)):Option ρ :=
 kn a.1 a.2.1 a.2.2
def Z3{ρ:Type}(N:Nat)(a b:Int)(c:LI)(kn:LM->Bool->Option ρ):Option ρ :=
 kn (z08.g (z2t.g (a,(b,c)))).1 (lk N ((z08.g (z2t.g (a,(b,c)))).2))
def Z5{ρ:Type}(N:Nat)(a:LM)(b:Bool)(kn:LM->Option ρ)(kr:LM->Bool->Option ρ):Option ρ :=
 cond (!(b))
 (
  kr ([]:List (MT)) false)
 (
  kn a)
def Z8{ρ:Type}(N:Nat)(a:LM)(kn:LM->I2 (Option ρ)):Option ρ :=
 kn a (a.length:Int) 0
def Z12{ρ:Type}(N:Nat)(c:LM)(a b:Int)(kn:LM->I2 (Bool->Option ρ)):Option ρ :=
 kn c a b (lk N (decide (b<a)))
def Z14{ρ:Type}(N:Nat)(a:LM)(b c:Int)(d:Bool)(kn:LM->I2 (Option ρ))(k0:LM->Option ρ):Option ρ :=
 cond (d)
 (
  kn a b c)
 (
  k0 a)
def Z18{ρ:Type}(N:Nat)(a:LM)(c b:Int)(kn:LM->I4 (LI->Option ρ)):Option ρ :=
 cond (lk N (inB b a.length)) (
  kn a c b (a.getD b.toNat (0,(0,[]))).1 (a.getD b.toNat (0,(0,[]))).2.1 (a.getD b.toNat (0,(0,[]))).2.2) none
def Z20{ρ:Type}(N:Nat)(a:LM)(b c d e:Int)(f:LI)(kn:LM->I5 (LI->Option ρ)):Option ρ :=
 kn a 0 b c d e f
def Z24{ρ:Type}(N:Nat)(a:LM)(b c d e f:Int)(g:LI)(kn:LM->I5 (LI->Option ρ))(k2:LM->I2 (Option ρ)):Option ρ :=
 cond (lk N (decide (b<e)))
 (
  kn a b c d e f g)
 (
  k2 a c d)
def Z28{ρ:Type}(N:Nat)(a:LM)(b c d e f:Int)(g:LI)(kn:LM->I6 (LI->Option ρ)):Option ρ :=
 kn a b 0 c d e f g
def Z31{ρ:Type}(N:Nat)(f:LM)(b c h i a d:Int)(e:LI)(kn:LM->I6 (LI->Option ρ))(k4:LM->I5 (LI->Option ρ))(kr:LM->Bool->Option ρ):Option ρ :=
 cond (lk N (decide (c<a)))
 (
  cond (lk N (z0m.P (a,(d,e)) b c)) (
   cond (lk N (z0m.P (a,(d,e)) c b)) (
    cond (lk N (decide ((w64 ((z0m.g (a,(d,e)) b c)*(z0m.g (a,(d,e)) c b)))<(-3))))
    (
     kr ([]:List (MT)) false)
    (
     kn f b (w64 (c+1)) h i a d e)) none) none)
 (
  k4 f b h i a d e)
def Z30L{ρ:Type}(N:Nat)(k4:LM->I5 (LI->Option ρ))(kr:LM->Bool->Option ρ):Nat->LM->Int->Int->Int->Int->Int->Int->LI->Option ρ
 | 0,_,_,_,_,_,_,_,_=>none
 | M+1,a,b,c,d,e,f,g,h=>Z31 N a b c d e f g h (λa b c d e f g h=>Z30L N k4 kr M a b c d e f g h) k4 kr
def Z30 N a b c d e f g h k4 kr:=(Z30L N k4 kr N a b c d e f g h:Option ρ)
def Z29 N a b c d e f g h kn kr:=(Z30 N a b c d e f g h kn kr:Option ρ)
def Z27 N a b c d e f g kn kr:=(Z28 N a b c d e f g (λa b h c d e f g=>Z29 N a b h c d e f g kn kr):Option ρ)
def Z26 N a b c d e f g kn kr:=(Z27 N a b c d e f g kn kr:Option ρ)
def Z32{ρ:Type}(N:Nat)(a:LM)(b c d e f:Int)(g:LI)(kn:LM->I5 (LI->Option ρ)):Option ρ :=
 kn a (w64 (b+1)) c d e f g
def Z25 N a b c d e f g kn kr:=(Z26 N a b c d e f g (λa b c d e f g=>Z32 N a b c d e f g kn) kr:Option ρ)
def Z23 N a b c d e f g kn k2 kr:=(Z24 N a b c d e f g (λa b c d e f g=>Z25 N a b c d e f g kn kr) k2:Option ρ)
def Z22L{ρ:Type}(N:Nat)(k2:LM->I2 (Option ρ))(kr:LM->Bool->Option ρ):Nat->LM->Int->Int->Int->Int->Int->LI->Option ρ
 | 0,_,_,_,_,_,_,_=>none
 | M+1,a,b,c,d,e,f,g=>Z23 N a b c d e f g (λa b c d e f g=>Z22L N k2 kr M a b c d e f g) k2 kr
def Z22 N a b c d e f g k2 kr:=(Z22L N k2 kr N a b c d e f g:Option ρ)
def Z21 N a b c d e f g kn kr:=(Z22 N a b c d e f g kn kr:Option ρ)
def Z19 N a b c d e f kn kr:=(Z20 N a b c d e f (λa g b c d e f=>Z21 N a g b c d e f kn kr):Option ρ)
def Z17 N a b c kn kr:=(Z18 N a b c (λa b c d e f=>Z19 N a b c d e f kn kr):Option ρ)
def Z16 N a b c kn kr:=(Z17 N a b c kn kr:Option ρ)
def Z33{ρ:Type}(N:Nat)(a:LM)(b c:Int)(kn:LM->I2 (Option ρ)):Option ρ :=
 kn a b (w64 (c+1))
def Z15 N a b c kn kr:=(Z16 N a b c (λa b c=>Z33 N a b c kn) kr:Option ρ)
def Z13 N a b c d kn k0 kr:=(Z14 N a b c d (λa b c=>Z15 N a b c kn kr) k0:Option ρ)
def Z11 N a b c kn k0 kr:=(Z12 N a b c (λa b c d=>Z13 N a b c d kn k0 kr):Option ρ)
def Z10L{ρ:Type}(N:Nat)(k0:LM->Option ρ)(kr:LM->Bool->Option ρ):Nat->LM->Int->Int->Option ρ
 | 0,_,_,_=>none
 | M+1,a,b,c=>Z11 N a b c (λa b c=>Z10L N k0 kr M a b c) k0 kr
def Z10 N a b c k0 kr:=(Z10L N k0 kr N a b c:Option ρ)
def Z9 N a b c kn kr:=(Z10 N a b c kn kr:Option ρ)
def Z7 N a kn kr:=(Z8 N a (λa b c=>Z9 N a b c kn kr):Option ρ)
def Z34{ρ:Type}(N:Nat)(a:LM)(kr:LM->Bool->Option ρ):Option ρ :=
 kr a true
def Z6 N a kr:=(Z7 N a (λa=>Z34 N a kr) kr:Option ρ)
def Z4 N a b kr:=(Z5 N a b (λa=>Z6 N a kr) kr:Option ρ)
def Z2 N a b c kr:=(Z3 N a b c (λd e=>Z4 N d e kr):Option ρ)
def Z0 N a kr:=(Z1 N a (λb c d=>Z2 N b c d kr):Option ρ)
def Spec:Prop:=∀ (v0:MT),Ty.bd (.pair (.int .i64) (.pair (.int .i64) (.sl 0 (.int .i64)))) v0->∃N0,∀N,N0<=N->Z0 N v0 (λv2 v3=>some ((),(v2,(v3,()))))=some ((),((g v0).1,((g v0).2,())))
section
variable {ρ : Type} {N : Nat} {l : List (Int × Int × List Int)} {t0 t1 : Int}
theorem inner{n:Int}{m:Int×Int×List Int}(hf:Fit n m){k4:List (Int×Int×List Int)->Int->Int->Int->Int->Int->List Int->Option ρ}{kr:List (Int×Int×List Int)->Bool->Option ρ}{i:Nat}(hi:i<m.1.toNat) :
  ∀(M r j:Nat),j+r=m.1.toNat->r<M->Z30L N k4 kr M l (i:Int) (j:Int) t0 t1 m.1 m.2.1 m.2.2=cond ((List.range' j r).all λj=>!decide (z3g m i j < -3)) (k4 l (i:Int) t0 t1 m.1 m.2.1 m.2.2) (kr [] false):=by
 have hd:=hf.dim
 obtain⟨q,rr,hn,hr',hn1,hn5,hnr,hr8,hl⟩:=z13 hd
 intro M
 induction M with
 | zero=>intro r j _ h;omega
 | succ M ih =>
  intro r j hj hM
  simp only[Z30L,Z31]
  cases r with
  | zero=>rw[cf (df (by omega))];rfl
  | succ r =>
   have p1:z0m.P (m.1,(m.2.1,m.2.2)) (i:Int) (j:Int)=true:=zd9 hd (by omega) (by omega)
   have p2:z0m.P (m.1,(m.2.1,m.2.2)) (j:Int) (i:Int)=true:=zd9 hd (by omega) (by omega)
   have g1:z0m.g (m.1,(m.2.1,m.2.2)) (i:Int) (j:Int)=ent m i j:=z5t (by omega) i j
   have g2:z0m.g (m.1,(m.2.1,m.2.2)) (j:Int) (i:Int)=ent m j i:=z5t (by omega) j i
   have hb:=zp3 hf i j
   have hw:w64 (ent m i j*ent m j i)=z3g m i j:=z1r (by unfold z3g at hb;omega) (by unfold z3g at hb;omega)
   rw[ct (dt (by omega)),ct p1,ct p2,g1,g2,hw,z0w (by rw[z0k];omega),List.range'_succ,List.all_cons]
   by_cases h:z3g m i j < -3
   ·rw[ct (dt h),dt h];rfl
   ·rw[cf (df h),df h,ih r (j+1) (by omega) (by omega)];rfl
theorem outer{n:Int}{m:Int×Int×List Int}(hf:Fit n m)(hN:200<=N){k2:List (Int×Int×List Int)->Int->Int->Option ρ}{kr:List (Int×Int×List Int)->Bool->Option ρ} :
  ∀(M r i:Nat),i+r=m.1.toNat->r<M->Z22L N k2 kr M l (i:Int) t0 t1 m.1 m.2.1 m.2.2=cond ((List.range' i r).all λi=>(List.range' 0 m.1.toNat).all λj=>!decide (z3g m i j < -3)) (k2 l t0 t1) (kr [] false):=by
 obtain⟨q,rr,hn,hr',hn1,hn5,hnr,hr8,hl⟩:=z13 hf.dim
 intro M
 induction M with
 | zero=>intro r i _ h;omega
 | succ M ih =>
  intro r i hi hM
  simp only[Z22L,Z23,Z24]
  cases r with
  | zero=>rw[cf (df (by omega))];rfl
  | succ r =>
   rw[ct (dt (by omega))]
   simp only[Z25,Z26,Z27,Z28,Z29,Z30]
   refine(inner hf (by omega) N m.1.toNat 0 (by omega) (by omega)).trans ?_
   rw[List.range'_succ,List.all_cons]
   cases(List.range' 0 m.1.toNat).all λj=>!decide (z3g m i j < -3)
   ·rfl
   ·simp only[cond_true,Z32,Bool.true_and]
    rw[z0w (by rw[z0k];omega)]
    exact ih r (i+1) (by omega) (by omega)
theorem loop{n:Int}(hN:200<=N){k0:List (Int×Int×List Int)->Option ρ}{kr:List (Int×Int×List Int)->Bool->Option ρ}(hl:zfd n l)(hlen:l.length<=100) :
  ∀(M r i:Nat),i+r=l.length->r<M->Z10L N k0 kr M l (l.length:Int) (i:Int)=cond ((l.drop i).all z8e) (k0 l) (kr [] false):=by
 intro M
 induction M with
 | zero=>intro r i _ h;omega
 | succ M ih =>
  intro r i hi hM
  simp only[Z10L,Z11,Z12,Z13,Z14,z2c]
  cases r with
  | zero=>rw[cf' (df (by omega)),List.drop_of_length_le (by omega)];rfl
  | succ r =>
   have hf:=zb3 hl (a:=i) (by omega)
   obtain⟨b1,b2,_⟩:=hf.bound
   have h1:=hf.2.1
   rw[ct' (dt (by omega))]
   simp only[Z15,Z16,Z17,Z18]
   rw[ct (z0u (by omega)),Int.toNat_natCast]
   simp only[Z19,Z20,Z21,Z22]
   refine(outer hf hN N (l.getD i z3).1.toNat 0 (by omega) (by omega)).trans ?_
   rw[z2d z3 (by omega:i<l.length),List.all_cons]
   show cond (z8e (l.getD i z3)) _ _=_
   cases z8e (l.getD i z3)
   ·rfl
   ·simp only[cond_true,Z33,Bool.true_and]
    rw[z0w (by rw[z0k];omega)]
    exact ih r (i+1) (by omega) (by omega)
end
def ok:Spec:=λm hb=>⟨200,λN hN=>by
 simp only[Z0,Z1,Z2,Z3,z2c]
 have e0:((m.1,(m.2.1,m.2.2)):Int×Int×List Int)=m:=rfl
 have e1:z08.g (z2t.g m)=mcK (sqK m):=by
  unfold z2t.g sqK
  rw[z7l]
  rfl
 rw[e0,e1]
 simp only[Z4,Z5,g]
 unfold ftK
 cases h2:(mcK (sqK m)).2
 ·rfl
 ·obtain⟨_,f1,f2,f3⟩:=zrq h2
  simp only[Bool.not_true,cond_false,Z6,Z7,Z8,Z9,Z10]
  refine(loop hN f1 f3 N (mcK (sqK m)).1.length 0 (by omega) (by omega)).trans ?_
  simp only[List.drop_zero,Z34,Bool.true_and]
  cases(mcK (sqK m)).1.all z8e<;>rfl⟩
end z05
end
end Go.Fw
namespace Go.Fw
section
variable {ρ : Type}
namespace z2h
def g(m:Int×Int×List Int):Bool:=(ftK m).2
end z2h
namespace z2h
def Z0{ρ:Type}(N:Nat)(a:MT)(kr:Bool->Option ρ):Option ρ :=
 kr (lk N ((z05.g a).2))
def Spec:Prop:=∀ (v0:MT),Ty.bd (.pair (.int .i64) (.pair (.int .i64) (.sl 0 (.int .i64)))) v0->∃N0,∀N,N0<=N->Z0 N v0 (λv2=>some ((),(v2,())))=some ((),((g v0),()))
def ok:Spec:=λm hb=>⟨0,λN hN=>by
 simp only[Z0,z2c,g]
 rfl⟩
end z2h
end
end Go.Fw
namespace Go.Fw
section
variable {ρ : Type}
namespace z1z
def g(a b:List Int):Bool:=decide (a=b)
end z1z
namespace z1z
def Z1{ρ:Type}(N:Nat)(a b:LI)(kn:LI->LI->Option ρ):Option ρ :=
 kn a b
def Z3{ρ:Type}(N:Nat)(a b:LI)(kn:LI->LI->Option ρ)(kr:Bool->Option ρ):Option ρ :=
 cond (lk N (!(decide ((a.length:Int)=(b.length:Int)))))
 (
  kr false)
 (
  kn a b)
def Z6{ρ:Type}(N:Nat)(a b:LI)(kn:LI->LI->Int->Option ρ):Option ρ :=
 kn a b 0
def Z9{ρ:Type}(N:Nat)(b c:LI)(a:Int)(kn:LI->LI->Int->Option ρ)(k0:Option ρ)(kr:Bool->Option ρ):Option ρ :=
 cond (lk N (decide (a<(b.length:Int))))
 (
  cond (lk N (inB a b.length)) (
   cond (lk N (inB a c.length)) (
    cond (lk N (!(decide ((b.getD a.toNat 0)=(c.getD a.toNat 0)))))
    (
     kr false)
    (
     kn b c (w64 (a+1)))) none) none)
 (
  k0)
def Z8L{ρ:Type}(N:Nat)(k0:Option ρ)(kr:Bool->Option ρ):Nat->LI->LI->Int->Option ρ
 | 0,_,_,_=>none
 | M+1,a,b,c=>Z9 N a b c (λa b c=>Z8L N k0 kr M a b c) k0 kr
def Z8 N a b c k0 kr:=(Z8L N k0 kr N a b c:Option ρ)
def Z7 N a b c kn kr:=(Z8 N a b c kn kr:Option ρ)
def Z5 N a b kn kr:=(Z6 N a b (λa b c=>Z7 N a b c kn kr):Option ρ)
def Z10{ρ:Type}(N:Nat) (kr:Bool->Option ρ):Option ρ :=
 kr true
def Z4 N a b kr:=(Z5 N a b (Z10 N kr) kr:Option ρ)
def Z2 N a b kr:=(Z3 N a b (λa b=>Z4 N a b kr) kr:Option ρ)
def Z0 N a b kr:=(Z1 N a b (λa b=>Z2 N a b kr):Option ρ)
def Spec:Prop:=∀ (v0 v1:LI),Ty.bd (.sl 0 (.int .i64)) v0->Ty.bd (.sl 0 (.int .i64)) v1->∃N0,∀N,N0<=N->Z0 N v0 v1 (λv4=>some ((),(v4,())))=some ((),((g v0 v1),()))
def loop{ρ:Type}(N:Nat)(k0:Option ρ)(kr:Bool->Option ρ)(a b:List Int)(hl:a.length=b.length)(ha:a.length<=maxLen):∀(M j:Nat),j<=a.length->a.length-j<M ->
  Z8L N k0 kr M a b (j:Int)=if a.drop j=b.drop j then k0 else kr false:=by
 intro M
 induction M with
 | zero=>intro j _ h;omega
 | succ M ih =>
  intro j hj hM
  simp only[Z8L,Z9]
  by_cases h:j<a.length
  ·rw[ct (dt (by omega)),ct (z0u h),ct (z0u (by omega)),Int.toNat_natCast,z0w (by omega),ih (j+1) h (by omega),z2d 0 h,z2d (l:=b) (j:=j) 0 (by omega)]
   by_cases e:a.getD j 0=b.getD j 0
   ·rw[cf (nf e),e]
    simp only[List.cons.injEq,true_and]
   ·rw[ct (nt e),if_neg (by simp only[List.cons.injEq];exact λh=>e h.1)]
  ·rw[cf (df (by omega)),if_pos (by rw[List.drop_of_length_le (by omega),List.drop_of_length_le (by omega)])]
def ok:Spec:=λa b ha hb=>⟨a.length+1,λN hN=>by
 simp only[Z1,Z3,Z6,Z9,Z8,Z7,Z5,Z10,Z4,Z2,Z0]
 by_cases hl:a.length=b.length
 ·rw[cf (nf (by omega))]
  rw[show(0:Int)=((0:Nat):Int)from rfl,loop _ _ _ a b hl ha.1 N 0 (by omega) (by omega)]
  by_cases e:a=b<;>simp[e,g]
 ·rw[ct (nt (by omega))]
  have:a≠b:=λe=>hl (by rw[e])
  simp[g,this]⟩
end z1z
end
end Go.Fw
namespace Go.Fw
section
variable {ρ : Type}
namespace z38
def g(a b:Int×Int×List Int):Bool:=decide (a=b)
end z38
namespace z38
def Z0{ρ:Type}(N:Nat)(a b:MT)(kr:Bool->Option ρ):Option ρ :=
 cond (lk N (!(decide (a.1=b.1))))
 (
  kr false)
 (
  cond (lk N (!(decide (a.2.1=b.2.1))))
  (
   kr false)
  (
   cond (!(lk N ((z1z.g a.2.2 b.2.2))))
   (
    kr false)
   (
    kr true)))
def Spec:Prop:=∀ (v0 v1:MT),Ty.bd (.pair (.int .i64) (.pair (.int .i64) (.sl 0 (.int .i64)))) v0->Ty.bd (.pair (.int .i64) (.pair (.int .i64) (.sl 0 (.int .i64)))) v1->∃N0,∀N,N0<=N->Z0 N v0 v1 (λv4=>some ((),(v4,())))=some ((),((g v0 v1),()))
def ok:Spec:=λa b ha hb=>⟨0,λN hN=>by
 obtain⟨a1,a2,a3⟩:=a
 obtain⟨b1,b2,b3⟩:=b
 simp only[Z0,z2c,g,z1z.g,Prod.mk.injEq]
 by_cases h1:a1=b1<;>by_cases h2:a2=b2<;>by_cases h3:a3=b3<;>simp[h1,h2,h3]⟩
end z38
end
end Go.Fw
namespace Go.Fw
section
variable {ρ : Type}
namespace z21
def g(_:Int×Int×List Int):Bool:=true
end z21
namespace z21
def Z0{ρ:Type}(N:Nat)(a:MT)(kr:Bool->Option ρ):Option ρ :=
 cond (lk N (decide ((z2s.g a 1048576)<0)))
 (
  kr true)
 (
  cond (lk N (z1o.P a)) (
   cond (lk N (z1o.P a)) (
    cond (lk N (!(((lk N ((z2h.g (z1o.g a)))) == (lk N ((z2b.g (z1o.g a))))))))
    (
     kr false)
    (
     cond (lk N (z1o.P a)) (
      cond (!(lk N ((z38.g (z1o.g a) (z1o.g a)))))
      (
       kr false)
      (
       kr true)) none)) none) none)
def Spec:Prop:=∀ (v0:MT),Ty.bd (.pair (.int .i64) (.pair (.int .i64) (.sl 0 (.int .i64)))) v0->∃N0,∀N,N0<=N->Z0 N v0 (λv2=>some ((),(v2,())))=some ((),((g v0),()))
def ok:Spec:=λm hb=>⟨0,λN hN=>by
 by_cases hl:z2s.g m 1048576<0
 ·simp only[Z0]
  rw[ct (dt hl)]
  rfl
 have hP:=szMat_P m hb.2.2.1 hl
 have e:z2h.g m=z2b.g m:=rfl
 simp only[Z0,z2c,z1o.g,hP,e,z38.g,df hl,dt (rfl:m=_)]
 cases z2b.g m<;>rfl⟩
end z21
end
end Go.Fw
