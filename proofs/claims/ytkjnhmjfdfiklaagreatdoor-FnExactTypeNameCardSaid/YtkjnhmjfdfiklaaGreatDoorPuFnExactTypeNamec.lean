/- The plain part: what the functions compute, in lists and numbers. Nothing is assumed. -/
import Derived.Test.YtkjnhmjfdfiklaaGreatDoorFwd
import Derived.Test.YtkjnhmjfdfiklaaGreatDoorPuFnExactTypeNameb
import Derived.Test.YtkjnhmjfdfiklaaGreatDoorPuFnExactTypeNamea
noncomputable section
set_option linter.defProp false
set_option linter.defProp false
set_option linter.unusedSectionVars false
set_option linter.unusedVariables false
set_option linter.unusedSimpArgs false
set_option maxRecDepth 100000
namespace Go.Fw
section
variable {J : Type}
namespace aH
def P(m:Int×Int×List Int):Bool:=ba m
abbrev g(m:Int×Int×List Int):List Int:=bj m
def Z1{J:Type}(N:Nat)(a:MT)(kn:I2 (LI->Option J)):Option J :=
 kn a.1 a.2.1 a.2.2
def Z3{J:Type}(N:Nat)(a b:Int)(c:LI)(kn:LI->LI->I2 (LI->Option J)):Option J :=
 bo (
  cond (lk N (bF 0 a&&decide (a<1099511627776))) (
   cond (lk N (bF 0 a&&decide (a<1099511627776))) (
    kn (List.replicate a.toNat (0:Int)) (List.replicate a.toNat (0:Int)) a b c) none) none)
def Z5{J:Type}(N:Nat)(b c:LI)(a d:Int)(e:LI)(kn:LI->LI->LI->I2 (LI->Option J)):Option J :=
 cond (lk N (bF 0 a&&decide (a<1099511627776))) (
  kn b c (List.replicate a.toNat (0:Int)) a d e) none
def Z8{J:Type}(N:Nat)(a b c:LI)(d e:Int)(f:LI)(kn:LI->LI->LI->I4 (LI->Option J)):Option J :=
 kn a b c (a.length:Int) 0 d e f
def Z12{J:Type}(N:Nat)(c d e:LI)(a b f g:Int)(h:LI)(kn:LI->LI->LI->I2 (Bool->I2 (LI->Option J))):Option J :=
 kn c d e a b (lk N (decide (b<a))) f g h
def Z14{J:Type}(N:Nat)(b c a:LI)(d e:Int)(f:Bool)(g h:Int)(i:LI)(kn:LI->LI->LI->I4 (LI->Option J))(k0:LI->Option J):Option J :=
 cond (f)
 (
  kn b c a d e g h i)
 (
  k0 a)
def Z18{J:Type}(N:Nat)(b c d:LI)(e a f g:Int)(h:LI)(kn:LI->LI->LI->I5 (LI->Option J)):Option J :=
 kn b c d a e a f g h
def Z20{J:Type}(N:Nat)(a c d:LI)(b e f g h:Int)(i:LI)(kn:LI->LI->LI->I5 (LI->Option J))(k1:LI->LI->LI->I4 (LI->Option J)):Option J :=
 cond (lk N (ax b a.length)) (
  cond (lk N (!(decide ((a.getD b.toNat 0)=0))))
  (
   k1 a c d e f g h i)
  (
   kn a c d b e f g h i)) none
def Z22{J:Type}(N:Nat)(b c d:LI)(a e f g h:Int)(i:LI)(kn:LI->LI->LI->I5 (LI->Option J)):Option J :=
 cond (lk N (ax a b.length)) (
  cond (lk N (ax a c.length)) (
   kn (b.set a.toNat 1) (c.set a.toNat 1) d a e f g h i) none) none
def Z24{J:Type}(N:Nat)(a b c:LI)(d e f g h:Int)(i:LI)(kn:LI->LI->LI->LI->I4 (LI->Option J)):Option J :=
 kn a b c ([d]:List Int) e f g h i
def Z27{J:Type}(N:Nat)(a b c d:LI)(e f g h:Int)(i:LI)(kn:LI->LI->LI->LI->I5 (LI->Option J)):Option J :=
 kn a b c d 0 e f g h i
def Z31{J:Type}(N:Nat)(b c d a:LI)(e f g h i:Int)(j:LI)(kn:LI->LI->LI->LI->I5 (LI->Option J))(k2:LI->LI->LI->LI->I4 (LI->Option J)):Option J :=
 cond (lk N (decide (e<(a.length:Int))))
 (
  kn b c d a e f g h i j)
 (
  k2 b c d a f g h i j)
def Z35{J:Type}(N:Nat)(c d e a:LI)(b f g h i:Int)(j:LI)(kn:LI->LI->LI->LI->I6 (LI->Option J)):Option J :=
 cond (lk N (ax b a.length)) (
  kn c d e a b (a.getD b.toNat 0) f g h i j) none
def Z37{J:Type}(N:Nat)(a b c d:LI)(e f g h i j:Int)(l:LI)(kn:LI->LI->LI->LI->I8 (LI->Option J)):Option J :=
 kn a b c d e f g h (a.length:Int) 0 i j l
def Z41{J:Type}(N:Nat)(c d e f:LI)(g h i j a b l m:Int)(o:LI)(kn:LI->LI->LI->LI->I6 (Bool->I2 (LI->Option J))):Option J :=
 kn c d e f g h i j a b (lk N (decide (b<a))) l m o
def Z43{J:Type}(N:Nat)(a b c d:LI)(e l f g m o:Int)(p:Bool)(h i:Int)(j:LI)(kn:LI->LI->LI->LI->I8 (LI->Option J))(k4:LI->LI->LI->LI->I5 (LI->Option J)):Option J :=
 cond (p)
 (
  kn a b c d e l f g m o h i j)
 (
  k4 a b c d e f g h i j)
def Z47{J:Type}(N:Nat)(b c d e:LI)(f g h i j a l m:Int)(o:LI)(kn:LI->LI->LI->LI->Int->I8 (LI->Option J)):Option J :=
 kn b c d e f g a h i j a l m o
def Z49{J:Type}(N:Nat)(f h i j:LI)(l a b m o p q c d:Int)(e:LI)(kn:LI->LI->LI->LI->I3 (I8 (LI->Option J))):Option J :=
 cond (lk N (cb.P (c,(d,e)) a b)) (
  cond (lk N (cb.P (c,(d,e)) b a)) (
   kn f h i j l a b (cb.g (c,(d,e)) a b) (ah (0-(cb.g (c,(d,e)) b a))) m o p q c d e) none) none
def Z51{J:Type}(N:Nat)(a b c d:LI)(e f r g h i j l m o p:Int)(q:LI)(kn:LI->LI->LI->LI->I3 (I8 (LI->Option J)))(k5:LI->LI->LI->LI->I8 (LI->Option J)):Option J :=
 cond (lk N (decide (g=0)))
 (
  cond (lk N (decide (h=0)))
  (
   k5 a b c d e f i j l m o p q)
  (
   kn a b c d e f r g h i j l m o p q))
 (
  kn a b c d e f r g h i j l m o p q)
def Z52{J:Type}(N:Nat)(b c i h:LI)(j d a e f l m o p q r:Int)(s:LI)(kn:LI->LI->LI->LI->I8 (LI->Option J))(kr:LI->Option J):Option J :=
 let x1_:=(ah ((b.getD d.toNat 0)*(mx e (ah (0-e)))));let x2_:=(ah ((c.getD d.toNat 0)*(mx f (ah (0-f)))));let x0_:=(cZ.g x1_ x2_);cond (lk N (decide (e=0)))
 (
 kr ([]:List Int))
 (
 cond (lk N (decide (f=0)))
 (
 kr ([]:List Int))
 (
 cond (lk N (!(((lk N (decide (0<e))) == (lk N (decide (0<f)))))))
 (
 kr ([]:List Int))
 (
 cond (lk N (decide (d=a)))
 (
 kr ([]:List Int))
 (
 cond (lk N (ax d b.length)) (
 cond (lk N (ax d c.length)) (
 cond (lk N (cZ.P x1_ x2_)) (
 cond (lk N (!(decide (x0_=0)))) (
 cond (lk N (!(decide (x0_=0)))) (
 cond (lk N (ax a b.length)) (
 cond (lk N (decide ((b.getD a.toNat 0)=0)))
 (
 cond (lk N (ax a b.length)) (
 cond (lk N (ax a c.length)) (
 cond (lk N (Nat.blt (h.length+([a]:List Int).length) 1099511627776)) (
 kn (b.set a.toNat (ah (Int.tdiv x1_ x0_))) (c.set a.toNat (ah (Int.tdiv x2_ x0_))) i (h++([a]:List Int)) j d l m o p q r s) none) none) none)
 (
 cond (lk N (ax a b.length)) (
 cond (lk N (!(decide ((b.getD a.toNat 0)=(ah (Int.tdiv x1_ x0_))))))
 (
 kr ([]:List Int))
 (
 cond (lk N (ax a c.length)) (
 cond (lk N (!(decide ((c.getD a.toNat 0)=(ah (Int.tdiv x2_ x0_))))))
 (
 kr ([]:List Int))
 (
 kn b c i h j d l m o p q r s)) none)) none)) none) none) none) none) none) none))))
def Z50 N a b c d e f g h i j l m o p q r kn k5 kr:=(Z51 N a b c d e f g h i j l m o p q r (λa b c d e f g h i j l m o p q r=>Z52 N a b c d e f g h i j l m o p q r kn kr) k5:Option J)
def Z48 N a b c d e f g h i j l m o p kn k5 kr:=(Z49 N a b c d e f g h i j l m o p (λa b c d e f g q r h i j l m o p=>Z50 N a b c d e f g q r h i j l m o p kn k5 kr):Option J)
def Z46 N a b c d e f g h i j l m o kn k5 kr:=(Z47 N a b c d e f g h i j l m o (λa b c d e f p g h i j l m o=>Z48 N a b c d e f p g h i j l m o kn k5 kr):Option J)
def Z45 N a b c d e f g h i j l m o kn kr:=(Z46 N a b c d e f g h i j l m o kn kn kr:Option J)
def Z53{J:Type}(N:Nat)(a b c d:LI)(e f g h i j l m:Int)(o:LI)(kn:LI->LI->LI->LI->I8 (LI->Option J)):Option J :=
 kn a b c d e f g h i (ah (j+1)) l m o
def Z44 N a b c d e f g h i j l m o kn kr:=(Z45 N a b c d e f g h i j l m o (λa b c d e f g h i j l m o=>Z53 N a b c d e f g h i j l m o kn) kr:Option J)
def Z42 N a b c d e f g h i j p l m o kn k4 kr:=(Z43 N a b c d e f g h i j p l m o (λa b c d e f g h i j l m o=>Z44 N a b c d e f g h i j l m o kn kr) k4:Option J)
def Z40 N a b c d e f g h i j l m o kn k4 kr:=(Z41 N a b c d e f g h i j l m o (λa b c d e f g h i j p l m o=>Z42 N a b c d e f g h i j p l m o kn k4 kr):Option J)
def Z39L{J:Type}(N:Nat)(k4:LI->LI->LI->LI->I5 (LI->Option J))(kr:LI->Option J):Nat->LI->LI->LI->LI->Int->Int->Int->Int->Int->Int->Int->Int->LI->Option J
 |0,_,_,_,_,_,_,_,_,_,_,_,_,_=>none
 |M+1,a,b,c,d,e,f,g,h,i,j,l,m,o=>Z40 N a b c d e f g h i j l m o (λa b c d e f g h i j l m o=>Z39L N k4 kr M a b c d e f g h i j l m o) k4 kr
def Z39 N a b c d e f g h i j l m o k4 kr:=(Z39L N k4 kr N a b c d e f g h i j l m o:Option J)
def Z38 N a b c d e f g h i j l m o kn kr:=(Z39 N a b c d e f g h i j l m o kn kr:Option J)
def Z36 N a b c d e f g h i j l kn kr:=(Z37 N a b c d e f g h i j l (λa b c d e f g h m o i j l=>Z38 N a b c d e f g h m o i j l kn kr):Option J)
def Z34 N a b c d e f g h i j kn kr:=(Z35 N a b c d e f g h i j (λa b c d e l f g h i j=>Z36 N a b c d e l f g h i j kn kr):Option J)
def Z33 N a b c d e f g h i j kn kr:=(Z34 N a b c d e f g h i j kn kr:Option J)
def Z54{J:Type}(N:Nat)(a b c d:LI)(e f g h i:Int)(j:LI)(kn:LI->LI->LI->LI->I5 (LI->Option J)):Option J :=
 kn a b c d (ah (e+1)) f g h i j
def Z32 N a b c d e f g h i j kn kr:=(Z33 N a b c d e f g h i j (λa b c d e f g h i j=>Z54 N a b c d e f g h i j kn) kr:Option J)
def Z30 N a b c d e f g h i j kn k2 kr:=(Z31 N a b c d e f g h i j (λa b c d e f g h i j=>Z32 N a b c d e f g h i j kn kr) k2:Option J)
def Z29L{J:Type}(N:Nat)(k2:LI->LI->LI->LI->I4 (LI->Option J))(kr:LI->Option J):Nat->LI->LI->LI->LI->Int->Int->Int->Int->Int->LI->Option J
 |0,_,_,_,_,_,_,_,_,_,_=>none
 |M+1,a,b,c,d,e,f,g,h,i,j=>Z30 N a b c d e f g h i j (λa b c d e f g h i j=>Z29L N k2 kr M a b c d e f g h i j) k2 kr
def Z29 N a b c d e f g h i j k2 kr:=(Z29L N k2 kr N a b c d e f g h i j:Option J)
def Z28 N a b c d e f g h i j kn kr:=(Z29 N a b c d e f g h i j kn kr:Option J)
def Z26 N a b c d e f g h i kn kr:=(Z27 N a b c d e f g h i (λa b c d j e f g h i=>Z28 N a b c d j e f g h i kn kr):Option J)
def Z56{J:Type}(N:Nat)(a b c d:LI)(e f g h:Int)(i:LI)(kn:LI->LI->LI->LI->I5 (LI->Option J)):Option J :=
 kn a b c d 1 e f g h i
def Z59{J:Type}(N:Nat)(b c d a:LI)(e f g h i:Int)(j:LI)(kn:LI->LI->LI->LI->I7 (LI->Option J)):Option J :=
 kn b c d a e f g (a.length:Int) 0 h i j
def Z62{J:Type}(N:Nat)(e c f a:LI)(d h i j b l m:Int)(o:LI)(kn:LI->LI->LI->LI->I7 (LI->Option J))(k6:LI->LI->LI->LI->I5 (LI->Option J)):Option J :=
 cond (lk N (decide (b<j)))
 (
  cond (lk N (ax b a.length)) (
   cond (lk N (ax (a.getD b.toNat 0) c.length)) (
    cond (lk N (ax (a.getD b.toNat 0) c.length)) (
     cond (lk N (cZ.P d (c.getD (a.getD b.toNat 0).toNat 0))) (
      cond (lk N (!(decide ((cZ.g d (c.getD (a.getD b.toNat 0).toNat 0))=0)))) (
       kn e c f a (ah ((ah (Int.tdiv d (cZ.g d (c.getD (a.getD b.toNat 0).toNat 0))))*(c.getD (a.getD b.toNat 0).toNat 0))) h i j (ah (b+1)) l m o) none) none) none) none) none)
 (
  k6 e c f a d h i l m o)
def Z61L{J:Type}(N:Nat)(k6:LI->LI->LI->LI->I5 (LI->Option J)):Nat->LI->LI->LI->LI->Int->Int->Int->Int->Int->Int->Int->LI->Option J
 |0,_,_,_,_,_,_,_,_,_,_,_,_=>none
 |M+1,a,b,c,d,e,f,g,h,i,j,l,m=>Z62 N a b c d e f g h i j l m (λa b c d e f g h i j l m=>Z61L N k6 M a b c d e f g h i j l m) k6
def F3 N a b c d e f g h i j l m k6:=(Z61L N k6 N a b c d e f g h i j l m:Option J)
def Z60 N a b c d e f g h i j l m kn:=(F3 N a b c d e f g h i j l m kn:Option J)
def Z58 N a b c d e f g h i j kn:=(Z59 N a b c d e f g h i j (λa b c d e f g l m h i j=>Z60 N a b c d e f g l m h i j kn):Option J)
def Z64{J:Type}(N:Nat)(a b c d:LI)(e f g h i:Int)(j:LI)(kn:LI->LI->LI->LI->I6 (LI->Option J)):Option J :=
 kn a b c d e 0 f g h i j
def Z67{J:Type}(N:Nat)(b c d a:LI)(e f g h i j:Int)(l:LI)(kn:LI->LI->LI->LI->I8 (LI->Option J)):Option J :=
 kn b c d a e f g h (a.length:Int) 0 i j l
def Z70{J:Type}(N:Nat)(d c e a:LI)(f h i j l b m o:Int)(p:LI)(kn:LI->LI->LI->LI->I8 (LI->Option J))(k8:LI->LI->LI->LI->I5 (LI->Option J)):Option J :=
 cond (lk N (decide (b<l)))
 (
  cond (lk N (ax b a.length)) (
   cond (lk N (ax (a.getD b.toNat 0) c.length)) (
    cond (lk N (!(decide ((c.getD (a.getD b.toNat 0).toNat 0)=0)))) (
     cond (lk N (ax (a.getD b.toNat 0) d.length)) (
      cond (lk N (ax (a.getD b.toNat 0) e.length)) (
       cond (lk N (ax (a.getD b.toNat 0) (e.set (a.getD b.toNat 0).toNat (ah ((ah (Int.tdiv f (c.getD (a.getD b.toNat 0).toNat 0)))*(d.getD (a.getD b.toNat 0).toNat 0)))).length)) (
        cond (lk N (cZ.P h ((e.set (a.getD b.toNat 0).toNat (ah ((ah (Int.tdiv f (c.getD (a.getD b.toNat 0).toNat 0)))*(d.getD (a.getD b.toNat 0).toNat 0)))).getD (a.getD b.toNat 0).toNat 0))) (
         kn d c (e.set (a.getD b.toNat 0).toNat (ah ((ah (Int.tdiv f (c.getD (a.getD b.toNat 0).toNat 0)))*(d.getD (a.getD b.toNat 0).toNat 0)))) a f (cZ.g h ((e.set (a.getD b.toNat 0).toNat (ah ((ah (Int.tdiv f (c.getD (a.getD b.toNat 0).toNat 0)))*(d.getD (a.getD b.toNat 0).toNat 0)))).getD (a.getD b.toNat 0).toNat 0)) i j l (ah (b+1)) m o p) none) none) none) none) none) none) none)
 (
  k8 d c e a h i j m o p)
def Z69L{J:Type}(N:Nat)(k8:LI->LI->LI->LI->I5 (LI->Option J)):Nat->LI->LI->LI->LI->Int->Int->Int->Int->Int->Int->Int->Int->LI->Option J
 |0,_,_,_,_,_,_,_,_,_,_,_,_,_=>none
 |M+1,a,b,c,d,e,f,g,h,i,j,l,m,o=>Z70 N a b c d e f g h i j l m o (λa b c d e f g h i j l m o=>Z69L N k8 M a b c d e f g h i j l m o) k8
def F4 N a b c d e f g h i j l m o k8:=(Z69L N k8 N a b c d e f g h i j l m o:Option J)
def Z68 N a b c d e f g h i j l m o kn:=(F4 N a b c d e f g h i j l m o kn:Option J)
def Z66 N a b c d e f g h i j l kn:=(Z67 N a b c d e f g h i j l (λa b c d e f g h m o i j l=>Z68 N a b c d e f g h m o i j l kn):Option J)
def Z72{J:Type}(N:Nat)(b c d a:LI)(e f g h i:Int)(j:LI)(kn:LI->LI->LI->LI->I7 (LI->Option J)):Option J :=
 kn b c d a e f g (a.length:Int) 0 h i j
def Z75{J:Type}(N:Nat)(e f c b:LI)(d g h i a j l:Int)(m:LI)(kn:LI->LI->LI->LI->I7 (LI->Option J))(k10:LI->LI->LI->I4 (LI->Option J)):Option J :=
 cond (lk N (decide (a<i)))
 (
  cond (lk N (ax a b.length)) (
   cond (lk N (ax (b.getD a.toNat 0) c.length)) (
    cond (lk N (!(decide (d=0)))) (
     cond (lk N (ax (b.getD a.toNat 0) c.length)) (
      kn e f (c.set (b.getD a.toNat 0).toNat (ah (Int.tdiv (c.getD (b.getD a.toNat 0).toNat 0) d))) b d g h i (ah (a+1)) j l m) none) none) none) none)
 (
  k10 e f c g h j l m)
def Z74L{J:Type}(N:Nat)(k10:LI->LI->LI->I4 (LI->Option J)):Nat->LI->LI->LI->LI->Int->Int->Int->Int->Int->Int->Int->LI->Option J
 |0,_,_,_,_,_,_,_,_,_,_,_,_=>none
 |M+1,a,b,c,d,e,f,g,h,i,j,l,m=>Z75 N a b c d e f g h i j l m (λa b c d e f g h i j l m=>Z74L N k10 M a b c d e f g h i j l m) k10
def F5 N a b c d e f g h i j l m k10:=(Z74L N k10 N a b c d e f g h i j l m:Option J)
def Z73 N a b c d e f g h i j l m kn:=(F5 N a b c d e f g h i j l m kn:Option J)
def Ah N a b c j d e f g h i kn:=(Z72 N a b c j d e f g h i (λa b c l d e f m o g h i=>Z73 N a b c l d e f m o g h i kn):Option J)
def F6 N a b c d l e f g h i j kn:=(Z66 N a b c d l e f g h i j (λa b c d e f g h i j=>Ah N a b c d e f g h i j kn):Option J)
def Ai N a b c d e f g h i j kn:=(Z64 N a b c d e f g h i j (λa b c d e l f g h i j=>F6 N a b c d e l f g h i j kn):Option J)
def Z57 N a b c d e f g h i j kn:=(Z58 N a b c d e f g h i j (λa b c d e f g h i j=>Ai N a b c d e f g h i j kn):Option J)
def Z55 N a b c d e f g h i kn:=(Z56 N a b c d e f g h i (λa b c d j e f g h i=>Z57 N a b c d j e f g h i kn):Option J)
def Z25 N a b c d e f g h i kn kr:=(Z26 N a b c d e f g h i (λa b c d e f g h i=>Z55 N a b c d e f g h i kn) kr:Option J)
def Z23 N a b c i d e f g h kn kr:=(Z24 N a b c i d e f g h (λa b c j d e f g h=>Z25 N a b c j d e f g h kn kr):Option J)
def Z21 N a b c d e f g h i kn kr:=(Z22 N a b c d e f g h i (λa b c d e f g h i=>Z23 N a b c d e f g h i kn kr):Option J)
def Z19 N a b c d e f g h i kn k1 kr:=(Z20 N a b c d e f g h i (λa b c d e f g h i=>Z21 N a b c d e f g h i kn kr) k1:Option J)
def Z17 N a b c d e f g h kn k1 kr:=(Z18 N a b c d e f g h (λa b c i d e f g h=>Z19 N a b c i d e f g h kn k1 kr):Option J)
def Z16 N a b c d e f g h kn kr:=(Z17 N a b c d e f g h kn kn kr:Option J)
def Z76{J:Type}(N:Nat)(a b c:LI)(d e f g:Int)(h:LI)(kn:LI->LI->LI->I4 (LI->Option J)):Option J :=
 kn a b c d (ah (e+1)) f g h
def Z15 N a b c d e f g h kn kr:=(Z16 N a b c d e f g h (λa b c d e f g h=>Z76 N a b c d e f g h kn) kr:Option J)
def Z13 N a b c d e i f g h kn k0 kr:=(Z14 N a b c d e i f g h (λa b c d e f g h=>Z15 N a b c d e f g h kn kr) k0:Option J)
def Z11 N a b c d e f g h kn k0 kr:=(Z12 N a b c d e f g h (λa b c d e i f g h=>Z13 N a b c d e i f g h kn k0 kr):Option J)
def Z10L{J:Type}(N:Nat)(k0 kr:LI->Option J):Nat->LI->LI->LI->Int->Int->Int->Int->LI->Option J
 |0,_,_,_,_,_,_,_,_=>none
 |M+1,a,b,c,d,e,f,g,h=>Z11 N a b c d e f g h (λa b c d e f g h=>Z10L N k0 kr M a b c d e f g h) k0 kr
def Z10 N a b c d e f g h k0 kr:=(Z10L N k0 kr N a b c d e f g h:Option J)
def Z9 N a b c d e f g h kn kr:=(Z10 N a b c d e f g h kn kr:Option J)
def Z7 N a b c d e f kn kr:=(Z8 N a b c d e f (λa b c g h d e f=>Z9 N a b c g h d e f kn kr):Option J)
def Z77{J:Type}(N:Nat)(a:LI)(kr:LI->Option J):Option J :=
 cond (Nat.blt 0 a.length) (
  kr a) none
def Z6 N b c a d e f kr:=(Z7 N b c a d e f (λa=>Z77 N a kr) kr:Option J)
def Z4 N a b c d e kr:=(Z5 N a b c d e (λa b f c d e=>Z6 N a b f c d e kr):Option J)
def Z2 N a b c kr:=(Z3 N a b c (λd e a b c=>Z4 N d e a b c kr):Option J)
def Z0 N a kr:=(Z1 N a (λb c d=>Z2 N b c d kr):Option J)
def Spec:Prop:=∀ (v0:MT),Ty.bd (.pair (.int .i64) (.pair (.int .i64) (.sl 0 (.int .i64)))) v0->P v0=true->∃N0,∀N,N0<=N->Z0 N v0 (λv2=>some ((),(v2,())))=some ((),((g v0),()))
def F7{a:Int}(h:-99<=a/\a<=99):mx a (ah (0-a))=aI a:=by rw[bh (by omega) (by omega),o5];unfold aI;omega
def Qo(a:Int):aI (-a)=aI a:=by unfold aI;omega
def F8{k:Nat}(h:k<=4):(99:Int) ^ k<=96059601:=by
 have h1:99 ^ k<=99 ^ 4:=Nat.pow_le_pow_right (by omega) h;have h2:(99:Int) ^ k=((99 ^ k:Nat):Int):=by rw[Int.natCast_pow];rfl
 rw[h2];omega
def F9{n:Nat}{A:Nat->Nat->Int}{x j:Nat}(hx:x<n)(hj:j<n)(h:¬ (A x j=0/\A j x=0))(h':A x j=0\/A j x=0):¬ ∃e,cY n A e:=by
 rintro ⟨e,he⟩
 rcases h' with z|z;·exact h ⟨z,uJ he hx hj z⟩
 ·exact h ⟨uJ he hj hx z,z⟩
section
variable {J : Type} {N : Nat} {m : Int × Int × List Int} {s p x j : Nat} {num0 num den out : List Int} {L : List Nat}
def Qp(hm:ba m=true)(hn:m.1.toNat<=5)(hcl:u4 m.1.toNat (ae m) num0)(hf:fK m.1.toNat (ae m) s num0 L num den)(hp:p<L.length)(hx:L.getD p 0=x)(hj:j<m.1.toNat)(h0:¬ (ae m x j=0/\ae m j x=0))
  (kn:List Int->List Int->List Int->List Int->Int->Int->Int->Int->Int->Int->Int->Int->List Int->Option J) (kr:List Int->Option J) (t34 t35 t62 t63:Int) :
  (Z52 N num den out (ak L) (p:Int) (x:Int) (j:Int) (ae m x j) (-(ae m j x)) t34 t35 t62 t63 m.1 m.2.1 m.2.2 kn kr=kr []/\¬ ∃e,cY m.1.toNat (ae m) e) \/
  (∃L' num' den',fK m.1.toNat (ae m) s num0 L' num' den'/\(∃u,L'=L++u)/\(∀y∈L,∀k,gw (ae m) L num den y k->gw (ae m) L' num' den' y k)/\gw (ae m) L' num' den' x j /\
   Z52 N num den out (ak L) (p:Int) (x:Int) (j:Int) (ae m x j) (-(ae m j x)) t34 t35 t62 t63 m.1 m.2.1 m.2.2 kn kr=kn num' den' out (ak L') (p:Int) (x:Int) t34 t35 t62 t63 m.1 m.2.1 m.2.2):=by
 have hxm:x∈L:=by rw[<-hx];exact aX 0 hp
 have hxn:=hf.lt x hxm;have hle:=hf.le;simp only[Z52];by_cases z1:ae m x j=0;·rw[ct (dt z1)];exact Or.inl ⟨rfl,F9 hxn hj h0 (Or.inl z1)⟩
 rw[cf (df z1)];by_cases z2:ae m j x=0;·rw[ct (dt (by omega))];exact Or.inl ⟨rfl,F9 hxn hj h0 (Or.inr z2)⟩
 rw[cf (df (by omega))];by_cases sg:(0<ae m x j↔0 < -(ae m j x))
 ·have sgb:(!(((lk N (decide (0<ae m x j))) == (lk N (decide (0 < -(ae m j x)))))))=false:=by
   rw[aL,aL];by_cases h1:0<ae m x j;·rw[dt h1,dt (sg.1 h1)];rfl
   ·rw[df h1,df (λh=>h1 (sg.2 h))];rfl
  rw[cf sgb];have hne:¬ ((x:Int)=(j:Int)):=λe=>by
   have e':x=j:=by omega
   subst e';omega
  rw[cf (df hne)];obtain⟨Q,q1,q2,q3⟩:=hf.frac;obtain⟨c1,c2,c3,c4,c5⟩:=q3 x hxm;have st:=Px (A:=ae m) (num:=num) (den:=den) x j c1 c3 z1 z2;have sk:=Py z1 z2 sg;have hb:=eZ hm;have e1:=F7 (hb x j);have e2:mx (-(ae m j x)) (ah (0 - -(ae m j x)))=aI (ae m j x):=by rw[F7 (by have:=hb j x;omega),Qo]
  have pw:=F8 (k:=L.length-1) (by omega);have hdQ:=Int.le_of_dvd q1 c4;have a1:=pm (hb x j);have a2:=pm (hb j x);have a1':=pk z1;have a2':=pk z2;have b1:num.getD x 0*aI (ae m x j)<=96059601*99:=Int.mul_le_mul (by omega) a1 (by omega) (by omega);have b2:den.getD x 0*aI (ae m j x)<=96059601*99:=Int.mul_le_mul (by omega) a2 (by omega) (by omega);have hA:=st.a0p;have hB:=st.b0p;simp only[e1,e2,Int.toNat_natCast,bh (show -9223372036854775808<=num.getD x 0*aI (ae m x j) by omega) (by omega),bh (show -9223372036854775808<=den.getD x 0*aI (ae m j x) by omega) (by omega),cZ.g];generalize hA0:num.getD x 0*aI (ae m x j)=A0 at *
  generalize hB0:den.getD x 0*aI (ae m j x)=B0 at *
  generalize hG:(Int.gcd A0 B0:Int)=G at *
  generalize ha:Int.tdiv A0 G=a at *
  generalize hb':Int.tdiv B0 G=b at *
  have gp:=st.gp;have ap:=st.ap;have bp:=st.bp;have al:a<=A0:=by have h1:=Int.mul_le_mul_of_nonneg_left (show(1:Int)<=G by omega) (Int.le_of_lt ap);have h2:=st.ea;omega
  have bl:b<=B0:=by have h1:=Int.mul_le_mul_of_nonneg_left (show(1:Int)<=G by omega) (Int.le_of_lt bp);have h2:=st.eb;omega
  have i1:ax (x:Int) num.length=true:=aG (by rw[hf.nl];exact hxn);have i2:ax (x:Int) den.length=true:=aG (by rw[hf.dl];exact hxn);have i3:ax (j:Int) num.length=true:=aG (by rw[hf.nl];exact hj);have i4:ax (j:Int) den.length=true:=aG (by rw[hf.dl];exact hj);have hP:cZ.P A0 B0=true:=by simp only[cZ.P,Bool.and_eq_true,decide_eq_true_eq];omega
  rw[ct i1,ct i2,ct hP,ct (nt (by omega)),ct (nt (by omega)),ct i3];simp only[bh (show -9223372036854775808<=a by omega) (by omega),bh (show -9223372036854775808<=b by omega) (by omega)];by_cases hz:num.getD j 0=0
  ·obtain⟨hg,hnj⟩:=hf.grow hp hj hz (by rw[hx];exact st) (λy k=>pm (hb y k));have hxj:∀y∈L,j≠y:=λy hy e=>hnj (e▸hy);have hnl:j<num.length:=by rw[hf.nl];exact hj
   have hdl:j<den.length:=by rw[hf.dl];exact hj
   rw[ct (dt hz),ct i3,ct i4,ct (show Nat.blt ((ak L).length+([(j:Int)]).length) 1099511627776=true by simp[aU,Nat.blt_eq];omega),rR];refine Or.inr ⟨L++[j],num.set j a,den.set j b,hg,⟨_,rfl⟩,λy hy k he=>he.grow hxj hnl hdl hy,Or.inr ⟨by simp, ?_⟩,rfl⟩;have:=Fr st sk;rw[cL hnl,if_neg (hxj x hxm),cL hdl,if_pos rfl,cL hnl,if_pos rfl,cL hdl,if_neg (hxj x hxm)];exact this
  ·have hjm:j∈L:=Classical.byContradiction λhc=>by
    have h1:num0.getD j 0≠0:=by rw[<-hf.out j hj hc];exact hz
    exact hcl j hj h1 x hxn (Or.inr z1) (hf.new x hxm)
   obtain⟨d1,d2,d3,d4,d5⟩:=q3 j hjm;have hgood:(∃e,cY m.1.toNat (ae m) e)->num.getD j 0=a/\den.getD j 0=b:=by
    rintro ⟨e,he⟩
    have g1:=Fq st hxn hj he (hf.good e he x hxm);have g2:=hf.good e he j hjm;have p1:=(he j hj).1;have p2:0<e s:=(he s (by rw[<-hf.hd];exact hf.lt _ (aX 0 hf.pos))).1;have g3:(e s*e j)*(num.getD j 0*b)=(e s*e j)*(a*den.getD j 0):=by grind
    have p3:=Int.mul_pos p2 p1;exact Pw d1 d3 ap bp d5 st.co (Int.eq_of_mul_eq_mul_left (by omega) g3)
   rw[cf (df hz),ct i3];by_cases ea:num.getD j 0=a
   ·rw[cf (nf ea),ct i4];by_cases eb:den.getD j 0=b;·rw[cf (nf eb)];refine Or.inr ⟨L,num,den,hf,⟨[],by simp⟩,λ_ _ _ h=>h,Or.inr ⟨hjm, ?_⟩,rfl⟩;rw[ea,eb];exact Fr st sk
    ·rw[ct (nt eb)];exact Or.inl ⟨rfl,λh=>eb (hgood h).2⟩
   ·rw[ct (nt ea)];exact Or.inl ⟨rfl,λh=>ea (hgood h).1⟩
 ·have sgb:(!(((lk N (decide (0<ae m x j))) == (lk N (decide (0 < -(ae m j x)))))))=true:=by
   rw[aL,aL];by_cases h1:0<ae m x j;·rw[dt h1,df (λh2=>sg ⟨λ_=>h2,λ_=>h1⟩)];rfl
   ·rw[df h1,dt (Classical.byContradiction λh2=>sg ⟨λh=>absurd h h1,λh=>absurd h h2⟩)];rfl
  rw[ct sgb];refine Or.inl ⟨rfl, ?_⟩;rintro ⟨e,he⟩
  have h1:=pg he hxn hj;rw[dz,Bool.and_eq_true,beq_iff_eq,decide_eq_decide]at h1;have:=h1.1;omega
def at_g(hd:0<=m.1)(a b:Nat):cb.g (m.1,(m.2.1,m.2.2)) (a:Int) (b:Int)=ae m a b:=fF hd a b
def at_p(hd:aY m=true){a b:Nat}(ha:a<m.1.toNat)(hb:b<m.1.toNat):cb.P (m.1,(m.2.1,m.2.2)) (a:Int) (b:Int)=true:=by obtain⟨n,r,hn,hr,hn1,hn5,hnr,hr8,hl⟩:=aQ hd;exact fG hd (by omega) hb
def inner(hm:ba m=true)(hcl:u4 m.1.toNat (ae m) num0)(k4:List Int->List Int->List Int->List Int->Int->Int->Int->Int->Int->List Int->Option J)(kr:List Int->Option J)(t34 t35:Int):∀(M j:Nat) (L:List Nat) (num den:List Int),fK m.1.toNat (ae m) s num0 L num den->p<L.length->L.getD p 0=x->j<=m.1.toNat->m.1.toNat-j<M ->
  (∀k',k'<p->∀k,k<m.1.toNat->gw (ae m) L num den (L.getD k' 0) k)->(∀k,k<j->gw (ae m) L num den x k) ->
  (Z39L N k4 kr M num den out (ak L) (p:Int) (x:Int) t34 t35 (m.1.toNat:Int) (j:Int) m.1 m.2.1 m.2.2=kr []/\¬ ∃e,cY m.1.toNat (ae m) e) \/
  (∃L' num' den',fK m.1.toNat (ae m) s num0 L' num' den'/\p<L'.length/\(∀k',k'<p+1->∀k,k<m.1.toNat->gw (ae m) L' num' den' (L'.getD k' 0) k) /\
   Z39L N k4 kr M num den out (ak L) (p:Int) (x:Int) t34 t35 (m.1.toNat:Int) (j:Int) m.1 m.2.1 m.2.2=k4 num' den' out (ak L') (p:Int) t34 t35 m.1 m.2.1 m.2.2):=by
 have hdim:=cn hm;obtain⟨n,r,hn,hr,hn1,hn5,hnr,hr8,hl⟩:=aQ hdim;intro M;induction M with
 |zero=>intro j _ _ _ _ _ _ _ h;omega
 |succ M ih =>
  intro j L num den hf hp hx hj hM hE1 hE2;have hxm:x∈L:=by rw[<-hx];exact aX 0 hp
  have hxn:=hf.lt x hxm;simp only[Z39L,Z40,Z41,Z42,Z43];by_cases hlt:j<m.1.toNat
  ·rw[dZ (by rw[aL];exact dt (by omega))];simp only[Z44,Z45,Z46,Z47,Z48,Z49];rw[ct (at_p hdim hxn hlt),ct (at_p hdim hlt hxn),at_g (by omega),at_g (by omega)];have hb:=eZ hm j x;rw[show ah (0-ae m j x)=-(ae m j x) by rw[bh (by omega) (by omega)];omega];simp only[Z50,Z51];have next:∀(L':List Nat) (num' den':List Int),fK m.1.toNat (ae m) s num0 L' num' den'->(∃u,L'=L++u)->(∀y∈L,∀k,gw (ae m) L num den y k->gw (ae m) L' num' den' y k)->gw (ae m) L' num' den' x j ->
     (Z39L N k4 kr M num' den' out (ak L') (p:Int) (x:Int) t34 t35 (m.1.toNat:Int) ((j+1:Nat):Int) m.1 m.2.1 m.2.2=kr []/\¬ ∃e,cY m.1.toNat (ae m) e) \/
     (∃L'' num'' den'',fK m.1.toNat (ae m) s num0 L'' num'' den''/\p<L''.length/\(∀k',k'<p+1->∀k,k<m.1.toNat->gw (ae m) L'' num'' den'' (L''.getD k' 0) k) /\
      Z39L N k4 kr M num' den' out (ak L') (p:Int) (x:Int) t34 t35 (m.1.toNat:Int) ((j+1:Nat):Int) m.1 m.2.1 m.2.2=k4 num'' den'' out (ak L'') (p:Int) t34 t35 m.1 m.2.1 m.2.2):=by
    intro L' num' den' hf' hu hk he;obtain⟨u,hu⟩:=hu;have hget:∀k',k'<L.length->L'.getD k' 0=L.getD k' 0:=λk' hk'=>by rw[hu,iy hk']
    refine ih (j+1) L' num' den' hf' (by rw[hu];simp;omega) (by rw[hget p hp];exact hx) hlt (by omega) (λk' hk' k hkn=>?_) (λk hk'=>?_);·rw[hget k' (by omega)];exact hk _ (aX 0 (by omega)) k (hE1 k' hk' k hkn)
    ·by_cases e:k=j;·subst e;exact he
     ·exact hk x hxm k (hE2 k (by omega))
   by_cases h0:ae m x j=0/\ae m j x=0;·rw[ct (dt h0.1),ct (dt (by omega))];simp only[Z53];rw[aN (by rw[aS];omega)];exact next L num den hf ⟨[],by simp⟩ (λ_ _ _ h=>h) (Or.inl h0)
   ·have hz:∀(X Y:Option J),(cond (lk N (decide (ae m x j=0))) (cond (lk N (decide (-(ae m j x)=0))) X Y) Y)=Y:=by
     intro X Y;by_cases z1:ae m x j=0;·rw[ct (dt z1),cf (df (λz2=>h0 ⟨z1,by omega⟩))]
     ·rw[cf (df z1)]
    rw[hz];rcases Qp (N:=N) (out:=out) hm (by omega) hcl hf hp hx hlt h0 (λnum3 den4 out5 piece7 at8 i9 t34 t35 t62 t63 m1_0 m1_1 m1_2=>Z53 N num3 den4 out5 piece7 at8 i9 t34 t35 t62 t63 m1_0 m1_1 m1_2 (λnum3 den4 out5 piece7 at8 i9 t34 t35 t62 t63 m1_0 m1_1 m1_2=>Z39L N k4 kr M num3 den4 out5 piece7 at8 i9 t34 t35 t62 t63 m1_0 m1_1 m1_2)) kr t34 t35 (m.1.toNat:Int) (j:Int)with hc|⟨L',num',den',h1,h2,h3,h4,h5⟩;·exact Or.inl hc
    ·rw[h5];simp only[Z53];rw[aN (by rw[aS];omega)];exact next L' num' den' h1 h2 h3 h4
  ·rw[eY (by rw[aL];exact df (by omega))];refine Or.inr ⟨L,num,den,hf,hp,λk' hk' k hk=>?_,rfl⟩;by_cases e:k'=p;·subst e;rw[hx];exact hE2 k (by omega)
   ·exact hE1 k' (by omega) k hk
def Qq(hN:10<=N)(hm:ba m=true)(hcl:u4 m.1.toNat (ae m) num0)(k2:List Int->List Int->List Int->List Int->Int->Int->Int->Int->List Int->Option J)(kr:List Int->Option J)(t34 t35:Int):∀(M p:Nat) (L:List Nat) (num den:List Int),fK m.1.toNat (ae m) s num0 L num den->p<=L.length->m.1.toNat-p<M ->
  (∀k',k'<p->∀k,k<m.1.toNat->gw (ae m) L num den (L.getD k' 0) k) ->
  (Z29L N k2 kr M num den out (ak L) (p:Int) t34 t35 m.1 m.2.1 m.2.2=kr []/\¬ ∃e,cY m.1.toNat (ae m) e) \/
  (∃L' num' den',fK m.1.toNat (ae m) s num0 L' num' den'/\(∀x∈L',∀k,k<m.1.toNat->gw (ae m) L' num' den' x k) /\
   Z29L N k2 kr M num den out (ak L) (p:Int) t34 t35 m.1 m.2.1 m.2.2=k2 num' den' out (ak L') t34 t35 m.1 m.2.1 m.2.2):=by
 have hdim:=cn hm;obtain⟨n,r,hn,hr,hn1,hn5,hnr,hr8,hl⟩:=aQ hdim;intro M;induction M with
 |zero=>intro p _ _ _ _ _ h;omega
 |succ M ih =>
  intro p L num den hf hp hM hE;have hle:=hf.le;simp only[Z29L,Z30,Z31];by_cases hlt:p<L.length
  ·rw[ct (dt (by rw[aU];omega))];simp only[Z32,Z33,Z34,Z35];rw[ct (aG (by rw[aU];exact hlt))];simp only[Z36,Z37,Z38,Z39,Int.toNat_natCast,d6,hf.nl];have hin:=inner (J:=J) (N:=N) (out:=out) hm hcl (λnum3 den4 out5 piece7 at8 t34 t35 m1_0 m1_1 m1_2=>Z54 N num3 den4 out5 piece7 at8 t34 t35 m1_0 m1_1 m1_2 (λnum3 den4 out5 piece7 at8 t34 t35 m1_0 m1_1 m1_2=>Z29L N k2 kr M num3 den4 out5 piece7 at8 t34 t35 m1_0 m1_1 m1_2)) kr t34 t35 N 0 L num den hf hlt rfl (by omega) (by omega) hE (λk hk=>by omega);rw[show((0:Nat):Int)=0 from rfl]at hin;rcases hin with hc|⟨L',num',den',h1,h2,h3,h4⟩;·exact Or.inl hc
   ·rw[h4];simp only[Z54];rw[aN (by rw[aS];omega)];exact ih (p+1) L' num' den' h1 h2 (by omega) h3
  ·rw[cf (df (by rw[aU];omega))];refine Or.inr ⟨L,num,den,hf,λx hx k hk=>?_,rfl⟩;obtain⟨k',hk',e⟩:=nF hx;rw[<-e];exact hE k' (by omega) k hk
def Qr(hf:fK m.1.toNat (ae m) s num0 L num den)(h5:m.1.toNat<=5){Q:Int}(q1:0<Q)(q2:Q<=96059601)(q3:∀x∈L,0<den.getD x 0/\den.getD x 0∣Q)(k6:List Int->List Int->List Int->List Int->Int->Int->Int->Int->Int->List Int->Option J)(t34 t35:Int):∀(M k:Nat) (c:Int),k<=L.length->L.length-k<M->0<c->c∣Q->(∀k',k'<k->den.getD (L.getD k' 0) 0∣c) ->
  ∃c',0<c'/\c'∣Q/\(∀x∈L,den.getD x 0∣c') /\
   Z61L N k6 M num den out (ak L) c t34 t35 ((ak L).length:Int) (k:Int) m.1 m.2.1 m.2.2=k6 num den out (ak L) c' t34 t35 m.1 m.2.1 m.2.2:=by
 have hle:=hf.le;intro M;induction M with
 |zero=>intro k _ _ h;omega
 |succ M ih =>
  intro k c hk hM hc hcQ hd;simp only[Z61L,Z62];by_cases hlt:k<L.length
  ·have hxm:L.getD k 0∈L:=aX 0 hlt;obtain⟨d1,d2⟩:=q3 _ hxm;have i1:ax (k:Int) (ak L).length=true:=aG (by rw[aU];exact hlt);have i2:ax ((L.getD k 0:Nat):Int) den.length=true:=aG (by rw[hf.dl];exact hf.lt _ hxm);obtain⟨g1,g2,g3,g4,g5,g6,g7⟩:=Pz hc d1 hcQ d2 q1;have b1:=Int.le_of_dvd q1 hcQ;have b2:=Int.le_of_dvd q1 d2;have b3:=Int.le_of_dvd q1 g5;rw[ct (dt (by rw[aU];omega)),ct i1];simp only[Int.toNat_natCast,d6];rw[ct i2,ct i2,ct (show cZ.P c (den.getD (L.getD k 0) 0)=true by simp only[cZ.P,Bool.and_eq_true,decide_eq_true_eq];omega)];have eg:cZ.g c (den.getD (L.getD k 0) 0)=(Int.gcd c (den.getD (L.getD k 0) 0):Int):=rfl;rw[ct (nt (by rw[eg];omega)),eg,bh (n:=Int.tdiv c _) (by omega) (by omega),bh (by omega) (by omega),aN (by rw[aS];omega)];refine ih (k+1) _ hlt (by omega) g4 g5 (λk' hk'=>?_);by_cases e:k'=k;·subst e;exact g7
   ·exact Int.dvd_trans (hd k' (by omega)) g6
  ·rw[cf (df (by rw[aU];omega))];refine⟨c,hc,hcQ,λx hx=>?_,rfl⟩;obtain⟨k',hk',e⟩:=nF hx;rw[<-e];exact hd k' (by omega)
structure O2(n:Nat)(L:List Nat)(num den out0:List Int)(c:Int)(k:Nat)(out:List Int)(g:Int):Prop where
 len:out.length=n
 old:∀x,x<n->(∀k',k'<k->x≠L.getD k' 0)->out.getD x 0=out0.getD x 0
 val:∀k',k'<k->out.getD (L.getD k' 0) 0*den.getD (L.getD k' 0) 0=c*num.getD (L.getD k' 0) 0/\0<out.getD (L.getD k' 0) 0/\out.getD (L.getD k' 0) 0<=9227446944279201
 gcd:g=((cu ((List.range k).map λt=>out.getD (L.getD t 0) 0):Nat):Int)
def O2.g_range{n:Nat}{out0:List Int}{c g:Int}{k:Nat}(h:O2 n L num den out0 c k out g):0<=g/\g<=9227446944279201/\(0<k->0<g):=by
 have h0:0<=g:=by rw[h.gcd];omega
 by_cases e:k=0;·subst e;have:=h.gcd;simp[cu]at this;omega
 ·obtain⟨_,a1,a2⟩:=h.val 0 (by omega);have hd:g∣out.getD (L.getD 0 0) 0:=by rw[h.gcd];exact uI (List.mem_map.2 ⟨0,List.mem_range.2 (by omega),rfl⟩)
  have:=Int.le_of_dvd a1 hd;refine⟨h0,by omega,λ_=>?_⟩;rcases Int.lt_or_le 0 g with h'|h';·exact h'
  ·have e:g=0:=by omega
   rw[e]at hd;have:=Int.zero_dvd.1 hd;omega
def Qs(hf:fK m.1.toNat (ae m) s num0 L num den)(h5:m.1.toNat<=5){c:Int}(c1:0<c)(c2:c<=96059601)(q3:∀x∈L,0<num.getD x 0/\num.getD x 0<=96059601/\0<den.getD x 0/\den.getD x 0∣c)(out0:List Int)(k8:List Int->List Int->List Int->List Int->Int->Int->Int->Int->Int->List Int->Option J)(t34 t35:Int):∀(M k:Nat) (out:List Int) (g:Int),k<=L.length->L.length-k<M->O2 m.1.toNat L num den out0 c k out g ->
  ∃out' g',O2 m.1.toNat L num den out0 c L.length out' g' /\
   Z69L N k8 M num den out (ak L) c g t34 t35 ((ak L).length:Int) (k:Int) m.1 m.2.1 m.2.2=k8 num den out' (ak L) g' t34 t35 m.1 m.2.1 m.2.2:=by
 have hle:=hf.le;intro M;induction M with
 |zero=>intro k _ _ _ h;omega
 |succ M ih =>
  intro k out g hk hM ho;simp only[Z69L,Z70];by_cases hlt:k<L.length
  ·have hxm:L.getD k 0∈L:=aX 0 hlt;have hxn:=hf.lt _ hxm;obtain⟨d1,d2,d3,d4⟩:=q3 _ hxm;have i1:ax (k:Int) (ak L).length=true:=aG (by rw[aU];exact hlt);have i2:ax ((L.getD k 0:Nat):Int) den.length=true:=aG (by rw[hf.dl];exact hxn);have i3:ax ((L.getD k 0:Nat):Int) num.length=true:=aG (by rw[hf.nl];exact hxn);have i4:ax ((L.getD k 0:Nat):Int) out.length=true:=aG (by rw[ho.len];exact hxn);have hxo:L.getD k 0<out.length:=by rw[ho.len];exact hxn
   have hg:=ho.g_range;have t1:Int.tdiv c (den.getD (L.getD k 0) 0)*den.getD (L.getD k 0) 0=c:=Int.tdiv_mul_cancel d4;have t2:0<Int.tdiv c (den.getD (L.getD k 0) 0)/\Int.tdiv c (den.getD (L.getD k 0) 0)<=c:=by
    generalize Int.tdiv c (den.getD (L.getD k 0) 0)=t at t1 ⊢;have:0<t:=by
     rcases Int.lt_or_le 0 t with h'|h';·exact h'
     ·have:=Int.mul_nonpos_of_nonpos_of_nonneg h' (Int.le_of_lt d3);omega
    have:=Int.mul_le_mul_of_nonneg_left (show(1:Int)<=den.getD (L.getD k 0) 0 by omega) (Int.le_of_lt this);exact⟨by omega,by omega⟩
   have t3:0<Int.tdiv c (den.getD (L.getD k 0) 0)*num.getD (L.getD k 0) 0:=Int.mul_pos t2.1 d1;have t4:Int.tdiv c (den.getD (L.getD k 0) 0)*num.getD (L.getD k 0) 0<=96059601*96059601:=Int.mul_le_mul (by omega) d2 (by omega) (by omega);rw[ct (dt (by rw[aU];omega)),ct i1];simp only[Int.toNat_natCast,d6];rw[ct i2,ct (nt (by omega)),ct i3,ct i4];simp only[bh (show -9223372036854775808<=Int.tdiv c (den.getD (L.getD k 0) 0) by omega) (by omega)];simp only[bh (show -9223372036854775808<=Int.tdiv c (den.getD (L.getD k 0) 0)*num.getD (L.getD k 0) 0 by omega) (by omega)];generalize hv:Int.tdiv c (den.getD (L.getD k 0) 0)*num.getD (L.getD k 0) 0=v at t3 t4 ⊢;have hself:(out.set (L.getD k 0) v).getD (L.getD k 0) 0=v:=by rw[cL hxo,if_pos rfl]
   have hget:∀t,t<k->(out.set (L.getD k 0) v).getD (L.getD t 0) 0=out.getD (L.getD t 0) 0:=λt ht'=>by rw[cL hxo,if_neg (λe=>by have:=lS hf.nd hlt (by omega) e;omega)]
   rw[ct (aG (by rw[List.length_set];exact hxo)),hself,ct (show cZ.P g v=true by simp only[cZ.P,Bool.and_eq_true,decide_eq_true_eq];omega),aN (by rw[aS];omega)];refine ih (k+1) _ _ hlt (by omega) ⟨by rw[List.length_set];exact ho.len, ?_, ?_, ?_⟩;·intro x hx hall;rw[cL hxo,if_neg (λe=>hall k (by omega) e.symm)];exact ho.old x hx (λt ht'=>hall t (by omega))
   ·intro t ht';by_cases e:t=k;·subst e;rw[hself];refine⟨?_,t3,by omega⟩;rw[<-hv];have e1:=t1;grind
    ·rw[hget t (by omega)];exact ho.val t (by omega)
   ·rw[List.range_succ,List.map_append,List.map_cons,List.map_nil,hself];rw[show(List.range k).map (λt=>(out.set (L.getD k 0) v).getD (L.getD t 0) 0)=(List.range k).map (λt=>out.getD (L.getD t 0) 0)from List.map_congr_left (λt ht'=>hget t (List.mem_range.1 ht'))];rw[ho.gcd];exact El _ _ v (by omega) rfl
  ·have e:k=L.length:=by omega
   subst e;exact⟨out,g,ho,by rw[cf (df (by rw[aU];omega))]⟩
def Qt(hf:fK m.1.toNat (ae m) s num0 L num den)(h5:m.1.toNat<=5){out2:List Int}{g:Int}(hg:0<g)(hv:∀x∈L,0<out2.getD x 0/\out2.getD x 0<=9227446944279201)(k10:List Int->List Int->List Int->Int->Int->Int->Int->List Int->Option J)(t34 t35:Int):∀(M k:Nat) (d:List Int),k<=L.length->L.length-k<M->T3 m (L,[]) out2 g k d ->
  ∃d',T3 m (L,[]) out2 g L.length d'/\Z74L N k10 M num den d (ak L) g t34 t35 ((ak L).length:Int) (k:Int) m.1 m.2.1 m.2.2=k10 num den d' t34 t35 m.1 m.2.1 m.2.2:=by
 have hle:=hf.le;intro M;induction M with
 |zero=>intro k _ _ h;omega
 |succ M ih =>
  intro k d hk hM ht;simp only[Z74L,Z75];by_cases hlt:k<L.length
  ·have hxm:L.getD k 0∈L:=aX 0 hlt;have hxn:=hf.lt _ hxm;obtain⟨v1,v2⟩:=hv _ hxm;have hcur:=ht.cur hf.nd hf.lt hlt;have hdv:0<=Int.tdiv (out2.getD (L.getD k 0) 0) g/\Int.tdiv (out2.getD (L.getD k 0) 0) g<=9227446944279201:=by rw[Int.tdiv_eq_ediv_of_nonneg (by omega)];refine⟨Int.ediv_nonneg (by omega) (by omega), ?_⟩;have:=Int.ediv_le_self (a:=out2.getD (L.getD k 0) 0) g (by omega);omega
   have i4:ax ((L.getD k 0:Nat):Int) d.length=true:=aG (by rw[ht.len];exact hxn);have hcur':d.getD (L.getD k 0) 0=out2.getD (L.getD k 0) 0:=hcur;rw[ct (dt (by rw[aU];omega)),ct (aG (by rw[aU];exact hlt))];simp only[Int.toNat_natCast,d6];rw[ct i4,ct (nt (by omega)),ct i4,hcur',bh (by omega) (by omega),aN (by rw[aS];omega)];exact ih (k+1) _ hlt (by omega) (ht.step hf.nd hf.lt hlt)
  ·have e:k=L.length:=by omega
   subst e;exact⟨d,ht,by rw[cf (df (by rw[aU];omega))]⟩
def outer(hN:10<=N)(hm:ba m=true)(kr:List Int->Option J):∀(M i:Nat) (num den out:List Int),pD m.1.toNat (ae m) num out->den.length=m.1.toNat->i<=m.1.toNat->(∀x,x<i->num.getD x 0≠0)->m.1.toNat-i<M ->
  Z10L N (λout5=>Z77 N out5 kr) kr M num den out (m.1.toNat:Int) (i:Int) m.1 m.2.1 m.2.2=kr (bj m):=by
 have hdim:=cn hm;obtain⟨n,r,hn,hr,hn1,hn5,hnr,hr8,hl⟩:=aQ hdim;intro M;induction M with
 |zero=>intro i _ _ _ _ _ _ _ h;omega
 |succ M ih =>
  intro i num den out hO hdl hi hpos hM;simp only[Z10L,Z11,Z12,Z13,Z14];by_cases hlt:i<m.1.toNat
  ·rw[dZ (by rw[aL];exact dt (by omega))];simp only[Z15,Z16,Z17,Z18,Z19,Z20];rw[ct (aG (by rw[hO.nl];exact hlt)),Int.toNat_natCast];by_cases hz:num.getD i 0=0
   ·rw[cf (nf hz)];simp only[Z21,Z22];rw[ct (aG (by rw[hO.nl];exact hlt)),ct (aG (by rw[hdl];exact hlt)),Int.toNat_natCast];simp only[Z23,Z24,Z25,Z26,Z27,Z28,Z29];have hnl:i<num.length:=by rw[hO.nl];exact hlt
    have hdl':i<den.length:=by rw[hdl];exact hlt
    have f0:fK m.1.toNat (ae m) i num [i] (num.set i 1) (den.set i 1):=by
     refine⟨by rw[List.length_set];exact hO.nl,by rw[List.length_set];exact hdl,by simp,λx hx=>by rw[List.mem_singleton]at hx;omega,rfl,by simp, ?_, ?_, ?_, ?_⟩;·intro x hx hni;rw[cL hnl,if_neg (λe=>hni (by simp[e]))]
     ·intro x hx;rw[List.mem_singleton]at hx;subst hx;exact hz
     ·refine⟨1,by omega,by simp,λx hx=>?_⟩;rw[List.mem_singleton]at hx;subst hx;rw[cL hnl,if_pos rfl,cL hdl',if_pos rfl];exact⟨by omega,by simp,by omega,Int.dvd_refl _,by decide⟩
     ·intro e he x hx;rw[List.mem_singleton]at hx;subst hx;rw[cL hnl,if_pos rfl,cL hdl',if_pos rfl]
    have hmid:=Qq (J:=J) (out:=out) hN hm hO.closed (λnum3 den4 out5 piece7 t34 t35 m1_0 m1_1 m1_2=>Z55 N num3 den4 out5 piece7 t34 t35 m1_0 m1_1 m1_2 (λnum3 den4 out5 t34 t35 m1_0 m1_1 m1_2=>Z76 N num3 den4 out5 t34 t35 m1_0 m1_1 m1_2 (λnum3 den4 out5 t34 t35 m1_0 m1_1 m1_2=>Z10L N (λout5=>Z77 N out5 kr) kr M num3 den4 out5 t34 t35 m1_0 m1_1 m1_2))) kr (m.1.toNat:Int) (i:Int) N 0 [i] (num.set i 1) (den.set i 1) f0 (by omega) (by omega) (λk' hk'=>by omega);rw[show((0:Nat):Int)=0 from rfl,show ak [i]=[(i:Int)]from rfl]at hmid;rcases hmid with⟨h1,h2⟩|⟨L,num',den',hf,hE,h1⟩;·rw[h1,Eh h2]
    ·rw[h1];have hle:=hf.le;obtain⟨Q,q1,q2,q3⟩:=hf.frac;have pw:=F8 (k:=L.length-1) (by omega);simp only[Z55,Z56,Z57,Z58,Z59,Z60,F3];obtain⟨c,c1,c2,c3,c4⟩:=Qr (J:=J) (N:=N) (out:=out) (num:=num') (m:=m) hf (by omega) q1 (by omega) (λx hx=>⟨(q3 x hx).2.2.1,(q3 x hx).2.2.2.1⟩) (λnum3 den4 out5 piece7 common16 t34 t35 m1_0 m1_1 m1_2=>Ai N num3 den4 out5 piece7 common16 t34 t35 m1_0 m1_1 m1_2 (λnum3 den4 out5 t34 t35 m1_0 m1_1 m1_2=>Z76 N num3 den4 out5 t34 t35 m1_0 m1_1 m1_2 (λnum3 den4 out5 t34 t35 m1_0 m1_1 m1_2=>Z10L N (λout5=>Z77 N out5 kr) kr M num3 den4 out5 t34 t35 m1_0 m1_1 m1_2))) (m.1.toNat:Int) (i:Int) N 0 1 (by omega) (by omega) (by omega) (Int.one_dvd _) (λk' hk'=>by omega);rw[show((0:Nat):Int)=0 from rfl]at c4;rw[c4];have cQ:=Int.le_of_dvd q1 c2;simp only[Ai,Z64,F6,Z66,Z67,Z68,F4];obtain⟨out2,g2,o1,o2⟩:=Qs (J:=J) (N:=N) (num:=num') (m:=m) hf (by omega) c1 (by omega) (λx hx=>⟨(q3 x hx).1,by have:=(q3 x hx).2.1;omega,(q3 x hx).2.2.1,c3 x hx⟩) out (λnum3 den4 out5 piece7 g19 t34 t35 m1_0 m1_1 m1_2=>Ah N num3 den4 out5 piece7 g19 t34 t35 m1_0 m1_1 m1_2 (λnum3 den4 out5 t34 t35 m1_0 m1_1 m1_2=>Z76 N num3 den4 out5 t34 t35 m1_0 m1_1 m1_2 (λnum3 den4 out5 t34 t35 m1_0 m1_1 m1_2=>Z10L N (λout5=>Z77 N out5 kr) kr M num3 den4 out5 t34 t35 m1_0 m1_1 m1_2))) (m.1.toNat:Int) (i:Int) N 0 out 0 (by omega) (by omega) ⟨hO.ol,λ_ _ _=>rfl,λk hk=>by omega,rfl⟩;rw[show((0:Nat):Int)=0 from rfl]at o2;rw[o2];have hg2:=o1.g_range.2.2 hf.pos;have hval:∀x∈L,out2.getD x 0*den'.getD x 0=c*num'.getD x 0/\0<out2.getD x 0/\out2.getD x 0<=9227446944279201:=by intro x hx;obtain⟨k,hk,e⟩:=nF hx;rw[<-e];exact o1.val k hk
     simp only[Ah,Z72,Z73,F5];obtain⟨out3,p1,p2⟩:=Qt (J:=J) (N:=N) (num:=num') (m:=m) hf (by omega) hg2 (λx hx=>(hval x hx).2) (λnum3 den4 out5 t34 t35 m1_0 m1_1 m1_2=>Z76 N num3 den4 out5 t34 t35 m1_0 m1_1 m1_2 (λnum3 den4 out5 t34 t35 m1_0 m1_1 m1_2=>Z10L N (λout5=>Z77 N out5 kr) kr M num3 den4 out5 t34 t35 m1_0 m1_1 m1_2)) (m.1.toNat:Int) (i:Int) N 0 out2 (by omega) (by omega) ⟨o1.len,λ_ _ _=>rfl,λk hk=>by omega⟩;rw[show((0:Nat):Int)=0 from rfl]at p2;rw[p2];have hgl:g2=((cu (L.map λx=>out2.getD x 0):Nat):Int):=by rw[<-Ej L (λx=>out2.getD x 0)];exact o1.gcd
     obtain⟨r1,r2,r3⟩:=hO.piece (out3:=out3) hf hE c1 hg2 (λx hx=>(hval x hx).1) hgl (λx hx=>by
      obtain⟨k,hk,e⟩:=nF hx;have:=p1.val k hk;rw[<-e];rw[show out3.getD (L.getD k 0) 0=_ from this];refine Int.tdiv_mul_cancel ?_;rw[hgl];exact uI (List.mem_map.2 ⟨L.getD k 0,aX 0 hk,rfl⟩)) (λx hx hni=>by
      have hne:∀k',k'<L.length->x≠L.getD k' 0:=λk' hk' e=>hni (by rw[e];exact aX 0 hk');rw[p1.out x hx hne,o1.old x hx hne]) p1.len
     simp only[Z76];rw[aN (by rw[aS];omega)];exact ih (i+1) num' den' out3 r1 hf.dl hlt (λx hx=>by
      by_cases e:x=i;·subst e;exact r2
      ·exact r3 x (by omega) (hpos x (by omega))) (by omega)
   ·rw[ct (nt hz)];simp only[Z76];rw[aN (by rw[aS];omega)];exact ih (i+1) num den out hO hdl hlt (λx hx=>by
     by_cases e:x=i;·subst e;exact hz
     ·exact hpos x (by omega)) (by omega)
  ·rw[eY (by rw[aL];exact df (by omega))];simp only[Z77];rw[hO.fac (λx hx=>hpos x (by omega)),dZ (by rw[hO.ol,Nat.blt_eq];omega)]
end
def ok:Spec:=λm hb hp=>⟨10,λN hN=>by
 have hm:ba m=true:=hp;have hdim:=cn hm;obtain⟨n,r,hn,hr,hn1,hn5,hnr,hr8,hl⟩:=aQ hdim;have hz:∀x,(List.replicate m.1.toNat (0:Int)).getD x 0=0:=λx=>by rw[List.getD_eq_getElem?_getD,List.getElem?_replicate];split<;>rfl
 have hc:(bF 0 m.1&&decide (m.1<1099511627776))=true:=by rw[kQ (by omega),dt (by omega)];rfl
 simp only[Z0,Z1,Z2,Z3];rw[ct hc,ct hc];have key:Z4 N (List.replicate m.1.toNat 0) (List.replicate m.1.toNat 0) m.1 m.2.1 m.2.2 (λt2=>some ((),(t2,())))=some ((),(g m,())):=by simp only[Z4,Z5];rw[ct hc];simp only[Z6,Z7,Z8,Z9,Z10,List.length_replicate];have:=outer (J:=Unit×List Int×Unit) hN hm (λt2=>some ((),(t2,()))) N 0 (List.replicate m.1.toNat 0) (List.replicate m.1.toNat 0) (List.replicate m.1.toNat 0) ⟨by simp,by simp,λy hy h=>absurd (hz y) h,λj hj h=>absurd (hz j) h⟩ (by simp) (by omega) (λx hx=>by omega) (by omega);exact this
 rw[key];simp only[bo,oM]⟩
end aH
namespace fP
def g(m:Int×Int×List Int):Bool:=ba m&&!decide (bj m=[])
def Z0{J:Type}(N:Nat)(a:MT)(kr:Bool->Option J):Option J :=
 cond (lk N ((lq.g a)))
 (
  cond (lk N (aH.P a)) (
   kr (lk N (!(decide ((aH.g a).length=0))))) none)
 (
  kr false)
def Spec:Prop:=∀ (v0:MT),Ty.bd (.pair (.int .i64) (.pair (.int .i64) (.sl 0 (.int .i64)))) v0->∃N0,∀N,N0<=N->Z0 N v0 (λv2=>some ((),(v2,())))=some ((),((g v0),()))
def ok:Spec:=λm hb=>⟨0,λN hN=>by
 simp only[Z0,aL,g,lq.g,aH.P,aH.g];cases ba m;·rfl
 ·by_cases h:bj m=[];·rw[dt h,dt (by rw[h];rfl)];rfl
  ·rw[df h,df (λe=>h (List.length_eq_zero_iff.1 e))];rfl⟩
end fP
namespace ed
def P(a:List Int):Bool:=decide (a.length<1099511627776)
abbrev g(a:List Int):List Int:=a
def Z0{J:Type}(N:Nat)(a:LI)(kr:LI->Option J):Option J :=
 cond (lk N (decide (0<a.length)))
 (
  cond (lk N (Nat.blt (([]:List Int).length+a.length) 1099511627776)) (
   kr (([]:List Int)++a)) none)
 (
  cI (
   kr ([]:List Int))
  (
   cond (lk N (Nat.blt (([]:List Int).length+a.length) 1099511627776)) (
    kr (([]:List Int)++a)) none))
def Spec:Prop:=∀ (v0:LI),Ty.bd (.sl 0 (.int .i64)) v0->P v0=true->∃N0,∀N,N0<=N->Z0 N v0 (λv2=>some ((),(v2,())))=some ((),((g v0),()))
def ok:Spec:=λa hb hp=>⟨0,λN hN=>by
 have hl:a.length<1099511627776:=by simpa[P]using hp
 have hc:Nat.blt (([]:List Int).length+a.length) 1099511627776=true:=by simpa using hl
 simp only[Z0,aL,g,hc,cond_true,List.nil_append];by_cases h:0<a.length;·simp[h]
 ·have:a=[]:=List.eq_nil_of_length_eq_zero (by omega);subst this;simp[oM]⟩
end ed
namespace jR
def g(m:Int×Int×List Int):Int×Int×List Int:=if(ba m&&!decide (bj m=[]))=true then iX m else(0,0,[])
def Z0{J:Type}(N:Nat)(a:MT)(kr:LI->I2 (Option J)):Option J :=
 cond (!(lk N ((fP.g a))))
 (
  kr ([]:List Int) 0 0)
 (
  cond (lk N (bF 0 (ah (a.1*a.1))&&bF (ah (a.1*a.1)) a.2.2.length)) (
   cond (lk N (ed.P (a.2.2.take (ah (a.1*a.1)).toNat))) (
    kr (ed.g (a.2.2.take (ah (a.1*a.1)).toNat)) a.1 a.1) none) none)
def Spec:Prop:=∀ (v0:MT),Ty.bd (.pair (.int .i64) (.pair (.int .i64) (.sl 0 (.int .i64)))) v0->∃N0,∀N,N0<=N->Z0 N v0 (λv2_2 v2_0 v2_1=>some ((),((v2_0,(v2_1,v2_2)),())))=some ((),((g v0),()))
def ok:Spec:=λm hb=>⟨0,λN hN=>by
 simp only[Z0,aL,g,fP.g];cases h:(ba m&&!decide (bj m=[]));·rfl
 ·have hd:aY m=true:=by simp only[Bool.and_eq_true]at h;have hs:=h.1;simp only[aT,ba,Bool.and_eq_true]at hs;first | exact hs.1.1 | exact hs.1
  obtain⟨h1,h2,h3,h4⟩:=En hd;have hP:ed.P (m.2.2.take (m.1*m.1).toNat)=true:=dt (by rw[List.length_take];omega);rw[h1,kQ h2,kQ h4,hP];rfl⟩
end jR
namespace jS
def g(xs:List Int)(i:Int)(ys:List Int):List Int:=gT xs i ys
def P(xs:List Int)(i:Int)(ys:List Int):Bool:=nC xs i ys
def ok:True:=trivial
end jS
namespace bJ
def P(n:Int):Bool:=decide (0<=n)&&decide (n<=5)
def g(n:Int):List (List Int):=eL n.toNat
def Z1{J:Type}(N:Nat)(a:Int)(kn:Int->Option J):Option J :=
 kn a
def Z3{J:Type}(N:Nat)(a:Int)(kn:LL->Int->Option J):Option J :=
 kn ([([]:List Int)]:List (LI)) a
def Z6{J:Type}(N:Nat)(a:LL)(b:Int)(kn:LL->I2 (Option J)):Option J :=
 kn a b 0
def Z10{J:Type}(N:Nat)(a:LL)(b c:Int)(kn:LL->I2 (Option J))(k0:LL->Option J):Option J :=
 cond (lk N (decide (c<b)))
 (
  kn a b c)
 (
  k0 a)
def Z14{J:Type}(N:Nat)(a:LL)(b c:Int)(kn:LL->I2 (Option J)):Option J :=
 kn a b c
def Z17{J:Type}(N:Nat)(a:LL)(b c:Int)(kn:LL->I4 (Option J)):Option J :=
 kn a b c (a.length:Int) 0
def Z21{J:Type}(N:Nat)(c d:LL)(e f a b:Int)(kn:LL->LL->I4 (Bool->Option J)):Option J :=
 kn c d e f a b (lk N (decide (b<a)))
def Z23{J:Type}(N:Nat)(a d:LL)(b c e f:Int)(g:Bool)(kn:LL->LL->I4 (Option J))(k2:LL->I2 (Option J)):Option J :=
 cond (g)
 (
  kn a d b c e f)
 (
  k2 a b c)
def Z27{J:Type}(N:Nat)(c a:LL)(d e f b:Int)(kn:LL->LL->I2 (LI->I2 (Option J))):Option J :=
 cond (lk N (ax b a.length)) (
  kn c a d e (a.getD b.toNat []) f b) none
def Z29{J:Type}(N:Nat)(a b:LL)(c d:Int)(e:LI)(f g:Int)(kn:LL->LL->I2 (LI->I3 (Option J))):Option J :=
 kn a b c d e 0 f g
def Z32{J:Type}(N:Nat)(d e:LL)(f b:Int)(a:LI)(c h i:Int)(kn:LL->LL->I2 (LI->I3 (Option J)))(k4:LL->LL->I4 (Option J)):Option J :=
 cond (lk N (decide (c<=(a.length:Int))))
 (
  cond (lk N (ed.P a)) (
   cond (lk N (jS.P (ed.g a) c ([b]:List Int))) (
    cond (lk N (Nat.blt (d.length+([(jS.g (ed.g a) c ([b]:List Int))]:List (LI)).length) 1099511627776)) (
     kn (d++([(jS.g (ed.g a) c ([b]:List Int))]:List (LI))) e f b a (ah (c+1)) h i) none) none) none)
 (
  k4 d e f b h i)
def Z31L{J:Type}(N:Nat)(k4:LL->LL->I4 (Option J)):Nat->LL->LL->Int->Int->LI->Int->Int->Int->Option J
 |0,_,_,_,_,_,_,_,_=>none
 |M+1,a,b,c,d,e,f,g,h=>Z32 N a b c d e f g h (λa b c d e f g h=>Z31L N k4 M a b c d e f g h) k4
def Z31 N a b c d e f g h k4:=(Z31L N k4 N a b c d e f g h:Option J)
def Z30 N a b c d e f g h kn:=(Z31 N a b c d e f g h kn:Option J)
def Z28 N a b c d e f g kn:=(Z29 N a b c d e f g (λa b c d e h f g=>Z30 N a b c d e h f g kn):Option J)
def Z26 N a b c d e f kn:=(Z27 N a b c d e f (λa b c d g e f=>Z28 N a b c d g e f kn):Option J)
def Z25 N a b c d e f kn:=(Z26 N a b c d e f kn:Option J)
def Z33{J:Type}(N:Nat)(a b:LL)(c d e f:Int)(kn:LL->LL->I4 (Option J)):Option J :=
 kn a b c d e (ah (f+1))
def Z24 N a b c d e f kn:=(Z25 N a b c d e f (λa b c d e f=>Z33 N a b c d e f kn):Option J)
def Z22 N a b c d e f g kn k2:=(Z23 N a b c d e f g (λa b c d e f=>Z24 N a b c d e f kn) k2:Option J)
def Z20 N a b c d e f kn k2:=(Z21 N a b c d e f (λa b c d e f g=>Z22 N a b c d e f g kn k2):Option J)
def Z19L{J:Type}(N:Nat)(k2:LL->I2 (Option J)):Nat->LL->LL->Int->Int->Int->Int->Option J
 |0,_,_,_,_,_,_=>none
 |M+1,a,b,c,d,e,f=>Z20 N a b c d e f (λa b c d e f=>Z19L N k2 M a b c d e f) k2
def Z19 N a b c d e k2:=(Z19L N k2 N ([]:List (LI)) a b c d e:Option J)
def Z18 N a b c d e kn:=(Z19 N a b c d e kn:Option J)
def Z16 N c a b kn:=(Z17 N c a b (λd a b e f=>Z18 N d a b e f kn):Option J)
def Z34{J:Type}(N:Nat)(a:LL)(b c:Int)(kn:LL->I2 (Option J)):Option J :=
 kn a b c
def Z15 N c a b kn:=(Z16 N c a b (λd a b=>Z34 N d a b kn):Option J)
def Z13 N a b c kn:=(Z14 N a b c (λa b c=>Z15 N a b c kn):Option J)
def Z12 N a b c kn:=(Z13 N a b c kn:Option J)
def Z35{J:Type}(N:Nat)(a:LL)(b c:Int)(kn:LL->I2 (Option J)):Option J :=
 kn a b (ah (c+1))
def Z11 N a b c kn:=(Z12 N a b c (λa b c=>Z35 N a b c kn):Option J)
def Z9 N a b c kn k0:=(Z10 N a b c (λa b c=>Z11 N a b c kn) k0:Option J)
def Z8L{J:Type}(N:Nat)(k0:LL->Option J):Nat->LL->Int->Int->Option J
 |0,_,_,_=>none
 |M+1,a,b,c=>Z9 N a b c (λa b c=>Z8L N k0 M a b c) k0
def Z8 N a b c k0:=(Z8L N k0 N a b c:Option J)
def Z7 N a b c kn:=(Z8 N a b c kn:Option J)
def Z5 N a b kn:=(Z6 N a b (λa b c=>Z7 N a b c kn):Option J)
def Z36{J:Type}(N:Nat)(a:LL)(kr:LL->Option J):Option J :=
 kr a
def Z4 N a b kr:=(Z5 N a b (λa=>Z36 N a kr):Option J)
def Z2 N a kr:=(Z3 N a (λb a=>Z4 N b a kr):Option J)
def Z0 N a kr:=(Z1 N a (λa=>Z2 N a kr):Option J)
def Spec:Prop:=∀ (v0:Int),P v0=true->∃N0,∀N,N0<=N->Z0 N v0 (λv2=>some ((),(v2,())))=some ((),((g v0),()))
def inner{J:Type}{N:Nat}{l:List Int}(hl:l.length<=5)(t15:List (List Int))(n k t16 t17:Int)(k4:List (List Int)->List (List Int)->Int->Int->Int->Int->Option J):∀(M i:Nat) (next:List (List Int)),i<=l.length+1->next.length+(l.length+1-i)<=10000->l.length+1-i<M ->
  Z31L N k4 M next t15 n k l (i:Int) t16 t17=k4 (next++((List.range (l.length+1)).drop i).map λi=>gT l ((i:Nat):Int) [k]) t15 n k t16 t17:=by
 intro M;induction M with
 |zero=>intro i next _ _ h;omega
 |succ M ih =>
  intro i next hi hs hM
  simp only[Z31L,Z32];by_cases h:i<l.length+1
  ·have h1:ed.P l=true:=dt (by omega);have h1g:ed.g l=l:=rfl;have h2:jS.P l (i:Int) [k]=true:=by show nC l (i:Int) [k]=true;simp only[nC,Bool.and_eq_true,decide_eq_true_eq,Int.toNat_natCast];exact⟨Nat.ble_eq_true_of_le (by omega),by omega,rfl,Nat.ble_eq_true_of_le (by simp;omega)⟩
   have h2g:jS.g l (i:Int) [k]=gT l (i:Int) [k]:=rfl;have h3:Nat.blt (next.length+([gT l (i:Int) [k]]:List (List Int)).length) 1099511627776=true:=Nat.ble_eq_true_of_le (by simp;omega);rw[ct (dt (by omega)),ct h1,h1g,ct h2,h2g,ct h3,aN (by rw[aS];omega),ih (i+1) _ h (by simp;omega) (by omega),pf h,List.map_cons,List.append_assoc];rfl
  ·rw[cf (df (by omega)),List.drop_of_length_le (by simp;omega)];simp
def mid{J:Type}{N:Nat}(hN:10<=N){t15:List (List Int)}(ht:∀o∈t15,o.length<=5)(ht2:t15.length<=1000)(n k:Int)(k2:List (List Int)->Int->Int->Option J):∀(M j:Nat) (next:List (List Int)),j<=t15.length->next.length+(t15.length-j)*6<=10000->t15.length-j<M ->
  Z19L N k2 M next t15 n k (t15.length:Int) (j:Int)=k2 (next++(t15.drop j).flatMap (Ew k)) n k:=by
 intro M;induction M with
 |zero=>intro i next _ _ h;omega
 |succ M ih =>
  intro j next hj hs hM
  simp only[Z19L,Z20,Z21,Z22,Z23];by_cases h:j<t15.length
  ·have hl:=ht _ (aX (l:=t15) [] h);rw[ct (dt (by omega))];simp only[Z24,Z25,Z26,Z27];rw[ct (aG h),Int.toNat_natCast];simp only[Z28,Z29,Z30,Z31];have hin:=inner (J:=J) (N:=N) hl t15 n k (t15.length:Int) (j:Int) (λnext5 t15 n0 k4 t16 t17=>Z33 N next5 t15 n0 k4 t16 t17 (λnext5 t15 n0 k4 t16 t17=>Z19L N k2 M next5 t15 n0 k4 t16 t17)) N 0 next (by omega) (by omega) (by omega)
   rw[show((0:Nat):Int)=0 from rfl,List.drop_zero]at hin;rw[hin];simp only[Z33];have e:(t15.length-j)*6=(t15.length-(j+1))*6+6:=by omega
   rw[aN (by rw[aS];omega),ih (j+1) _ h (by rw[List.length_append,List.length_map,List.length_range];omega) (by omega),cK (l:=t15) [] h,List.flatMap_cons,List.append_assoc];rfl
  ·rw[cf (df (by omega)),List.drop_of_length_le (by omega)];simp
def outer{J:Type}{N n:Nat}(hN:1000<=N)(hn:n<=5)(k0:List (List Int)->Option J):∀(M k:Nat),k<=n->n-k<M ->
  Z8L N k0 M (eL k) (n:Int) (k:Int)=k0 (eL n):=by
 intro M;induction M with
 |zero=>intro k _ h;omega
 |succ M ih =>
  intro k hk hM;simp only[Z8L,Z9,Z10];by_cases h:k<n;·rw[ct (dt (by omega))];simp only[Z11,Z12,Z13,Z14,Z15,Z16,Z17,Z18,Z19];have hlen:=Ez (n:=k) (by omega);have hm:=mid (J:=J) (N:=N) (by omega) (t15:=eL k) (λo ho=>by rw[OJ (by omega) o ho];omega) (by omega) (n:Int) (k:Int) (λnext5 n0 k4=>Z34 N next5 n0 k4 (λout3 n0 k4=>Z35 N out3 n0 k4 (λout3 n0 k4=>Z8L N k0 M out3 n0 k4))) N 0 [] (Nat.zero_le _) (by simp;omega) (by omega);rw[show((0:Nat):Int)=0 from rfl,List.drop_zero,List.nil_append]at hm;rw[hm];simp only[Z34,Z35];rw[aN (by rw[aS];omega)];exact ih (k+1) h (by omega)
  ·rw[cf (df (by omega)),show k=n by omega]
def ok:Spec:=λn hp=>⟨1000,λN hN=>by simp only[P,Bool.and_eq_true,decide_eq_true_eq]at hp;obtain⟨n,rfl⟩:=Int.eq_ofNat_of_zero_le hp.1;simp only[Z0,Z1,Z2,Z3,Z4,Z5,Z6,Z7,Z8];refine(outer hN (by omega) _ N 0 (Nat.zero_le _) (by omega)).trans ?_;rw[g,Int.toNat_natCast];rfl⟩
end bJ
namespace fu
def go(v:Int):List Int->Nat->Int
 |[],_=>-1
 |x::xs,j=>if v=x then(j:Int)else go v xs (j+1)
def g(s:List Int)(v:Int):Int:=go v s 0
def Z1{J:Type}(N:Nat)(a:LI)(b:Int)(kn:LI->Int->Option J):Option J :=
 kn a b
def Z4{J:Type}(N:Nat)(a:LI)(b:Int)(kn:LI->I3 (Option J)):Option J :=
 kn a b (a.length:Int) 0
def Z7{J:Type}(N:Nat)(b:LI)(c d a:Int)(kn:LI->I3 (Option J))(k0:Option J)(kr:Int->Option J):Option J :=
 cond (lk N (decide (a<d)))
 (
  cond (lk N (ax a b.length)) (
   cond (lk N (decide (c=(b.getD a.toNat 0))))
   (
    kr a)
   (
    kn b c d (ah (a+1)))) none)
 (
  k0)
def Z6L{J:Type}(N:Nat)(k0:Option J)(kr:Int->Option J):Nat->LI->Int->Int->Int->Option J
 |0,_,_,_,_=>none
 |M+1,a,b,c,d=>Z7 N a b c d (λa b c d=>Z6L N k0 kr M a b c d) k0 kr
def Z6 N a b c d k0 kr:=(Z6L N k0 kr N a b c d:Option J)
def Z5 N a b c d kn kr:=(Z6 N a b c d kn kr:Option J)
def Z3 N a b kn kr:=(Z4 N a b (λa b c d=>Z5 N a b c d kn kr):Option J)
def Z8{J:Type}(N:Nat) (kr:Int->Option J):Option J :=
 kr (-1)
def Z2 N a b kr:=(Z3 N a b (Z8 N kr) kr:Option J)
def Z0 N a b kr:=(Z1 N a b (λa b=>Z2 N a b kr):Option J)
def Spec:Prop:=∀ (v0:LI) (v1:Int),Ty.bd (.sl 0 (.int .i64)) v0->∃N0,∀N,N0<=N->Z0 N v0 v1 (λv4=>some ((),(v4,())))=some ((),((g v0 v1),()))
def loop{J:Type}(N:Nat)(kr:Int->Option J)(v:Int)(a:List Int)(ha:a.length<=maxLen):∀(M j:Nat),j<=a.length->a.length-j<M ->
  Z6L N (kr (-1)) kr M a v (a.length:Int) (j:Int)=kr (go v (a.drop j) j):=by
 intro M;induction M with
 |zero=>intro j _ h;omega
 |succ M ih =>
  intro j hj hM;simp only[Z6L,Z7];by_cases h:j<a.length
  ·rw[ct (dt (by omega)),ct (aG h),Int.toNat_natCast,aN (by omega),ih (j+1) h (by omega),cK 0 h,go];by_cases e:v=a.getD j 0;·rw[ct (dt e),if_pos e]
   ·rw[cf (df e),if_neg e]
  ·rw[cf (df (by omega)),List.drop_of_length_le (by omega),go]
def ok:Spec:=λa v ha=>⟨a.length+1,λN hN=>by simp only[Z1,Z4,Z7,Z6,Z5,Z3,Z8,Z2,Z0];exact(loop N (λt=>some ((),(t,()))) v a ha.1 N 0 (by omega) (by omega)).trans rfl⟩
def go_pos(v:Int):∀(l:List Int) (j:Nat),0<=go v l j↔v∈l
 |[],j=>by simp[go]
 |x::xs,j=>by
  rw[go];by_cases h:v=x;·rw[if_pos h];simp[h]
  ·rw[if_neg h,go_pos v xs];simp[h]
end fu
namespace lr
def g(s:List Int)(v:Int):Bool:=s.any λx=>decide (x=v)
def Z0{J:Type}(N:Nat)(a:LI)(b:Int)(kr:Bool->Option J):Option J :=
 kr (lk N (decide (0<=(fu.g a b))))
def Spec:Prop:=∀ (v0:LI) (v1:Int),Ty.bd (.sl 0 (.int .i64)) v0->∃N0,∀N,N0<=N->Z0 N v0 v1 (λv4=>some ((),(v4,())))=some ((),((g v0 v1),()))
def ok:Spec:=λa v ha=>⟨0,λN hN=>by
 simp only[Z0,aL,g];have:=(show 0<=fu.g a v↔v∈a from fu.go_pos v a 0);have h2:(a.any λx=>decide (x=v))=true↔v∈a:=by simp
 cases e:a.any λx=>decide (x=v);·rw[df (λh=>by rw[h2.2 (this.1 h)]at e;cases e)]
 ·rw[dt (this.2 (h2.1 e))]⟩
end lr
namespace eS
def g(l:List Int)(n:Int):Bool:=eD l n
def Z1{J:Type}(N:Nat)(a:LI)(b:Int)(kn:LI->Int->Option J):Option J :=
 kn a b
def Z3{J:Type}(N:Nat)(a:LI)(b:Int)(kn:LI->Int->Option J)(kr:Bool->Option J):Option J :=
 cond (lk N (!(decide ((a.length:Int)=b))))
 (
  kr false)
 (
  kn a b)
def Z6{J:Type}(N:Nat)(a:LI)(b:Int)(kn:LI->Int->LI->I2 (Option J)):Option J :=
 kn a b a (a.length:Int) 0
def Z9{J:Type}(N:Nat)(c:LI)(d:Int)(b:LI)(e a:Int)(kn:LI->Int->LI->I2 (Option J))(k0:Option J)(kr:Bool->Option J):Option J :=
 cond (lk N (decide (a<e)))
 (
  cond (lk N (ax a b.length)) (
   cond (!(lk N ((gB.g (b.getD a.toNat 0) 0 (ah (d-1))))))
   (
    kr false)
   (
    cond (lk N (bF 0 a&&bF a c.length)) (
     cond (lk N ((lr.g (c.take a.toNat) (b.getD a.toNat 0))))
     (
      kr false)
     (
      kn c d b e (ah (a+1)))) none)) none)
 (
  k0)
def Z8L{J:Type}(N:Nat)(k0:Option J)(kr:Bool->Option J):Nat->LI->Int->LI->Int->Int->Option J
 |0,_,_,_,_,_=>none
 |M+1,a,b,c,d,e=>Z9 N a b c d e (λa b c d e=>Z8L N k0 kr M a b c d e) k0 kr
def Z8 N a b c d e k0 kr:=(Z8L N k0 kr N a b c d e:Option J)
def Z7 N a b c d e kn kr:=(Z8 N a b c d e kn kr:Option J)
def Z5 N a b kn kr:=(Z6 N a b (λa b c d e=>Z7 N a b c d e kn kr):Option J)
def Z10{J:Type}(N:Nat) (kr:Bool->Option J):Option J :=
 kr true
def Z4 N a b kr:=(Z5 N a b (Z10 N kr) kr:Option J)
def Z2 N a b kr:=(Z3 N a b (λa b=>Z4 N a b kr) kr:Option J)
def Z0 N a b kr:=(Z1 N a b (λa b=>Z2 N a b kr):Option J)
def Spec:Prop:=∀ (v0:LI) (v1:Int),Ty.bd (.sl 0 (.int .i64)) v0->∃N0,∀N,N0<=N->Z0 N v0 v1 (λv4=>some ((),(v4,())))=some ((),((g v0 v1),()))
def loop{J:Type}(N:Nat)(k0:Option J)(kr:Bool->Option J)(l:List Int)(hl:l.length<=maxLen):∀(M j:Nat),j<=l.length->l.length-j<M ->
  Z8L N k0 kr M l (l.length:Int) l (l.length:Int) (j:Int)=cond (((List.range l.length).drop j).all (rW l (l.length:Int))) k0 (kr false):=by
 intro M;induction M with
 |zero=>intro j _ h;omega
 |succ M ih =>
  intro j hj hM;simp only[Z8L,Z9];by_cases h:j<l.length
  ·have e1:gB.g (l.getD j 0) 0 (ah ((l.length:Int)-1))=b7 (l.getD j 0) 0 ((l.length:Int)-1):=by rw[bh (by omega) (by rw[aS]at hl;omega)];rfl
   have e2:(bF 0 (j:Int)&&bF (j:Int) l.length)=true:=by rw[kQ (by omega),kQ (by omega)];rfl
   rw[ct (dt (by omega)),ct (aG h),Int.toNat_natCast,e1,ct e2,aN (by omega),ih (j+1) h (by omega),pf h,List.all_cons,rW];simp only[aL,lr.g];cases b7 (l.getD j 0) 0 ((l.length:Int)-1);·rfl
   ·cases((l.take j).any λx=>decide (x=l.getD j 0))<;>rfl
  ·rw[cf (df (by omega)),List.drop_of_length_le (by simp;omega)];rfl
def ok:Spec:=λl n hb=>⟨l.length+1,λN hN=>by
 simp only[Z1,Z3,Z6,Z9,Z8,Z7,Z5,Z10,Z4,Z2,Z0,g,eD];by_cases h:(l.length:Int)=n;·subst h;have:=loop N (some ((),(true,()))) (λt=>some ((),(t,()))) l hb.1 N 0 (by omega) (by omega);rw[show((0:Nat):Int)=0 from rfl,List.drop_zero]at this;rw[cf (nf rfl),this,dt rfl];cases(List.range l.length).all (rW l (l.length:Int))<;>rfl
 ·rw[ct (nt h),df h];rfl⟩
end eS
namespace bM
def g(m:Int×Int×List Int)(aC:List Int):(Int×Int×List Int)×Bool :=
 if((ba m&&!decide (bj m=[]))&&eD aC m.1)=true then(ci m aC,true)else((0,0,[]),false)
def Z1{J:Type}(N:Nat)(a:MT)(b:LI)(kn:LI->I2 (LI->I2 (Option J))):Option J :=
 kn b a.1 a.2.1 a.2.2 0 0
def Z3{J:Type}(N:Nat)(b:LI)(a c:Int)(d:LI)(e f:Int)(kn:LI->I2 (LI->I2 (Option J)))(kr:LI->Bool->I2 (Option J)):Option J :=
 cond (!(lk N ((fP.g (a,(c,d))))))
 (
  kr ([]:List Int) false 0 0)
 (
  cond (!(lk N ((eS.g b a))))
  (
   kr ([]:List Int) false 0 0)
  (
   kn b a c d e f))
def Z5{J:Type}(N:Nat)(d:LI)(b c:Int)(a:LI)(e f:Int)(kn:LI->LI->I2 (LI->I4 (Option J))):Option J :=
 cI (
  cond (lk N (bF 0 (a.length:Int)&&decide ((a.length:Int)<1099511627776))) (
   bo (
    kn (List.replicate (a.length:Int).toNat (0:Int)) d b c a e f b c)) none)
 (
  cond (lk N (bF 0 (a.length:Int)&&decide ((a.length:Int)<1099511627776))) (
   kn (List.replicate (a.length:Int).toNat (0:Int)) d b c a e f b c) none)
def Z8{J:Type}(N:Nat)(a b:LI)(c d:Int)(e:LI)(f g h i:Int)(kn:LI->LI->I3 (LI->I4 (Option J))):Option J :=
 kn a b 0 c d e f g h i
def Z12{J:Type}(N:Nat)(a h:LI)(b i c:Int)(j:LI)(d e f g:Int)(kn:LI->LI->I3 (LI->I4 (Option J)))(k0:LI->I4 (Option J)):Option J :=
 cond (lk N (decide (b<c)))
 (
  kn a h b i c j d e f g)
 (
  k0 a d e f g)
def Z16{J:Type}(N:Nat)(b c:LI)(a d e:Int)(f:LI)(g h i j:Int)(kn:LI->LI->I4 (LI->I4 (Option J))):Option J :=
 kn b c a a d e f g h i j
def Z18{J:Type}(N:Nat)(d b:LI)(a l c e:Int)(f:LI)(g h i j:Int)(kn:LI->LI->I4 (LI->I4 (Option J))):Option J :=
 cond (lk N (decide (a<c)))
 (
  cond (lk N (ax a b.length)) (
   kn d b a (b.getD a.toNat 0) c e f g h i j) none)
 (
  kn d b a l c e f g h i j)
def Z20{J:Type}(N:Nat)(a b:LI)(c d e f:Int)(g:LI)(h i j l:Int)(kn:LI->LI->I5 (LI->I4 (Option J))):Option J :=
 kn a b c d 0 e f g h i j l
def Z23{J:Type}(N:Nat)(h c:LI)(d i a b e:Int)(f:LI)(j l m o:Int)(kn:LI->LI->I5 (LI->I4 (Option J)))(k2:LI->LI->I3 (LI->I4 (Option J))):Option J :=
 cond (lk N (decide (a<b)))
 (
  cond (lk N (ax a c.length)) (
   cond (lk N (cb.P (b,(e,f)) d a)) (
    cond (lk N (ax (ah ((ah (i*b))+(c.getD a.toNat 0))) h.length)) (
     kn (h.set (ah ((ah (i*b))+(c.getD a.toNat 0))).toNat (cb.g (b,(e,f)) d a)) c d i (ah (a+1)) b e f j l m o) none) none) none)
 (
  k2 h c d b e f j l m o)
def Z22L{J:Type}(N:Nat)(k2:LI->LI->I3 (LI->I4 (Option J))):Nat->LI->LI->Int->Int->Int->Int->Int->LI->Int->Int->Int->Int->Option J
 |0,_,_,_,_,_,_,_,_,_,_,_,_=>none
 |M+1,a,b,c,d,e,f,g,h,i,j,l,m=>Z23 N a b c d e f g h i j l m (λa b c d e f g h i j l m=>Z22L N k2 M a b c d e f g h i j l m) k2
def Z22 N a b c d e f g h i j l m k2:=(Z22L N k2 N a b c d e f g h i j l m:Option J)
def Z21 N a b c d e f g h i j l m kn:=(Z22 N a b c d e f g h i j l m kn:Option J)
def Z19 N a b c d e f g h i j l kn:=(Z20 N a b c d e f g h i j l (λa b c d m e f g h i j l=>Z21 N a b c d m e f g h i j l kn):Option J)
def Z17 N a b c d e f g h i j l kn:=(Z18 N a b c d e f g h i j l (λa b c d e f g h i j l=>Z19 N a b c d e f g h i j l kn):Option J)
def Z15 N a b c d e f g h i j kn:=(Z16 N a b c d e f g h i j (λa b c l d e f g h i j=>Z17 N a b c l d e f g h i j kn):Option J)
def Z14 N a b c d e f g h i j kn:=(Z15 N a b c d e f g h i j kn:Option J)
def Z24{J:Type}(N:Nat)(a b:LI)(c d e:Int)(f:LI)(g h i j:Int)(kn:LI->LI->I3 (LI->I4 (Option J))):Option J :=
 kn a b (ah (c+1)) d e f g h i j
def Z13 N a b c d e f g h i j kn:=(Z14 N a b c d e f g h i j (λa b c d e f g h i j=>Z24 N a b c d e f g h i j kn):Option J)
def Z11 N a b c d e f g h i j kn k0:=(Z12 N a b c d e f g h i j (λa b c d e f g h i j=>Z13 N a b c d e f g h i j kn) k0:Option J)
def Z10L{J:Type}(N:Nat)(k0:LI->I4 (Option J)):Nat->LI->LI->Int->Int->Int->LI->Int->Int->Int->Int->Option J
 |0,_,_,_,_,_,_,_,_,_,_=>none
 |M+1,a,b,c,d,e,f,g,h,i,j=>Z11 N a b c d e f g h i j (λa b c d e f g h i j=>Z10L N k0 M a b c d e f g h i j) k0
def Z10 N a b c d e f g h i j k0:=(Z10L N k0 N a b c d e f g h i j:Option J)
def Z9 N a b c d e f g h i j kn:=(Z10 N a b c d e f g h i j kn:Option J)
def Z7 N a b c d e f g h i kn:=(Z8 N a b c d e f g h i (λa b j c d e f g h i=>Z9 N a b j c d e f g h i kn):Option J)
def Z25{J:Type}(N:Nat)(a:LI)(d e b c:Int)(kr:LI->Bool->I2 (Option J)):Option J :=
 kr a true b c
def Z6 N a f g h i b c d e kr:=(Z7 N a f g h i b c d e (λa b c d e=>Z25 N a b c d e kr):Option J)
def Z4 N a b c d e f kr:=(Z5 N a b c d e f (λg a b c d e f h i=>Z6 N g a b c d e f h i kr):Option J)
def Z2 N a b c d e f kr:=(Z3 N a b c d e f (λa b c d e f=>Z4 N a b c d e f kr) kr:Option J)
def Z0 N b a kr:=(Z1 N b a (λa c d e f g=>Z2 N a c d e f g kr):Option J)
def Spec:Prop:=∀ (v0:MT) (v1:LI),Ty.bd (.pair (.int .i64) (.pair (.int .i64) (.sl 0 (.int .i64)))) v0->Ty.bd (.sl 0 (.int .i64)) v1->∃N0,∀N,N0<=N->Z0 N v0 v1 (λv4_2 v5 v4_0 v4_1=>some ((),((v4_0,(v4_1,v4_2)),(v5,()))))=some ((),((g v0 v1).1,((g v0 v1).2,())))
section
variable {J : Type} {N : Nat} {m : Int × Int × List Int} {L : List Nat}
def at_g(hd:0<=m.1)(a b:Nat):cb.g (m.1,(m.2.1,m.2.2)) (a:Int) (b:Int)=ae m a b:=fF hd a b
def at_p(hd:aY m=true){a b:Nat}(ha:a<m.2.1.toNat)(hb:b<m.1.toNat):cb.P (m.1,(m.2.1,m.2.2)) (a:Int) (b:Int)=true:=fG hd ha hb
def cur(m:Int×Int×List Int)(L:List Nat)(st:List Int)(t:Nat):List Int:=iY m.2.2.length t (fb m.1.toNat L) (λp=>m.2.2.getD (fb m.1.toNat L p) 0) (λp=>st.getD p 0)
def inner(hd:aY m=true)(h1:L.Nodup)(h2:∀x∈L,x<m.1.toNat)(h3:L.length=m.1.toNat)(st:List Int)(k2:List Int->List Int->Int->Int->Int->List Int->Int->Int->Int->Int->Option J)(t0 t1 o0 o1:Int){i:Nat}(hi:i<m.2.1.toNat):∀(M j:Nat),j<=m.1.toNat->m.1.toNat-j<M ->
  Z22L N k2 M (cur m L st (i*m.1.toNat+j)) (ak L) (i:Int) ((cy m.1.toNat L i:Nat):Int) (j:Int) m.1 m.2.1 m.2.2 t0 t1 o0 o1=k2 (cur m L st (i*m.1.toNat+m.1.toNat)) (ak L) (i:Int) m.1 m.2.1 m.2.2 t0 t1 o0 o1:=by
 obtain⟨n,r,hn,hr,hn1,hn5,hnr,hr8,hl⟩:=aQ hd;have hnr':m.1.toNat<=m.2.1.toNat:=by omega
 intro M;induction M with
 |zero=>intro j _ h;omega
 |succ M ih =>
  intro j hj hM;simp only[Z22L,Z23];by_cases h:j<m.1.toNat
  ·have hx:=h2 _ (aX (l:=L) (j:=j) 0 (by omega));have hrow:=zt h1 h2 h3 hnr' hi;have hlt:cy m.1.toNat L i*m.1.toNat+L.getD j 0<m.2.2.length:=by
    have:=j9 (n:=m.1.toNat) (r:=m.2.1.toNat) hrow hx;rw[hl];have e:m.2.1.toNat*m.1.toNat=r*n:=by rw[hn,hr];rfl
    omega
   have hidx:ah (ah (((cy m.1.toNat L i:Nat):Int)*m.1)+((L.getD j 0:Nat):Int))=((cy m.1.toNat L i*m.1.toNat+L.getD j 0:Nat):Int):=by
    have e:((cy m.1.toNat L i:Nat):Int)*m.1=((cy m.1.toNat L i*m.1.toNat:Nat):Int):=by rw[hn,Int.natCast_mul];simp
    have hb:cy m.1.toNat L i*m.1.toNat<=8*5:=Nat.mul_le_mul (by omega) (by omega);have e2:ah (((cy m.1.toNat L i*m.1.toNat:Nat):Int))=((cy m.1.toNat L i*m.1.toNat:Nat):Int):=bh (by omega) (by omega);rw[e,e2,bh (by omega) (by omega)];omega
   have hset:(cur m L st (i*m.1.toNat+j)).set (cy m.1.toNat L i*m.1.toNat+L.getD j 0) (ae m i j)=cur m L st (i*m.1.toNat+(j+1)):=by have e:=Eo (total:=m.2.2.length) (t:=i*m.1.toNat+j) (p:=cy m.1.toNat L i*m.1.toNat+L.getD j 0) (back:=fb m.1.toNat L) (F:=λp=>m.2.2.getD (fb m.1.toNat L p) 0) (G:=λp=>st.getD p 0) hlt (uP h1 h2 h3 hnr' h) (λq _ hq=>Eu h1 h2 h3 hnr' h hq);simp only[uP h1 h2 h3 hnr' h]at e;exact e
   rw[ct (dt (by omega)),ct (aG (by rw[aU];omega)),ct (at_p hd hi h)];simp only[Int.toNat_natCast,d6,hidx];rw[ct (aG (by rw[cur,rX];exact hlt)),at_g (by omega),hset,aN (by rw[aS];omega)];exact ih (j+1) h (by omega)
  ·rw[cf (df (by omega)),show j=m.1.toNat by omega]
def outer(hN:10<=N)(hd:aY m=true)(h1:L.Nodup)(h2:∀x∈L,x<m.1.toNat)(h3:L.length=m.1.toNat)(st:List Int)(k0:List Int->Int->Int->Int->Int->Option J)(t0 t1 o0 o1:Int):∀(M i:Nat),i<=m.2.1.toNat->m.2.1.toNat-i<M ->
  Z10L N k0 M (cur m L st (i*m.1.toNat)) (ak L) (i:Int) m.1 m.2.1 m.2.2 t0 t1 o0 o1=k0 (cur m L st (m.2.1.toNat*m.1.toNat)) t0 t1 o0 o1:=by
 obtain⟨n,r,hn,hr,hn1,hn5,hnr,hr8,hl⟩:=aQ hd;intro M;induction M with
 |zero=>intro i _ h;omega
 |succ M ih =>
  intro i hi hM;simp only[Z10L,Z11,Z12];by_cases h:i<m.2.1.toNat
  ·have hin:=inner (J:=J) (N:=N) hd h1 h2 h3 st (λout5_2 names1 i6 m2_0 m2_1 m2_2 t4_0 t4_1 out5_0 out5_1=>Z24 N out5_2 names1 i6 m2_0 m2_1 m2_2 t4_0 t4_1 out5_0 out5_1 (λout5_2 names1 i6 m2_0 m2_1 m2_2 t4_0 t4_1 out5_0 out5_1=>Z10L N k0 M out5_2 names1 i6 m2_0 m2_1 m2_2 t4_0 t4_1 out5_0 out5_1)) t0 t1 o0 o1 h N 0 (by omega) (by omega);rw[show((0:Nat):Int)=0 from rfl,Nat.add_zero]at hin;have hnext:=ih (i+1) h (by omega);rw[Nat.add_mul,Nat.one_mul]at hnext;rw[ct (dt (by omega))];simp only[Z13,Z14,Z15,Z16,Z17,Z18];by_cases hin':i<m.1.toNat;·rw[ct (dt (by omega)),ct (aG (by rw[aU];omega)),Int.toNat_natCast,d6];rw[cy,if_pos hin']at hin;simp only[Z19,Z20,Z21,Z22];rw[hin];simp only[Z24];rw[aN (by rw[aS];omega)];exact hnext
   ·rw[cf (df (by omega))];rw[cy,if_neg hin']at hin;simp only[Z19,Z20,Z21,Z22];rw[hin];simp only[Z24];rw[aN (by rw[aS];omega)];exact hnext
  ·rw[cf (df (by omega)),show i=m.2.1.toNat by omega]
def cur_start(L:List Nat):cur m L (List.replicate m.2.2.length 0) 0=List.replicate m.2.2.length 0:=by unfold cur;rw[Ep];exact rQ 0 (by simp)
def cur_end(hd:aY m=true)(h1:L.Nodup)(h2:∀x∈L,x<m.1.toNat)(h3:L.length=m.1.toNat)(st:List Int):cur m L st (m.2.1.toNat*m.1.toNat)=(ci m (ak L)).2.2:=by
 obtain⟨n,r,hn,hr,hn1,hn5,hnr,hr8,hl⟩:=aQ hd;have e:m.2.1.toNat*m.1.toNat=m.2.2.length:=by rw[hl,hn,hr];simp
 rw[e];unfold cur ci;rw[fc];exact Er (λp hp=>by have:=Ev h1 h2 h3 (r:=m.2.1.toNat) (by omega) (by omega) (q:=p) (by omega);omega)
end
def ok:Spec:=λm aC hb hv=>⟨10,λN hN=>by
 have e0:fP.g (m.1,(m.2.1,m.2.2))=(ba m&&!decide (bj m=[])):=rfl;have e1:eS.g aC m.1=eD aC m.1:=rfl;simp only[Z0,Z1,Z2,Z3,e0,e1,g,aL];cases h1:(ba m&&!decide (bj m=[]));·rfl
 have hs:ba m=true:=by simp only[Bool.and_eq_true]at h1;exact h1.1
 have hd:=cn hs;cases hnm:eD aC m.1;·rfl
 obtain⟨L,rfl,g1,g2,g3⟩:=lT hnm;obtain⟨n,r,hn,hr,hn1,hn5,hnr,hr8,hl⟩:=aQ hd;have hlen:m.2.2.length<=8*5:=by rw[hl];exact Nat.mul_le_mul hr8 hn5
 have hc:(bF 0 (m.2.2.length:Int)&&decide ((m.2.2.length:Int)<1099511627776))=true:=by rw[kQ (by omega),dt (by omega)];rfl
 simp only[Bool.not_true,cond_false,Z4,Z5];rw[ct hc,ct hc];simp only[bo,oM];rw[Int.toNat_natCast];simp only[Z6,Z7,Z8,Z9,Z10];have:=outer (J:=Unit×(Int×Int×List Int)×Bool×Unit) hN hd g1 g2 g3 (List.replicate m.2.2.length 0) (λout6_2 t4_0 t4_1 out6_0 out6_1=>Z25 N out6_2 t4_0 t4_1 out6_0 out6_1 (λt4_2 t5 t4_0 t4_1=>some ((),((t4_0,(t4_1,t4_2)),(t5,()))))) 0 0 m.1 m.2.1 N 0 (by omega) (by omega);rw[Nat.zero_mul,cur_start,cur_end hd g1 g2 g3]at this;exact this⟩
end bM
namespace jT
def g(_:Int):Bool:=false
def Z0{J:Type}(N:Nat)(a:Int)(kr:Bool->Option J):Option J :=
 kr (lk N (!(decide (a=a))))
def Spec:Prop:=∀ (v0:Int),∃N0,∀N,N0<=N->Z0 N v0 (λv2=>some ((),(v2,())))=some ((),((g v0),()))
def ok:Spec:=λx=>⟨0,λN hN=>by simp[Z0,aL,g]⟩
end jT
namespace jr
def g(x y:Int):Int:=if x=y then 0 else if x<y then -1 else 1
def Z0{J:Type}(N:Nat)(b a:Int)(kr:Int->Option J):Option J :=
 cond (lk N ((jT.g b)))
 (
  cond (lk N ((jT.g a)))
  (
   kr 0)
  (
   kr (-1)))
 (
  cond (lk N ((jT.g a)))
  (
   kr 1)
  (
   cond (lk N (decide (b<a)))
   (
    kr (-1))
   (
    cond (lk N (decide (a<b)))
    (
     kr 1)
    (
     kr 0))))
def Spec:Prop:=∀ (v0 v1:Int),∃N0,∀N,N0<=N->Z0 N v0 v1 (λv4=>some ((),(v4,())))=some ((),((g v0 v1),()))
def ok:Spec:=λx y=>⟨0,λN hN=>by
 simp only[Z0,aL,g,jT.g,cond_false];by_cases h:x<y;·rw[dt h,if_neg (by omega),if_pos h];rfl
 ·rw[df h];by_cases h2:y<x;·rw[dt h2,if_neg (by omega),if_neg h];rfl
  ·rw[df h2,if_pos (by omega)];rfl⟩
end jr
namespace eT
abbrev g(a b:List Int):Int:=ix a b
def Z1{J:Type}(N:Nat)(a b:LI)(kn:LI->LI->Option J):Option J :=
 kn a b
def Z4{J:Type}(N:Nat)(a b:LI)(kn:LI->LI->LI->I2 (Option J)):Option J :=
 kn a b a (a.length:Int) 0
def Z7{J:Type}(N:Nat)(d b c:LI)(e a:Int)(kn:LI->LI->LI->I2 (Option J))(k0:LI->LI->Option J)(kr:Int->Option J):Option J :=
 cond (lk N (decide (a<e)))
 (
  cond (lk N (ax a c.length)) (
   cond (lk N (decide ((b.length:Int)<=a)))
   (
    kr 1)
   (
    cond (lk N (ax a b.length)) (
     cond (lk N (!(decide ((jr.g (c.getD a.toNat 0) (b.getD a.toNat 0))=0))))
     (
      kr (jr.g (c.getD a.toNat 0) (b.getD a.toNat 0)))
     (
      kn d b c e (ah (a+1)))) none)) none)
 (
  k0 d b)
def Z6L{J:Type}(N:Nat)(k0:LI->LI->Option J)(kr:Int->Option J):Nat->LI->LI->LI->Int->Int->Option J
 |0,_,_,_,_,_=>none
 |M+1,a,b,c,d,e=>Z7 N a b c d e (λa b c d e=>Z6L N k0 kr M a b c d e) k0 kr
def Z6 N a b c d e k0 kr:=(Z6L N k0 kr N a b c d e:Option J)
def Z5 N a b c d e kn kr:=(Z6 N a b c d e kn kr:Option J)
def Z3 N a b kn kr:=(Z4 N a b (λa b c d e=>Z5 N a b c d e kn kr):Option J)
def Z8{J:Type}(N:Nat)(a b:LI)(kr:Int->Option J):Option J :=
 cond (lk N (decide ((a.length:Int)<(b.length:Int))))
 (
  kr (-1))
 (
  kr 0)
def Z2 N a b kr:=(Z3 N a b (λa b=>Z8 N a b kr) kr:Option J)
def Z0 N a b kr:=(Z1 N a b (λa b=>Z2 N a b kr):Option J)
def Spec:Prop:=∀ (v0 v1:LI),Ty.bd (.sl 0 (.int .i64)) v0->Ty.bd (.sl 0 (.int .i64)) v1->∃N0,∀N,N0<=N->Z0 N v0 v1 (λv4=>some ((),(v4,())))=some ((),((g v0 v1),()))
def loop{J:Type}(N:Nat)(k0:List Int->List Int->Option J)(kr:Int->Option J)(a b:List Int)(ha:a.length<=maxLen)(h0:k0 a b=if a.length<b.length then kr (-1)else kr 0):∀(M j:Nat),j<=a.length->j<=b.length->a.length-j<M ->
  Z6L N k0 kr M a b a (a.length:Int) (j:Int)=kr (ix (a.drop j) (b.drop j)):=by
 intro M;induction M with
 |zero=>intro j _ _ h;omega
 |succ M ih =>
  intro j hj hb hM;simp only[Z6L,Z7];by_cases h:j<a.length
  ·rw[ct (dt (by omega)),ct (aG h),cK 0 h];by_cases h2:j<b.length
   ·rw[cf (df (by omega)),ct (aG h2),Int.toNat_natCast,aN (by omega),cK (l:=b) 0 h2,ix,ih (j+1) h h2 (by omega)];by_cases e:a.getD j 0=b.getD j 0;·rw[cf (nf (by rw[jr.g,if_pos e])),if_pos e]
    ·rw[ct (nt (by simp only[jr.g,if_neg e];split<;>omega)),if_neg e];simp only[jr.g,if_neg e]
   ·rw[ct (dt (by omega)),List.drop_of_length_le (l:=b) (by omega)];rfl
  ·rw[cf (df (by omega)),List.drop_of_length_le (by omega),h0];by_cases h2:j<b.length;·rw[if_pos (by omega),cK (l:=b) 0 h2];rfl
   ·rw[if_neg (by omega),List.drop_of_length_le (l:=b) (by omega)];rfl
def ok:Spec:=λa b ha hb=>⟨a.length+1,λN hN=>by
 simp only[Z1,Z4,Z7,Z6,Z5,Z3,Z8,Z2,Z0];refine(loop N _ (λt=>some ((),(t,()))) a b ha.1 ?_ N 0 (by omega) (by omega) (by omega)).trans rfl;by_cases h:a.length<b.length;·rw[ct (dt (by omega)),if_pos h]
 ·rw[cf (df (by omega)),if_neg h]⟩
end eT
namespace cA
def g(m:Int×Int×List Int):(Int×Int×List Int)×Bool:=if((ba m&&!decide (bj m=[]))&&decide (m.2.1=m.1))=true then(nG m,true)else((0,0,[]),false)
def Z1{J:Type}(N:Nat)(a:MT)(kn:I2 (LI->I2 (Option J))):Option J :=
 kn a.1 a.2.1 a.2.2 0 0
def Z3{J:Type}(N:Nat)(a b:Int)(c:LI)(d e:Int)(kn:I2 (LI->I2 (Option J)))(kr:LI->Bool->I2 (Option J)):Option J :=
 cond (!(lk N ((fP.g (a,(b,c))))))
 (
  kr ([]:List Int) false 0 0)
 (
  cond (lk N (!(decide (b=a))))
  (
   kr ([]:List Int) false 0 0)
  (
   kn a b c d e))
def Z5{J:Type}(N:Nat)(a b:Int)(c:LI)(d e:Int)(kn:I2 (LI->I4 (LI->Option J))):Option J :=
 kn a b c d e a b c
def Z8{J:Type}(N:Nat)(a b:Int)(c:LI)(d e f h:Int)(i:LI)(kn:LL->I4 (LI->I4 (LI->Option J))):Option J :=
 cond (lk N (bJ.P a)) (
  kn (bJ.g a) ((bJ.g a).length:Int) 0 a b c d e f h i) none
def Z11{J:Type}(N:Nat)(b:LL)(j:LI)(f a c d:Int)(e:LI)(h i l m:Int)(kn:LL->LI->I4 (LI->I4 (Option J)))(k0:LI->I4 (Option J)):Option J :=
 cond (lk N (decide (a<f)))
 (
  cond (lk N (ax a b.length)) (
   cond (lk N (decide (a=0)))
   (
    kn b (bM.g (c,(d,e)) (b.getD a.toNat [])).1.2.2 f (ah (a+1)) c d e h i (bM.g (c,(d,e)) (b.getD a.toNat [])).1.1 (bM.g (c,(d,e)) (b.getD a.toNat [])).1.2.1)
   (
    cond (lk N (decide ((eT.g (bM.g (c,(d,e)) (b.getD a.toNat [])).1.2.2 j)<0)))
    (
     kn b (bM.g (c,(d,e)) (b.getD a.toNat [])).1.2.2 f (ah (a+1)) c d e h i (bM.g (c,(d,e)) (b.getD a.toNat [])).1.1 (bM.g (c,(d,e)) (b.getD a.toNat [])).1.2.1)
    (
     kn b j f (ah (a+1)) c d e h i l m))) none)
 (
  k0 j h i l m)
def Z12{J:Type}(N:Nat)(b:LL)(f a c d:Int)(e:LI)(h i l m:Int)(j:LI)(kn:LL->LI->I4 (LI->I4 (Option J)))(k0:LI->I4 (Option J)):Option J :=
 cond (lk N (decide (a<f)))
 (
  cond (lk N (ax a b.length)) (
   cond (lk N (decide (a=0)))
   (
    kn b (bM.g (c,(d,e)) (b.getD a.toNat [])).1.2.2 f (ah (a+1)) c d e h i (bM.g (c,(d,e)) (b.getD a.toNat [])).1.1 (bM.g (c,(d,e)) (b.getD a.toNat [])).1.2.1)
   (
    cond (lk N (decide ((eT.g (bM.g (c,(d,e)) (b.getD a.toNat [])).1.2.2 j)<0)))
    (
     kn b (bM.g (c,(d,e)) (b.getD a.toNat [])).1.2.2 f (ah (a+1)) c d e h i (bM.g (c,(d,e)) (b.getD a.toNat [])).1.1 (bM.g (c,(d,e)) (b.getD a.toNat [])).1.2.1)
    (
     none))) none)
 (
  none)
def Z10L{J:Type}(N:Nat)(k0:LI->I4 (Option J)):Nat->LL->LI->Int->Int->Int->Int->LI->Int->Int->Int->Int->Option J
 |0,_,_,_,_,_,_,_,_,_,_,_=>none
 |M+1,a,b,c,d,e,f,g,h,i,j,l=>Z11 N a b c d e f g h i j l (λa b c d e f g h i j l=>Z10L N k0 M a b c d e f g h i j l) k0
def Z10 N a b c d e f g h i j l k0:=(Z12 N a b c d e f g h i j l (λa l b c d e f g h i j=>Z10L N k0 N a l b c d e f g h i j) k0:Option J)
def Z9 N a b c d e f g h i j l kn:=(Z10 N a b c d e f g h i j l kn:Option J)
def Z7 N a b c d e f g h kn:=(Z8 N a b c d e f g h (λi j l a b c d e f g h=>Z9 N i j l a b c d e f g h kn):Option J)
def Z13{J:Type}(N:Nat)(a:LI)(d e b c:Int)(kr:LI->Bool->I2 (Option J)):Option J :=
 kr a true b c
def Z6 N f g h a b c d e kr:=(Z7 N f g h a b c d e (λe a b c d=>Z13 N e a b c d kr):Option J)
def Z4 N a b c d e kr:=(Z5 N a b c d e (λa b c d e f g h=>Z6 N a b c d e f g h kr):Option J)
def Z2 N a b c d e kr:=(Z3 N a b c d e (λa b c d e=>Z4 N a b c d e kr) kr:Option J)
def Z0 N a kr:=(Z1 N a (λb c d e f=>Z2 N b c d e f kr):Option J)
def Spec:Prop:=∀ (v0:MT),Ty.bd (.pair (.int .i64) (.pair (.int .i64) (.sl 0 (.int .i64)))) v0->∃N0,∀N,N0<=N->Z0 N v0 (λv2_2 v3 v2_0 v2_1=>some ((),((v2_0,(v2_1,v2_2)),(v3,()))))=some ((),((g v0).1,((g v0).2,())))
def Ga{m:Int×Int×List Int}(hok:(ba m&&!decide (bj m=[]))=true){o:List Int}(ho:eD o m.1=true):bM.g (m.1,(m.2.1,m.2.2)) o=(ci m o,true):=by unfold bM.g;rw[if_pos];rw[show(m.1,(m.2.1,m.2.2))=m from rfl,hok,ho];rfl
def loop{J:Type}{N:Nat}{m:Int×Int×List Int}(hok:(ba m&&!decide (bj m=[]))=true){l:List (List Int)}(hl:∀o∈l,eD o m.1=true)(hl2:l.length<=4000)(k0:List Int->Int->Int->Int->Int->Option J)(t0 t1:Int) :
  ∀(M j:Nat) (b:List Int),1<=j->j<=l.length->l.length-j<M->Z10L N k0 M l b (l.length:Int) (j:Int) m.1 m.2.1 m.2.2 t0 t1 m.1 m.2.1=k0 (cW (b9 m) b (l.drop j)) t0 t1 m.1 m.2.1:=by
 intro M;induction M with
 |zero=>intro j b _ _ h;omega
 |succ M ih =>
  intro j b h1 hj hM;simp only[Z10L,Z11];by_cases h:j<l.length;·have e0:=Ga hok (hl _ (aX (l:=l) [] h));have e1:decide ((eT.g (b9 m (l.getD j [])) b)<0)=bT (b9 m (l.getD j [])) b:=uG _ _;rw[ct (dt (by omega)),ct (aG h),cf (df (by omega)),Int.toNat_natCast,e0];have e2:((ci m (l.getD j []),true):(Int×Int×List Int)×Bool).1.2.2=b9 m (l.getD j []):=rfl;have e3:((ci m (l.getD j []),true):(Int×Int×List Int)×Bool).1.1=m.1:=rfl;have e4:((ci m (l.getD j []),true):(Int×Int×List Int)×Bool).1.2.1=m.2.1:=rfl;rw[e2,e3,e4,e1,aL,aN (by rw[aS];omega),ih (j+1) _ (by omega) h (by omega),ih (j+1) _ (by omega) h (by omega),cK (l:=l) [] h];have e5:cW (b9 m) b (l.getD j []::l.drop (j+1))=cW (b9 m) (if bT (b9 m (l.getD j [])) b=true then b9 m (l.getD j [])else b) (l.drop (j+1)):=rfl;rw[e5];cases bT (b9 m (l.getD j [])) b<;>rfl
  ·rw[cf (df (by omega)),List.drop_of_length_le (by omega)];rfl
def ok:Spec:=λm hb=>⟨5000,λN hN=>by
 have e0:fP.g (m.1,(m.2.1,m.2.2))=(ba m&&!decide (bj m=[])):=rfl;simp only[Z0,Z1,Z2,Z3,e0,aL,g];cases h1:(ba m&&!decide (bj m=[]));·rfl
 by_cases h2:m.2.1=m.1
 ·have hs:ba m=true:=by simp only[Bool.and_eq_true]at h1;exact h1.1
  have hd:=cn hs;obtain⟨n,r,hn,hr',hn1,hn5,hnr,hr8,hl⟩:=aQ hd;have e1:m.1.toNat=n:=by omega
  have hOP:bJ.P m.1=true:=by simp only[bJ.P,Bool.and_eq_true,decide_eq_true_eq];exact⟨by omega,by omega⟩
  have hO:bJ.g m.1=eL n:=by rw[bJ.g,e1]
  have hcnt:=Ez hn5;have hnm:∀o∈eL n,eD o m.1=true:=λo ho=>by rw[hn];exact pn hn5 ho
  have hid:=uQ hn5;rw[dt h2];simp only[Bool.not_true,cond_false,Z4,Z5,Z6,Z7,Z8,hOP,aL,cond_true,hO];simp only[Z9,Z10,Z12];have hca:nG m=(m.1,m.2.1,zy (b9 m) (eL n)):=by rw[nG,e1]
  rw[hca];generalize eL n=O at hcnt hnm hid;cases O with
  |nil=>cases hid
  |cons o os =>have e2:=Ga h1 (hnm o (List.mem_cons_self ..));have e3:(o::os).getD (0:Int).toNat []=o:=rfl;rw[ct (dt (by simp)),ct (show ax 0 (o::os).length=true from aG (j:=0) (by simp)),ct (show decide True=true from rfl),e3,e2];have hlp:=loop (J:=Unit×(Int×Int×List Int)×Bool×Unit) (N:=N) h1 hnm (by omega) (λbest4_2 t2_0 t2_1 best4_0 best4_1=>Z13 N best4_2 t2_0 t2_1 best4_0 best4_1 (λt2_2 t3 t2_0 t2_1=>some ((),((t2_0,(t2_1,t2_2)),(t3,()))))) 0 0 N 1 (b9 m o) (by omega) (by simp) (by omega);exact hlp
 ·rw[df h2];rfl⟩
end cA
namespace strconv_Itoa
def g(n:Int):ByteArray:=bW n
def P(n:Int):Bool:=dI n
def ok:True:=trivial
end strconv_Itoa
namespace er
def g(n:Int):ByteArray:=bW n
def P(n:Int):Bool:=dI n
def Z0{J:Type}(N:Nat)(a:Int)(kr:ByteArray->Option J):Option J :=
 cond (lk N (strconv_Itoa.P a)) (
  kr (strconv_Itoa.g a)) none
def Spec:Prop:=∀ (v0:Int),P v0=true->∃N0,∀N,N0<=N->Z0 N v0 (λv2=>some ((),(v2,())))=some ((),((g v0),()))
def ok:Spec:=λn hp=>⟨0,λN hN=>by simp only[Z0];rw[ct (show strconv_Itoa.P n=true from hp)];rfl⟩
end er
namespace strings_Join
def g(xs:List ByteArray)(sep:ByteArray):ByteArray:=⟨(Lib.join (xs.map (·.data.toList)) sep.data.toList).toArray⟩
def P(xs:List ByteArray)(sep:ByteArray):Bool:=Nat.ble xs.length 140737488355328&&Nat.ble (Lib.join (xs.map (·.data.toList)) sep.data.toList).length 140737488355328
def ok:True:=trivial
end strings_Join
namespace dw
def g(l:List Int):ByteArray:=eO l
def P(l:List Int):Bool:=lW l
def Z1{J:Type}(N:Nat)(a:LI)(kn:LI->Option J):Option J :=
 kn a
def Z3{J:Type}(N:Nat)(a:LI)(kn:LI->Option J):Option J :=
 kn a
def Z6{J:Type}(N:Nat)(a:LI)(kn:LI->I2 (Option J)):Option J :=
 kn a (a.length:Int) 0
def Z9{J:Type}(N:Nat)(c:List ByteArray)(b:LI)(d a:Int)(kn:List ByteArray->LI->I2 (Option J))(k0:List ByteArray->Option J):Option J :=
 cond (lk N (decide (a<d)))
 (
  cond (lk N (ax a b.length)) (
   cond (lk N (er.P (b.getD a.toNat 0))) (
    cond (lk N (Nat.blt (c.length+([(er.g (b.getD a.toNat 0))]:List ByteArray).length) 1099511627776)) (
     kn (c++([(er.g (b.getD a.toNat 0))]:List ByteArray)) b d (ah (a+1))) none) none) none)
 (
  k0 c)
def Z8L{J:Type}(N:Nat)(k0:List ByteArray->Option J):Nat->List ByteArray->LI->Int->Int->Option J
 |0,_,_,_,_=>none
 |M+1,a,b,c,d=>Z9 N a b c d (λa b c d=>Z8L N k0 M a b c d) k0
def Z8 N a b c k0:=(Z8L N k0 N ([]:List ByteArray) a b c:Option J)
def Z7 N a b c kn:=(Z8 N a b c kn:Option J)
def Z5 N a kn:=(Z6 N a (λb c d=>Z7 N b c d kn):Option J)
def Z10{J:Type}(N:Nat)(a:List ByteArray)(kr:ByteArray->Option J):Option J :=
 cond (lk N (strings_Join.P a (⟨#[32]⟩:ByteArray))) (
  kr (strings_Join.g a (⟨#[32]⟩:ByteArray))) none
def Z4 N a kr:=(Z5 N a (λb=>Z10 N b kr):Option J)
def Z2 N a kr:=(Z3 N a (λa=>Z4 N a kr):Option J)
def Z0 N a kr:=(Z1 N a (λa=>Z2 N a kr):Option J)
def Spec:Prop:=∀ (v0:LI),Ty.bd (.sl 0 (.int .i64)) v0->P v0=true->∃N0,∀N,N0<=N->Z0 N v0 (λv2=>some ((),(v2,())))=some ((),((g v0),()))
def loop{J:Type}{N:Nat}(k0:List ByteArray->Option J){l:List Int}(hp:lW l=true):∀(M j:Nat),j<=l.length->l.length-j<M->Z8L N k0 M ((l.take j).map bW) l (l.length:Int) (j:Int)=k0 (l.map bW):=by
 simp only[lW,Bool.and_eq_true,decide_eq_true_eq]at hp;intro M;induction M with
 |zero=>intro j _ h;omega
 |succ M ih =>
  intro j hj hM;simp only[Z8L,Z9];by_cases h:j<l.length
  ·have h1:er.P (l.getD j 0)=true:=List.all_eq_true.1 hp.2 _ (aX 0 h);have h2:er.g (l.getD j 0)=bW (l.getD j 0):=rfl;have h3:∀x:ByteArray,Nat.blt (((l.take j).map bW).length+([x]:List ByteArray).length) 1099511627776=true:=λx=>Nat.ble_eq_true_of_le (by simp;omega);rw[ct (dt (by omega)),ct (aG h),Int.toNat_natCast,ct h1,h2,ct (h3 _),aN (by rw[aS];omega)];have e:(l.take j).map bW++[bW (l.getD j 0)]=(l.take (j+1)).map bW:=by rw[<-lP 0 h,List.map_append];rfl
   rw[e];exact ih (j+1) h (by omega)
  ·rw[cf (df (by omega)),List.take_of_length_le (by omega)]
def ok:Spec:=λl hb hp=>⟨l.length+1,λN hN=>by
 have hp':=hp;simp only[P,lW,Bool.and_eq_true,decide_eq_true_eq]at hp';simp only[Z1,Z3,Z6,Z9,Z8,Z7,Z5,Z10,Z4,Z2,Z0];refine(loop _ hp N 0 (Nat.zero_le _) (by omega)).trans ?_;have e:((l.map bW).map (·.data.toList))=l.map Lib.itoa:=by rw[List.map_map];exact List.map_congr_left λn _=>zO n
 have hlen:=E8 hp'.2;have e2:(⟨#[32]⟩:ByteArray).data.toList=[32]:=rfl;have hP:strings_Join.P (l.map bW) ⟨#[32]⟩=true:=by simp only[strings_Join.P,e,e2,Bool.and_eq_true,List.length_map];exact⟨Nat.ble_eq_true_of_le (by omega),Nat.ble_eq_true_of_le (show(eG l).length<=_ by omega)⟩
 have hg:strings_Join.g (l.map bW) ⟨#[32]⟩=eO l:=by simp only[strings_Join.g,e,e2];rfl
 rw[ct hP,hg];rfl⟩
end dw
namespace bP
def P(m:Int×Int×List Int)(k:Int):Bool:=ba m&&(decide (0<=k)&&decide (k<m.1))
def g(m:Int×Int×List Int)(k:Int):Int×Int×List Int:=bB m k.toNat
def Z1{J:Type}(N:Nat)(a:MT)(b:Int)(kn:I3 (LI->I2 (Option J))):Option J :=
 kn b a.1 a.2.1 a.2.2 0 0
def Z3{J:Type}(N:Nat)(d b c:Int)(a:LI)(e f:Int)(kn:LI->I3 (LI->I4 (Option J))):Option J :=
 cI (
  cond (lk N (ed.P a)) (
   bo (
    kn (ed.g a) d b c a e f b c)) none)
 (
  cond (lk N (ed.P a)) (
   kn (ed.g a) d b c a e f b c) none)
def Z6{J:Type}(N:Nat)(a:LI)(b c d:Int)(e:LI)(f g h i:Int)(kn:LI->I4 (LI->I4 (Option J))):Option J :=
 kn a b 0 c d e f g h i
def Z10{J:Type}(N:Nat)(a:LI)(h b i c:Int)(j:LI)(d e f g:Int)(kn:LI->I4 (LI->I4 (Option J)))(k0:LI->I4 (Option J)):Option J :=
 cond (lk N (decide (b<c)))
 (
  kn a h b i c j d e f g)
 (
  k0 a d e f g)
def Z14{J:Type}(N:Nat)(a:LI)(b c d e:Int)(f:LI)(g h i j:Int)(kn:LI->I5 (LI->I4 (Option J))):Option J :=
 kn a b c 0 d e f g h i j
def Z18{J:Type}(N:Nat)(b:LI)(c d e a f:Int)(g:LI)(h i j l:Int)(kn:LI->I5 (LI->I4 (Option J)))(k2:LI->I4 (LI->I4 (Option J))):Option J :=
 cond (lk N (decide (e<a)))
 (
  kn b c d e a f g h i j l)
 (
  k2 b c d a f g h i j l)
def Z22{J:Type}(N:Nat)(d:LI)(e a b c f:Int)(g:LI)(h i j l:Int)(kn:LI->I6 (LI->I4 (Option J))):Option J :=
 cond (lk N (ax (ah ((ah (a*c))+b)) d.length)) (
  kn d e a b (ah ((ah (a*c))+b)) c f g h i j l) none
def Z24{J:Type}(N:Nat)(h:LI)(a e f i b c:Int)(d:LI)(j l m o:Int)(kn:LI->I8 (LI->I4 (Option J))):Option J :=
 cond (lk N (cb.P (b,(c,d)) e a)) (
  cond (lk N (cb.P (b,(c,d)) a f)) (
   kn h a e f i (cb.g (b,(c,d)) e a) (cb.g (b,(c,d)) a f) b c d j l m o) none) none
def Z27{J:Type}(N:Nat)(d:LI)(a b c e f g h i:Int)(j:LI)(l m o p:Int)(kn:LI->I6 (Bool->I2 (LI->I4 (Option J)))):Option J :=
 cond (lk N (decide (b=a)))
 (
  kn d a b c e f g true h i j l m o p)
 (
  kn d a b c e f g (lk N (decide (c=a))) h i j l m o p)
def Z28{J:Type}(N:Nat)(a:LI)(b c d e o p:Int)(q:Bool)(f g:Int)(h:LI)(i j l m:Int)(kn:LI->I5 (LI->I4 (Option J))):Option J :=
 cond (q)
 (
  kn (a.set e.toNat (ah (0-(a.getD e.toNat 0)))) b c d f g h i j l m)
 (
  cond (lk N (decide (0<o)))
  (
   cond (lk N (decide (0<p)))
   (
    kn (a.set e.toNat (ah ((a.getD e.toNat 0)+(ah (o*p))))) b c d f g h i j l m)
   (
    cond (lk N (decide (o<0)))
    (
     cond (lk N (decide (p<0)))
     (
      kn (a.set e.toNat (ah ((a.getD e.toNat 0)-(ah (o*p))))) b c d f g h i j l m)
     (
      kn a b c d f g h i j l m))
    (
     kn a b c d f g h i j l m)))
  (
   cond (lk N (decide (o<0)))
   (
    cond (lk N (decide (p<0)))
    (
     kn (a.set e.toNat (ah ((a.getD e.toNat 0)-(ah (o*p))))) b c d f g h i j l m)
    (
     kn a b c d f g h i j l m))
   (
    kn a b c d f g h i j l m)))
def Z26 N a b c d e f g h i j l m o p kn:=(Z27 N a b c d e f g h i j l m o p (λa b c d e f g q h i j l m o p=>Z28 N a b c d e f g q h i j l m o p kn):Option J)
def Z25 N a b c d e f g h i j l m o p kn:=(Z26 N a b c d e f g h i j l m o p kn:Option J)
def Z23 N a b c d e f g h i j l m kn:=(Z24 N a b c d e f g h i j l m (λa b c d e o p f g h i j l m=>Z25 N a b c d e o p f g h i j l m kn):Option J)
def Z21 N a b c d e f g h i j l kn:=(Z22 N a b c d e f g h i j l (λa b c d m e f g h i j l=>Z23 N a b c d m e f g h i j l kn):Option J)
def Z20 N a b c d e f g h i j l kn:=(Z21 N a b c d e f g h i j l kn:Option J)
def Z29{J:Type}(N:Nat)(a:LI)(b c d e f:Int)(g:LI)(h i j l:Int)(kn:LI->I5 (LI->I4 (Option J))):Option J :=
 kn a b c (ah (d+1)) e f g h i j l
def Z19 N a b c d e f g h i j l kn:=(Z20 N a b c d e f g h i j l (λa b c d e f g h i j l=>Z29 N a b c d e f g h i j l kn):Option J)
def Z17 N a b c d e f g h i j l kn k2:=(Z18 N a b c d e f g h i j l (λa b c d e f g h i j l=>Z19 N a b c d e f g h i j l kn) k2:Option J)
def Z16L{J:Type}(N:Nat)(k2:LI->I4 (LI->I4 (Option J))):Nat->LI->Int->Int->Int->Int->Int->LI->Int->Int->Int->Int->Option J
 |0,_,_,_,_,_,_,_,_,_,_,_=>none
 |M+1,a,b,c,d,e,f,g,h,i,j,l=>Z17 N a b c d e f g h i j l (λa b c d e f g h i j l=>Z16L N k2 M a b c d e f g h i j l) k2
def Z16 N a b c d e f g h i j l k2:=(Z16L N k2 N a b c d e f g h i j l:Option J)
def Z15 N a b c d e f g h i j l kn:=(Z16 N a b c d e f g h i j l kn:Option J)
def Z13 N a b c d e f g h i j kn:=(Z14 N a b c d e f g h i j (λa b c l d e f g h i j=>Z15 N a b c l d e f g h i j kn):Option J)
def Z12 N a b c d e f g h i j kn:=(Z13 N a b c d e f g h i j kn:Option J)
def Z30{J:Type}(N:Nat)(a:LI)(b c d e:Int)(f:LI)(g h i j:Int)(kn:LI->I4 (LI->I4 (Option J))):Option J :=
 kn a b (ah (c+1)) d e f g h i j
def Z11 N a b c d e f g h i j kn:=(Z12 N a b c d e f g h i j (λa b c d e f g h i j=>Z30 N a b c d e f g h i j kn):Option J)
def Z9 N a b c d e f g h i j kn k0:=(Z10 N a b c d e f g h i j (λa b c d e f g h i j=>Z11 N a b c d e f g h i j kn) k0:Option J)
def Z8L{J:Type}(N:Nat)(k0:LI->I4 (Option J)):Nat->LI->Int->Int->Int->Int->LI->Int->Int->Int->Int->Option J
 |0,_,_,_,_,_,_,_,_,_,_=>none
 |M+1,a,b,c,d,e,f,g,h,i,j=>Z9 N a b c d e f g h i j (λa b c d e f g h i j=>Z8L N k0 M a b c d e f g h i j) k0
def Z8 N a b c d e f g h i j k0:=(Z8L N k0 N a b c d e f g h i j:Option J)
def Z7 N a b c d e f g h i j kn:=(Z8 N a b c d e f g h i j kn:Option J)
def Z5 N a b c d e f g h i kn:=(Z6 N a b c d e f g h i (λa b j c d e f g h i=>Z7 N a b j c d e f g h i kn):Option J)
def Z31{J:Type}(N:Nat)(a:LI)(d e b c:Int)(kr:LI->I2 (Option J)):Option J :=
 kr a b c
def Z4 N a f g h i b c d e kr:=(Z5 N a f g h i b c d e (λa b c d e=>Z31 N a b c d e kr):Option J)
def Z2 N a b c d e f kr:=(Z3 N a b c d e f (λg a b c d e f h i=>Z4 N g a b c d e f h i kr):Option J)
def Z0 N b a kr:=(Z1 N b a (λa c d e f g=>Z2 N a c d e f g kr):Option J)
def Spec:Prop:=∀ (v0:MT) (v1:Int),Ty.bd (.pair (.int .i64) (.pair (.int .i64) (.sl 0 (.int .i64)))) v0->P v0 v1=true->∃N0,∀N,N0<=N->Z0 N v0 v1 (λv4_2 v4_0 v4_1=>some ((),((v4_0,(v4_1,v4_2)),())))=some ((),((g v0 v1),()))
section
variable {J : Type} {N : Nat} {m : Int × Int × List Int} {k : Nat}
def at_g(hd:0<=m.1)(a b:Nat):cb.g (m.1,(m.2.1,m.2.2)) (a:Int) (b:Int)=ae m a b:=fF hd a b
def at_p(hd:aY m=true){a b:Nat}(ha:a<m.2.1.toNat)(hb:b<m.1.toNat):cb.P (m.1,(m.2.1,m.2.2)) (a:Int) (b:Int)=true:=fG hd ha hb
def cur(m:Int×Int×List Int)(k p:Nat):List Int:=gk m.2.2.length p (kb m k) (λp=>m.2.2.getD p 0)
def inner(hs:ba m=true)(hk:k<m.1.toNat)(k2:List Int->Int->Int->Int->Int->List Int->Int->Int->Int->Int->Option J)(t0 t1 o0 o1:Int){i:Nat}(hi:i<m.2.1.toNat):∀(M j:Nat),j<=m.1.toNat->m.1.toNat-j<M ->
  Z16L N k2 M (cur m k (i*m.1.toNat+j)) (k:Int) (i:Int) (j:Int) m.1 m.2.1 m.2.2 t0 t1 o0 o1=k2 (cur m k (i*m.1.toNat+m.1.toNat)) (k:Int) (i:Int) m.1 m.2.1 m.2.2 t0 t1 o0 o1:=by
 have hd:=cn hs;obtain⟨n,r,hn,hr,hn1,hn5,hnr,hr8,hl⟩:=aQ hd;intro M;induction M with
 |zero=>intro j _ h;omega
 |succ M ih =>
  intro j hj hM;simp only[Z16L,Z17,Z18];by_cases h:j<m.1.toNat
  ·have hlt:i*m.1.toNat+j<m.2.2.length:=by have:=j9 (n:=n) (r:=r) (i:=i) (j:=j) (by omega) (by omega);rw[hl,hn];exact this
   have hidx:ah (ah ((i:Int)*m.1)+(j:Int))=((i*m.1.toNat+j:Nat):Int):=by
    have e:(i:Int)*m.1=((i*m.1.toNat:Nat):Int):=by rw[hn,Int.natCast_mul];simp
    have hb:i*m.1.toNat<=8*5:=Nat.mul_le_mul (by omega) (by omega);have e2:ah (((i*m.1.toNat:Nat):Int))=((i*m.1.toNat:Nat):Int):=bh (by omega) (by omega);rw[e,e2,bh (by omega) (by omega)];omega
   have b1:=eZ hs i j;have b2:=eZ hs i k;have b3:=eZ hs k j;have hbc:=EC (f:=false) b1 b2 b3;have hF:=zz (m:=m) (k:=k) (i:=i) h;have hcl:(cur m k (i*m.1.toNat+j)).length=m.2.2.length:=rO;have hset:∀v,v=kb m k (i*m.1.toNat+j)->(cur m k (i*m.1.toNat+j)).set (i*m.1.toNat+j) v=cur m k (i*m.1.toNat+(j+1)):=λv hv=>by subst hv;exact Ea hlt
   have hsame:kb m k (i*m.1.toNat+j)=ae m i j->cur m k (i*m.1.toNat+j)=cur m k (i*m.1.toNat+(j+1)):=λhv=>(ED hv).symm;have iB:ax (((i*m.1.toNat+j:Nat):Int)) (cur m k (i*m.1.toNat+j)).length=true:=aG (by rw[hcl];exact hlt);have pij:=at_p hd hi h;rw[ct (dt (by omega))];simp only[Z19,Z20,Z21,Z22,Z23,Z24,Z25];have fin:∀c,c=cur m k (i*m.1.toNat+(j+1))->Z29 N c (k:Int) (i:Int) (j:Int) m.1 m.2.1 m.2.2 t0 t1 o0 o1 (λout5_2 k1 i6 j7 m2_0 m2_1 m2_2 t4_0 t4_1 out5_0 out5_1=>Z16L N k2 M out5_2 k1 i6 j7 m2_0 m2_1 m2_2 t4_0 t4_1 out5_0 out5_1)=k2 (cur m k (i*m.1.toNat+m.1.toNat)) (k:Int) (i:Int) m.1 m.2.1 m.2.2 t0 t1 o0 o1:=by intro c hc;subst hc;simp only[Z29];rw[aN (by rw[aS];omega)];exact ih (j+1) h (by omega)
   have hcg:(cur m k (i*m.1.toNat+j)).getD (i*m.1.toNat+j) 0=ae m i j:=by refine(Ow hlt 0).trans ?_;rw[if_neg (by omega)];rfl
   rw[hidx,ct iB,ct (at_p hd hi hk),ct (at_p hd (show k<m.2.1.toNat by omega) h),at_g (by omega),at_g (by omega)];simp only[Z26,Z27,Z28,Int.toNat_natCast,hcg];by_cases hik:i=k;·rw[ct (dt (by omega)),dZ rfl,bh (by omega) (by omega)];refine fin _ (hset _ ?_);rw[hF,dt hik,Int.zero_sub];rfl
   ·rw[cf (df (by omega))];by_cases hjk:j=k;·rw[dZ (by rw[aL];exact dt (by omega)),bh (by omega) (by omega)];refine fin _ (hset _ ?_);rw[hF,df hik,dt hjk,Int.zero_sub];rfl
    ·rw[eY (by rw[aL];exact df (by omega))];rw[df hik,df hjk]at hF;simp only[d7,Bool.or_self,Bool.false_eq_true,if_false]at hF;have wbc:ah (ae m i k*ae m k j)=ae m i k*ae m k j:=bh (by omega) (by omega);rw[wbc];by_cases a1:0<ae m i k
     ·rw[ct (dt a1)];by_cases a2:0<ae m k j;·rw[ct (dt a2),bh (by omega) (by omega)];refine fin _ (hset _ ?_);rw[hF,if_pos ⟨a1,a2⟩]
      ·rw[cf (df a2),cf (df (by omega))];refine fin _ (hsame ?_);rw[hF,if_neg (by omega),if_neg (by omega)]
     ·rw[cf (df a1)];by_cases a2:ae m i k<0
      ·rw[ct (dt a2)];by_cases a3:ae m k j<0;·rw[ct (dt a3),bh (by omega) (by omega)];refine fin _ (hset _ ?_);rw[hF,if_neg (by omega),if_pos ⟨a2,a3⟩]
       ·rw[cf (df a3)];refine fin _ (hsame ?_);rw[hF,if_neg (by omega),if_neg (by omega)]
      ·rw[cf (df a2)];refine fin _ (hsame ?_);rw[hF,if_neg (by omega),if_neg (by omega)]
  ·rw[cf (df (by omega)),show j=m.1.toNat by omega]
def outer(hN:10<=N)(hs:ba m=true)(hk:k<m.1.toNat)(k0:List Int->Int->Int->Int->Int->Option J)(t0 t1 o0 o1:Int):∀(M i:Nat),i<=m.2.1.toNat->m.2.1.toNat-i<M ->
  Z8L N k0 M (cur m k (i*m.1.toNat)) (k:Int) (i:Int) m.1 m.2.1 m.2.2 t0 t1 o0 o1=k0 (cur m k (m.2.1.toNat*m.1.toNat)) t0 t1 o0 o1:=by
 have hd:=cn hs;obtain⟨n,r,hn,hr,hn1,hn5,hnr,hr8,hl⟩:=aQ hd;intro M;induction M with
 |zero=>intro i _ h;omega
 |succ M ih =>
  intro i hi hM;simp only[Z8L,Z9,Z10];by_cases h:i<m.2.1.toNat;·rw[ct (dt (by omega))];simp only[Z11,Z12,Z13,Z14,Z15,Z16];have hin:=inner (J:=J) (N:=N) hs hk (λout5_2 k1 i6 m2_0 m2_1 m2_2 t4_0 t4_1 out5_0 out5_1=>Z30 N out5_2 k1 i6 m2_0 m2_1 m2_2 t4_0 t4_1 out5_0 out5_1 (λout5_2 k1 i6 m2_0 m2_1 m2_2 t4_0 t4_1 out5_0 out5_1=>Z8L N k0 M out5_2 k1 i6 m2_0 m2_1 m2_2 t4_0 t4_1 out5_0 out5_1)) t0 t1 o0 o1 h N 0 (by omega) (by omega);rw[show((0:Nat):Int)=0 from rfl,Nat.add_zero]at hin;rw[hin];simp only[Z30];rw[aN (by rw[aS];omega)];have:=ih (i+1) h (by omega);rw[Nat.add_mul,Nat.one_mul]at this;exact this
  ·rw[cf (df (by omega)),show i=m.2.1.toNat by omega]
end
def ok:Spec:=λm k hb hp=>⟨10,λN hN=>by
 simp only[P,Bool.and_eq_true,decide_eq_true_eq]at hp;obtain⟨hs,h0,h1⟩:=hp;obtain⟨x,rfl⟩:=Int.eq_ofNat_of_zero_le h0;have hd:=cn hs;obtain⟨n,r,hn,hr,hn1,hn5,hnr,hr8,hl⟩:=aQ hd;have hlen:m.2.2.length<=8*5:=by rw[hl];exact Nat.mul_le_mul hr8 hn5
 simp only[Z0,Z1,Z2,Z3];rw[ct (show ed.P m.2.2=true from dt (by omega)),ct (show ed.P m.2.2=true from dt (by omega))];simp only[bo,oM];simp only[Z4,Z5,Z6,Z7,Z8];have hstart:cur m x 0=m.2.2:=by unfold cur;rw[Eb];exact rQ 0 rfl
 have hend:cur m x (m.2.1.toNat*m.1.toNat)=(bB m x).2.2:=by
  have e:m.2.1.toNat*m.1.toNat=m.2.2.length:=by rw[hl,hn,hr];simp
  rw[e];exact Ec
 have:=outer (J:=Unit×(Int×Int×List Int)×Unit) hN hs (show x<m.1.toNat by omega) (λout5_2 t4_0 t4_1 out5_0 out5_1=>Z31 N out5_2 t4_0 t4_1 out5_0 out5_1 (λt4_2 t4_0 t4_1=>some ((),((t4_0,(t4_1,t4_2)),())))) 0 0 m.1 m.2.1 N 0 (by omega) (by omega);rw[Nat.zero_mul,hstart,hend]at this;exact this⟩
end bP
namespace f7
def g(m:Int×Int×List Int)(k:Int):(Int×Int×List Int)×Bool :=
 if((ba m&&!decide (bj m=[]))&&(b7 k 0 (m.1-1)&&(ba (bB m k.toNat)&&!decide (bj (bB m k.toNat)=[]))))=true then(bB m k.toNat,true)else((0,0,[]),false)
def Z0{J:Type}(N:Nat)(a:MT)(b:Int)(kr:LI->Bool->I2 (Option J)):Option J :=
 cond (!(lk N ((fP.g a))))
 (
  kr ([]:List Int) false 0 0)
 (
  cond (!(lk N ((gB.g b 0 (ah (a.1-1))))))
  (
   kr ([]:List Int) false 0 0)
  (
   cond (lk N (bP.P a b)) (
    cond (!(lk N ((fP.g (bP.g a b)))))
    (
     kr ([]:List Int) false 0 0)
    (
     kr (bP.g a b).2.2 true (bP.g a b).1 (bP.g a b).2.1)) none))
def Spec:Prop:=∀ (v0:MT) (v1:Int),Ty.bd (.pair (.int .i64) (.pair (.int .i64) (.sl 0 (.int .i64)))) v0->∃N0,∀N,N0<=N->Z0 N v0 v1 (λv4_2 v5 v4_0 v4_1=>some ((),((v4_0,(v4_1,v4_2)),(v5,()))))=some ((),((g v0 v1).1,((g v0 v1).2,())))
def ok:Spec:=λm k hb=>⟨0,λN hN=>by
 simp only[Z0,aL,g,fP.g,gB.g];cases h1:(ba m&&!decide (bj m=[]));·rfl
 have hs:ba m=true:=by simp only[Bool.and_eq_true]at h1;exact h1.1
 have hd:=cn hs;obtain⟨n,r,hn,hr,hn1,hn5,hnr,hr8,hl⟩:=aQ hd;rw[bh (by omega) (by omega)];cases h2:b7 k 0 (m.1-1);·rfl
 have h3:=eK.1 h2;have hP:bP.P m k=true:=by simp only[bP.P,Bool.and_eq_true,decide_eq_true_eq];exact⟨hs,by omega,by omega⟩
 rw[hP];have hg:bP.g m k=bB m k.toNat:=rfl;rw[hg];cases(ba (bB m k.toNat)&&!decide (bj (bB m k.toNat)=[]))<;>rfl⟩
end f7
namespace od
def g(a b:Int×Int×List Int):Int:=ix a.2.2 b.2.2
def Z0{J:Type}(N:Nat)(a b:MT)(kr:Int->Option J):Option J :=
 kr (eT.g a.2.2 b.2.2)
def Spec:Prop:=∀ (v0 v1:MT),Ty.bd (.pair (.int .i64) (.pair (.int .i64) (.sl 0 (.int .i64)))) v0->Ty.bd (.pair (.int .i64) (.pair (.int .i64) (.sl 0 (.int .i64)))) v1->∃N0,∀N,N0<=N->Z0 N v0 v1 (λv4=>some ((),(v4,())))=some ((),((g v0 v1),()))
def ok:Spec:=λa b ha hb=>⟨0,λN hN=>rfl⟩
end od
namespace jU
abbrev g(l:List (Int×Int×List Int))(u:Unit):List (Int×Int×List Int):=kT l
abbrev P(l:List (Int×Int×List Int))(u:Unit):Bool:=Nat.blt 0 l.length&&Nat.blt l.length 4611686018427387904
def ok:True:=trivial
end jU
namespace cv
def g(m:Int×Int×List Int):List (Int×Int×List Int)×Bool:=dC m
def Z1{J:Type}(N:Nat)(a:MT)(kn:I2 (LI->Option J)):Option J :=
 kn a.1 a.2.1 a.2.2
def Z3{J:Type}(N:Nat)(a b:Int)(c:LI)(kn:LI->Bool->I2 (LI->I2 (Option J))):Option J :=
 kn (cA.g (a,(b,c))).1.2.2 (lk N ((cA.g (a,(b,c))).2)) a b c (cA.g (a,(b,c))).1.1 (cA.g (a,(b,c))).1.2.1
def Z5{J:Type}(N:Nat)(a:LI)(b:Bool)(c d:Int)(e:LI)(f g:Int)(kn:LI->I2 (LI->I2 (Option J)))(kr:LM->Bool->Option J):Option J :=
 cond (!(b))
 (
  kr ([]:List (MT)) false)
 (
  kn a c d e f g)
def Z7{J:Type}(N:Nat)(a:LI)(d e:Int)(f:LI)(b c:Int)(kn:LM->I2 (LI->I2 (LI->Option J))):Option J :=
 kn ([(b,(c,a))]:List (MT)) d e f b c a
def Z9{J:Type}(N:Nat)(b:LM)(c d:Int)(e:LI)(f h:Int)(a:LI)(kn:LM->I2 (LI->List ByteArray->Option J)):Option J :=
 cond (lk N (dw.P a)) (
  kn b c d e (jw ([]:List ByteArray) (dw.g a))) none
def Z12{J:Type}(N:Nat)(a:LM)(b c:Int)(d:LI)(e:List ByteArray)(kn:LM->I3 (LI->List ByteArray->Option J)):Option J :=
 kn a 0 b c d e
def Z16{J:Type}(N:Nat)(a:LM)(b c d:Int)(e:LI)(f:List ByteArray)(kn:LM->I3 (LI->List ByteArray->Option J))(k0:LM->Option J):Option J :=
 cond (lk N (decide (b<(a.length:Int))))
 (
  kn a b c d e f)
 (
  k0 a)
def Z20{J:Type}(N:Nat)(a:LM)(b c d:Int)(e:LI)(f:List ByteArray)(kn:LM->I4 (LI->List ByteArray->Option J)):Option J :=
 kn a b 0 c d e f
def Z23{J:Type}(N:Nat)(a:LM)(b c d f:Int)(h:LI)(e:List ByteArray)(kn:LM->I4 (LI->List ByteArray->Option J))(k2:LM->I3 (LI->List ByteArray->Option J))(kr:LM->Bool->Option J):Option J :=
 cond (lk N (decide (c<d)))
 (
  cond (lk N (ax b a.length)) (
   cond (!(lk N ((f7.g (a.getD b.toNat (0,(0,[]))) c).2)))
   (
    kr ([]:List (MT)) false)
   (
    cond (lk N (dw.P (cA.g (f7.g (a.getD b.toNat (0,(0,[]))) c).1).1.2.2)) (
     cond (!(lk N (fR e (dw.g (cA.g (f7.g (a.getD b.toNat (0,(0,[]))) c).1).1.2.2))))
     (
      cond (lk N (Nat.blt (a.length+([(cA.g (f7.g (a.getD b.toNat (0,(0,[]))) c).1).1]:List (MT)).length) 1099511627776)) (
       cond (lk N (decide (100<((a++([(cA.g (f7.g (a.getD b.toNat (0,(0,[]))) c).1).1]:List (MT))).length:Int))))
       (
        kr ([]:List (MT)) false)
       (
        kn (a++([(cA.g (f7.g (a.getD b.toNat (0,(0,[]))) c).1).1]:List (MT))) b (ah (c+1)) d f h (jw e (dw.g (cA.g (f7.g (a.getD b.toNat (0,(0,[]))) c).1).1.2.2)))) none)
     (
      cond (lk N (decide (100<(a.length:Int))))
      (
       kr ([]:List (MT)) false)
      (
       kn a b (ah (c+1)) d f h e))) none)) none)
 (
  k2 a b d f h e)
def Z22L{J:Type}(N:Nat)(k2:LM->I3 (LI->List ByteArray->Option J))(kr:LM->Bool->Option J):Nat->LM->Int->Int->Int->Int->LI->List ByteArray->Option J
 |0,_,_,_,_,_,_,_=>none
 |M+1,a,b,c,d,e,f,g=>Z23 N a b c d e f g (λa b c d e f g=>Z22L N k2 kr M a b c d e f g) k2 kr
def Z22 N a b c d e f g k2 kr:=(Z22L N k2 kr N a b c d e f g:Option J)
def Z21 N a b c d e f g kn kr:=(Z22 N a b c d e f g kn kr:Option J)
def Z19 N a b c d e f kn kr:=(Z20 N a b c d e f (λa b g c d e f=>Z21 N a b g c d e f kn kr):Option J)
def Z18 N a b c d e f kn kr:=(Z19 N a b c d e f kn kr:Option J)
def Z24{J:Type}(N:Nat)(a:LM)(b c d:Int)(e:LI)(f:List ByteArray)(kn:LM->I3 (LI->List ByteArray->Option J)):Option J :=
 kn a (ah (b+1)) c d e f
def Z17 N a b c d e f kn kr:=(Z18 N a b c d e f (λa b c d e f=>Z24 N a b c d e f kn) kr:Option J)
def Z15 N a b c d e f kn k0 kr:=(Z16 N a b c d e f (λa b c d e f=>Z17 N a b c d e f kn kr) k0:Option J)
def Z14L{J:Type}(N:Nat)(k0:LM->Option J)(kr:LM->Bool->Option J):Nat->LM->Int->Int->Int->LI->List ByteArray->Option J
 |0,_,_,_,_,_,_=>none
 |M+1,a,b,c,d,e,f=>Z15 N a b c d e f (λa b c d e f=>Z14L N k0 kr M a b c d e f) k0 kr
def Z14 N a b c d e f k0 kr:=(Z14L N k0 kr N a b c d e f:Option J)
def Z13 N a b c d e f kn kr:=(Z14 N a b c d e f kn kr:Option J)
def Z11 N a b c d e kn kr:=(Z12 N a b c d e (λa f b c d e=>Z13 N a f b c d e kn kr):Option J)
def Z25{J:Type}(N:Nat)(a:LM)(kr:LM->Bool->Option J):Option J :=
 cond (lk N (jU.P a ())) (
  kr (jU.g a ()) true) none
def Z10 N a b c d e kr:=(Z11 N a b c d e (λa=>Z25 N a kr) kr:Option J)
def Z8 N a b c d e f g kr:=(Z9 N a b c d e f g (λa b c d h=>Z10 N a b c d h kr):Option J)
def Z6 N a b c d e f kr:=(Z7 N a b c d e f (λg b c d e f a=>Z8 N g b c d e f a kr):Option J)
def Z4 N a g b c d e f kr:=(Z5 N a g b c d e f (λa b c d e f=>Z6 N a b c d e f kr) kr:Option J)
def Z2 N a b c kr:=(Z3 N a b c (λd e a b c f g=>Z4 N d e a b c f g kr):Option J)
def Z0 N a kr:=(Z1 N a (λb c d=>Z2 N b c d kr):Option J)
def Spec:Prop:=∀ (v0:MT),Ty.bd (.pair (.int .i64) (.pair (.int .i64) (.sl 0 (.int .i64)))) v0->∃N0,∀N,N0<=N->Z0 N v0 (λv2 v3=>some ((),(v2,(v3,()))))=some ((),((g v0).1,((g v0).2,())))
def iE(S:List (Int×Int×List Int)):List ByteArray:=S.map λy=>eO y.2.2
def Qu{n:Int}{x y:Int×Int×List Int}(hx:bI n x)(hy:bI n y)(h:eO x.2.2=eO y.2.2):x.2.2=y.2.2:=by
 have ne:∀{x:Int×Int×List Int},bI n x->x.2.2≠[]:=λhx e=>by have:=hx.len.1;rw[e]at this;simp at this
 have rg:∀{x:Int×Int×List Int},bI n x->∀u∈x.2.2,b7 u (-999999999) 999999999=true:=λhx u hu=>by have:=hx.ents u hu;rw[eK];omega
 have h1:=FN (ne hx) (rg hx);have h2:=FN (ne hy) (rg hy);rw[h,h2]at h1;injection h1 with h1;exact h1.symm
def Gb{n:Int}{S:List (Int×Int×List Int)}{y:Int×Int×List Int}(hS:dq n S)(hy:bI n y):fR (iE S) (eO y.2.2)=eM S y.2.2:=by
 have key:fR (iE S) (eO y.2.2)=true↔eM S y.2.2=true:=by rw[Me,r6,iE,List.mem_map];exact⟨λ⟨x,hx,e⟩=>⟨x,hx,Qu (hS x hx) hy e⟩,λ⟨x,hx,e⟩=>⟨x,hx,by rw[e]⟩⟩
 cases h:eM S y.2.2
 ·rw[h]at key;cases h2:fR (iE S) (eO y.2.2);·rfl
  ·rw[h2]at key;exact absurd (key.1 rfl) (by simp)
 ·rw[h]at key;exact key.2 rfl
def Gc{n:Int}{y:Int×Int×List Int}(hy:bI n y):dw.P y.2.2=true:=by have h1:=hy.len;simp only[dw.P,lW,Bool.and_eq_true,decide_eq_true_eq,List.all_eq_true];refine⟨by omega,λu hu=>?_⟩;have:=hy.ents u hu;simp only[er.P,dI,Bool.and_eq_true,decide_eq_true_eq];omega
section
variable {J : Type} {N : Nat} {m : Int × Int × List Int} {n : Nat} (hn : m.1 = (n : Int))
include hn
theorem row{k2:List (Int×Int×List Int)->Int->Int->Int->List Int->List ByteArray->Option J}{kr:List (Int×Int×List Int)->Bool->Option J}{a:Nat}{x:Int×Int×List Int}(hx:bI m.1 x) :
  ∀(M r k:Nat) {S:List (Int×Int×List Int)},k+r=n->r<M->dq m.1 S->S.length<=100->a<S.length->S.getD a z3=x ->
   Z22L N k2 kr M S (a:Int) (k:Int) m.1 m.2.1 m.2.2 (iE S)=match eN x k r S with
    |some S'=>k2 S' (a:Int) m.1 m.2.1 m.2.2 (iE S')
    |none=>kr [] false:=by
 intro M;induction M with
 |zero=>intro r k S _ h;omega
 |succ M ih =>
  intro r k S hk hM hS hl ha hxa;simp only[Z22L,Z23];cases r with
  |zero =>rw[cf (df (by omega))];rfl
  |succ r =>
   have hb5:=hx.bound;have h0:=hx.2.1;obtain⟨d,hR⟩:=hx.1;have hmu:f7.g x (k:Int)=if aT (bB x k)=true then(bB x k,true)else((0,0,[]),false):=by
    have hkk:b7 (k:Int) 0 (x.1-1)=true:=by rw[eK];omega
    have hok:=hR.ok;have hal:=EF hok (k:=k) (by omega);unfold f7.g;rw[nH,hok,Int.toNat_natCast];simp only[hal];have:b7 (k:Int) 0 (x.1-1)=true:=hkk;first | rw[this];simp | simp[this]
   rw[ct (dt (by omega)),ct (aG ha),Int.toNat_natCast,hxa,hmu];have e1:eN x k (r+1) S=(fg x k S).bind (eN x (k+1) r):=rfl;rw[e1];cases hz:aT (bB x k);·simp only[Bool.false_eq_true,if_false,aL];unfold fg;rw[hz];rfl
   ·have hf:=hx.mut (k:=k) (by omega) hz;have hfn:=hx.nxt (k:=k) (by omega) hz;have hcan:cA.g (bB x k)=(cS x k,true):=by obtain⟨d',hR'⟩:=hf.1;unfold cA.g;rw[nH,hR'.ok,dt (hf.2.2.trans hf.2.1.symm),Bool.and_self,if_pos rfl,Ey hf.dim (hf.2.2.trans hf.2.1.symm)];rfl
    have hk1:dw.g (cS x k).2.2=eO (cS x k).2.2:=rfl;simp only[if_true,aL,hcan,Bool.not_true,cond_false,Gc hfn,cond_true,hk1,Gb hS hfn];have e2:(gX S (cS x k))=if eM S (cS x k).2.2=true then S else S++[cS x k]:=rfl
    have stp:∀{S':List (Int×Int×List Int)},fg x k S=some S'->Z22L N k2 kr M S' (a:Int) (ah ((k:Int)+1)) m.1 m.2.1 m.2.2 (iE S')=match(fg x k S).bind (eN x (k+1) r)with
      |some S'=>k2 S' (a:Int) m.1 m.2.1 m.2.2 (iE S')
      |none=>kr [] false:=by
     intro S' h;obtain⟨e,f1,f2,f3⟩:=zD hS hx (by omega) h;rw[h,aN (by rw[aS];omega)];exact ih r (k+1) (by omega) (by omega) f1 f3 (by omega) (by rw[e,zC ha,hxa])
    cases hh:eM S (cS x k).2.2
    ·have hb:Nat.blt (S.length+([cS x k]:List (Int×Int×List Int)).length) 1099511627776=true:=Nat.ble_eq_true_of_le (by simp;omega);have hadd:jw (iE S) (eO (cS x k).2.2)=iE (S++[cS x k]):=by unfold jw;rw[Gb hS hfn,hh];simp[iE]
     simp only[Bool.not_false,cond_true,hb,hadd];by_cases h100:(S++[cS x k]).length<=100;·rw[df (by omega),cond_false];refine stp ?_;unfold fg;rw[if_pos hz,e2,hh];simp only[Bool.false_eq_true,if_false];rw[if_pos h100]
     ·rw[dt (by omega),cond_true];have:fg x k S=none:=by unfold fg;rw[if_pos hz,e2,hh];simp only[Bool.false_eq_true,if_false];rw[if_neg h100]
      rw[this];rfl
    ·simp only[Bool.not_true,cond_false];rw[df (by omega),cond_false];refine stp ?_;unfold fg;rw[if_pos hz,e2,hh];simp only[if_true];rw[if_pos hl]
theorem run(hN:4000<=N){k0:List (Int×Int×List Int)->Option J}{kr:List (Int×Int×List Int)->Bool->Option J} :
  ∀(M F a:Nat) {S:List (Int×Int×List Int)},dq m.1 S->S.length<=100->a<=S.length->101-a<M->101-a<F ->
   Z14L N k0 kr M S (a:Int) m.1 m.2.1 m.2.2 (iE S)=match fV n F a S with
    |some S'=>k0 S'
    |none=>kr [] false:=by
 intro M;induction M with
 |zero=>intro F a S _ _ _ h;omega
 |succ M ih =>
  intro F a S hS hl ha hM hF;obtain⟨F,rfl⟩:∃F',F=F'+1:=⟨F-1,by omega⟩;simp only[Z14L,Z15,Z16];have e1:fV n (F+1) a S=if a<S.length then(eN (S.getD a z3) 0 n S).bind (fV n F (a+1))else some S:=rfl
  rw[e1];by_cases h:a<S.length
  ·rw[ct (dt (by omega)),if_pos h];simp only[Z17,Z18,Z19,Z20,Z21,Z22];have hx:=kS hS h;have hb:=hx.bound;refine(row hn hx N n 0 (by omega) (by omega) hS hl h rfl).trans ?_;cases hr:eN (S.getD a z3) 0 n S with
   |none=>rfl
   |some S' =>obtain⟨f1,f2,f3,f4⟩:=r7 hx n 0 (by omega) hS hl hr;simp only[Option.bind_some,Z24];rw[aN (by rw[aS];omega)];exact ih F (a+1) f1 f3 (by omega) (by omega) (by omega)
  ·rw[cf (df (by omega)),if_neg h]
end
def ok:Spec:=λm hb=>⟨9000,λN hN=>by
 simp only[Z0,Z1,Z2,Z3,aL];have e0:((m.1,(m.2.1,m.2.2)):Int×Int×List Int)=m:=rfl;rw[e0];have hcg:cA.g m=if iz m=true then(nG m,true)else((0,0,[]),false):=by unfold cA.g;rw[nH];rfl
 rw[hcg];unfold g dC;cases hp:iz m;·rfl
 ·have hf:=zF hp;obtain⟨b1,b2,_⟩:=hf.bound;obtain⟨n,hn⟩:=Int.eq_ofNat_of_zero_le (show 0<=m.1 by omega);have hcs:nG m=cR m:=Ey hf.dim (hf.2.2);have hfc:=hf.can;simp only[if_true,Z4,Z5,Bool.not_true,cond_false,Z6,Z7,Z8,Z9,hcs,aL];have e1:(((cR m).1,((cR m).2.1,(cR m).2.2)):Int×Int×List Int)=cR m:=rfl;have e2:jw ([]:List ByteArray) (dw.g (cR m).2.2)=iE [cR m]:=rfl;rw[e1,e2,Gc hfc,cond_true];simp only[Z10,Z11,Z12,Z13,Z14];have hFL:dq m.1 [cR m]:=λx hx=>by rw[List.mem_singleton.1 hx];exact hfc
  refine(run (J:=Unit×(List (Int×Int×List Int)×(Bool×Unit))) hn (by omega) N 102 0 (S:=[cR m]) hFL (by simp) (Nat.zero_le _) (by omega) (by omega)).trans ?_;have e:gY m=fV n 102 0 [cR m]:=by unfold gY;rw[show m.1.toNat=n by omega]
  rw[<-e];cases hc:gY m with
  |none=>rfl
  |some S =>
   obtain⟨f1,f2,f3⟩:=r9 hp hc;have hP:jU.P S ()=true:=by simp only[jU.P,Bool.and_eq_true,Nat.blt_eq];omega
   have hS:jU.g S ()=jE m.1 S:=OY f1 (Fs S) (PA S);simp only[Z25,hP,aL,cond_true,hS]⟩
end cv
namespace bS
def g(m:Int×Int×List Int):List (Int×Int×List Int)×Bool:=c8 m
def Z1{J:Type}(N:Nat)(a:MT)(kn:I2 (LI->Option J)):Option J :=
 kn a.1 a.2.1 a.2.2
def Z3{J:Type}(N:Nat)(a b:Int)(c:LI)(kn:LM->Bool->Option J):Option J :=
 kn (cv.g (jR.g (a,(b,c)))).1 (lk N ((cv.g (jR.g (a,(b,c)))).2))
def Z5{J:Type}(N:Nat)(a:LM)(b:Bool)(kn:LM->Option J)(kr:LM->Bool->Option J):Option J :=
 cond (!(b))
 (
  kr ([]:List (MT)) false)
 (
  kn a)
def Z8{J:Type}(N:Nat)(a:LM)(kn:LM->I2 (Option J)):Option J :=
 kn a (a.length:Int) 0
def Z12{J:Type}(N:Nat)(c:LM)(a b:Int)(kn:LM->I2 (Bool->Option J)):Option J :=
 kn c a b (lk N (decide (b<a)))
def Z14{J:Type}(N:Nat)(a:LM)(b c:Int)(d:Bool)(kn:LM->I2 (Option J))(k0:LM->Option J):Option J :=
 cond (d)
 (
  kn a b c)
 (
  k0 a)
def Z18{J:Type}(N:Nat)(a:LM)(c b:Int)(kn:LM->I4 (LI->Option J)):Option J :=
 cond (lk N (ax b a.length)) (
  kn a c b (a.getD b.toNat (0,(0,[]))).1 (a.getD b.toNat (0,(0,[]))).2.1 (a.getD b.toNat (0,(0,[]))).2.2) none
def Z20{J:Type}(N:Nat)(a:LM)(b c d e:Int)(f:LI)(kn:LM->I5 (LI->Option J)):Option J :=
 kn a 0 b c d e f
def Z24{J:Type}(N:Nat)(a:LM)(b c d e f:Int)(g:LI)(kn:LM->I5 (LI->Option J))(k2:LM->I2 (Option J)):Option J :=
 cond (lk N (decide (b<e)))
 (
  kn a b c d e f g)
 (
  k2 a c d)
def Z28{J:Type}(N:Nat)(a:LM)(b c d e f:Int)(g:LI)(kn:LM->I6 (LI->Option J)):Option J :=
 kn a b 0 c d e f g
def Z31{J:Type}(N:Nat)(f:LM)(b c h i a d:Int)(e:LI)(kn:LM->I6 (LI->Option J))(k4:LM->I5 (LI->Option J))(kr:LM->Bool->Option J):Option J :=
 cond (lk N (decide (c<a)))
 (
  cond (lk N (cb.P (a,(d,e)) b c)) (
   cond (lk N (cb.P (a,(d,e)) c b)) (
    cond (lk N (decide ((ah ((cb.g (a,(d,e)) b c)*(cb.g (a,(d,e)) c b)))<(-3))))
    (
     kr ([]:List (MT)) false)
    (
     kn f b (ah (c+1)) h i a d e)) none) none)
 (
  k4 f b h i a d e)
def Z30L{J:Type}(N:Nat)(k4:LM->I5 (LI->Option J))(kr:LM->Bool->Option J):Nat->LM->Int->Int->Int->Int->Int->Int->LI->Option J
 |0,_,_,_,_,_,_,_,_=>none
 |M+1,a,b,c,d,e,f,g,h=>Z31 N a b c d e f g h (λa b c d e f g h=>Z30L N k4 kr M a b c d e f g h) k4 kr
def Z30 N a b c d e f g h k4 kr:=(Z30L N k4 kr N a b c d e f g h:Option J)
def Z29 N a b c d e f g h kn kr:=(Z30 N a b c d e f g h kn kr:Option J)
def Z27 N a b c d e f g kn kr:=(Z28 N a b c d e f g (λa b h c d e f g=>Z29 N a b h c d e f g kn kr):Option J)
def Z26 N a b c d e f g kn kr:=(Z27 N a b c d e f g kn kr:Option J)
def Z32{J:Type}(N:Nat)(a:LM)(b c d e f:Int)(g:LI)(kn:LM->I5 (LI->Option J)):Option J :=
 kn a (ah (b+1)) c d e f g
def Z25 N a b c d e f g kn kr:=(Z26 N a b c d e f g (λa b c d e f g=>Z32 N a b c d e f g kn) kr:Option J)
def Z23 N a b c d e f g kn k2 kr:=(Z24 N a b c d e f g (λa b c d e f g=>Z25 N a b c d e f g kn kr) k2:Option J)
def Z22L{J:Type}(N:Nat)(k2:LM->I2 (Option J))(kr:LM->Bool->Option J):Nat->LM->Int->Int->Int->Int->Int->LI->Option J
 |0,_,_,_,_,_,_,_=>none
 |M+1,a,b,c,d,e,f,g=>Z23 N a b c d e f g (λa b c d e f g=>Z22L N k2 kr M a b c d e f g) k2 kr
def Z22 N a b c d e f g k2 kr:=(Z22L N k2 kr N a b c d e f g:Option J)
def Z21 N a b c d e f g kn kr:=(Z22 N a b c d e f g kn kr:Option J)
def Z19 N a b c d e f kn kr:=(Z20 N a b c d e f (λa g b c d e f=>Z21 N a g b c d e f kn kr):Option J)
def Z17 N a b c kn kr:=(Z18 N a b c (λa b c d e f=>Z19 N a b c d e f kn kr):Option J)
def Z16 N a b c kn kr:=(Z17 N a b c kn kr:Option J)
def Z33{J:Type}(N:Nat)(a:LM)(b c:Int)(kn:LM->I2 (Option J)):Option J :=
 kn a b (ah (c+1))
def Z15 N a b c kn kr:=(Z16 N a b c (λa b c=>Z33 N a b c kn) kr:Option J)
def Z13 N a b c d kn k0 kr:=(Z14 N a b c d (λa b c=>Z15 N a b c kn kr) k0:Option J)
def Z11 N a b c kn k0 kr:=(Z12 N a b c (λa b c d=>Z13 N a b c d kn k0 kr):Option J)
def Z10L{J:Type}(N:Nat)(k0:LM->Option J)(kr:LM->Bool->Option J):Nat->LM->Int->Int->Option J
 |0,_,_,_=>none
 |M+1,a,b,c=>Z11 N a b c (λa b c=>Z10L N k0 kr M a b c) k0 kr
def Z10 N a b c k0 kr:=(Z10L N k0 kr N a b c:Option J)
def Z9 N a b c kn kr:=(Z10 N a b c kn kr:Option J)
def Z7 N a kn kr:=(Z8 N a (λa b c=>Z9 N a b c kn kr):Option J)
def Z34{J:Type}(N:Nat)(a:LM)(kr:LM->Bool->Option J):Option J :=
 kr a true
def Z6 N a kr:=(Z7 N a (λa=>Z34 N a kr) kr:Option J)
def Z4 N a b kr:=(Z5 N a b (λa=>Z6 N a kr) kr:Option J)
def Z2 N a b c kr:=(Z3 N a b c (λd e=>Z4 N d e kr):Option J)
def Z0 N a kr:=(Z1 N a (λb c d=>Z2 N b c d kr):Option J)
def Spec:Prop:=∀ (v0:MT),Ty.bd (.pair (.int .i64) (.pair (.int .i64) (.sl 0 (.int .i64)))) v0->∃N0,∀N,N0<=N->Z0 N v0 (λv2 v3=>some ((),(v2,(v3,()))))=some ((),((g v0).1,((g v0).2,())))
section
variable {J : Type} {N : Nat} {l : List (Int × Int × List Int)} {t0 t1 : Int}
theorem inner{n:Int}{m:Int×Int×List Int}(hf:bI n m){k4:List (Int×Int×List Int)->Int->Int->Int->Int->Int->List Int->Option J}{kr:List (Int×Int×List Int)->Bool->Option J}{i:Nat}(hi:i<m.1.toNat) :
  ∀(M r j:Nat),j+r=m.1.toNat->r<M->Z30L N k4 kr M l (i:Int) (j:Int) t0 t1 m.1 m.2.1 m.2.2=cond ((List.range' j r).all λj=>!decide (cz m i j < -3)) (k4 l (i:Int) t0 t1 m.1 m.2.1 m.2.2) (kr [] false):=by
 have hd:=hf.dim;obtain⟨q,rr,hn,hr',hn1,hn5,hnr,hr8,hl⟩:=aQ hd;intro M;induction M with
 |zero=>intro r j _ h;omega
 |succ M ih =>
  intro r j hj hM;simp only[Z30L,Z31];cases r with
  |zero=>rw[cf (df (by omega))];rfl
  |succ r =>
   have p1:cb.P (m.1,(m.2.1,m.2.2)) (i:Int) (j:Int)=true:=fG hd (by omega) (by omega);have p2:cb.P (m.1,(m.2.1,m.2.2)) (j:Int) (i:Int)=true:=fG hd (by omega) (by omega);have g1:cb.g (m.1,(m.2.1,m.2.2)) (i:Int) (j:Int)=ae m i j:=fF (by omega) i j;have g2:cb.g (m.1,(m.2.1,m.2.2)) (j:Int) (i:Int)=ae m j i:=fF (by omega) j i;have hb:=OZ hf i j;have hw:ah (ae m i j*ae m j i)=cz m i j:=bh (by unfold cz at hb;omega) (by unfold cz at hb;omega);rw[ct (dt (by omega)),ct p1,ct p2,g1,g2,hw,aN (by rw[aS];omega),List.range'_succ,List.all_cons];by_cases h:cz m i j < -3;·rw[ct (dt h),dt h];rfl
   ·rw[cf (df h),df h,ih r (j+1) (by omega) (by omega)];rfl
theorem outer{n:Int}{m:Int×Int×List Int}(hf:bI n m)(hN:200<=N){k2:List (Int×Int×List Int)->Int->Int->Option J}{kr:List (Int×Int×List Int)->Bool->Option J} :
  ∀(M r i:Nat),i+r=m.1.toNat->r<M->Z22L N k2 kr M l (i:Int) t0 t1 m.1 m.2.1 m.2.2=cond ((List.range' i r).all λi=>(List.range' 0 m.1.toNat).all λj=>!decide (cz m i j < -3)) (k2 l t0 t1) (kr [] false):=by
 obtain⟨q,rr,hn,hr',hn1,hn5,hnr,hr8,hl⟩:=aQ hf.dim;intro M;induction M with
 |zero=>intro r i _ h;omega
 |succ M ih =>
  intro r i hi hM;simp only[Z22L,Z23,Z24];cases r with
  |zero=>rw[cf (df (by omega))];rfl
  |succ r =>
   rw[ct (dt (by omega))];simp only[Z25,Z26,Z27,Z28,Z29,Z30];refine(inner hf (by omega) N m.1.toNat 0 (by omega) (by omega)).trans ?_;rw[List.range'_succ,List.all_cons];cases(List.range' 0 m.1.toNat).all λj=>!decide (cz m i j < -3);·rfl
   ·simp only[cond_true,Z32,Bool.true_and];rw[aN (by rw[aS];omega)];exact ih r (i+1) (by omega) (by omega)
theorem loop{n:Int}(hN:200<=N){k0:List (Int×Int×List Int)->Option J}{kr:List (Int×Int×List Int)->Bool->Option J}(hl:dq n l)(hlen:l.length<=100) :
  ∀(M r i:Nat),i+r=l.length->r<M->Z10L N k0 kr M l (l.length:Int) (i:Int)=cond ((l.drop i).all iA) (k0 l) (kr [] false):=by
 intro M;induction M with
 |zero=>intro r i _ h;omega
 |succ M ih =>
  intro r i hi hM;simp only[Z10L,Z11,Z12,Z13,Z14,aL];cases r with
  |zero=>rw[eY (df (by omega)),List.drop_of_length_le (by omega)];rfl
  |succ r =>
   have hf:=kS hl (a:=i) (by omega);obtain⟨b1,b2,_⟩:=hf.bound;have h1:=hf.2.1;rw[dZ (dt (by omega))];simp only[Z15,Z16,Z17,Z18];rw[ct (aG (by omega)),Int.toNat_natCast];simp only[Z19,Z20,Z21,Z22];refine(outer hf hN N (l.getD i z3).1.toNat 0 (by omega) (by omega)).trans ?_;rw[cK z3 (by omega:i<l.length),List.all_cons];show cond (iA (l.getD i z3)) _ _=_;cases iA (l.getD i z3);·rfl
   ·simp only[cond_true,Z33,Bool.true_and];rw[aN (by rw[aS];omega)];exact ih r (i+1) (by omega) (by omega)
end
def ok:Spec:=λm hb=>⟨200,λN hN=>by
 simp only[Z0,Z1,Z2,Z3,aL];have e0:((m.1,(m.2.1,m.2.2)):Int×Int×List Int)=m:=rfl;have e1:cv.g (jR.g m)=dC (fh m):=by unfold jR.g fh;rw[nH];rfl
 rw[e0,e1];simp only[Z4,Z5,g];unfold c8;cases h2:(dC (fh m)).2;·rfl
 ·obtain⟨_,f1,f2,f3⟩:=zH h2;simp only[Bool.not_true,cond_false,Z6,Z7,Z8,Z9,Z10];refine(loop hN f1 f3 N (dC (fh m)).1.length 0 (by omega) (by omega)).trans ?_;simp only[List.drop_zero,Z34,Bool.true_and];cases(dC (fh m)).1.all iA<;>rfl⟩
end bS
namespace cB
def P(m:Int×Int×List Int)(i:Int):Bool:=aY m&&(decide (0<=i)&&decide (i<m.1))
def g(m:Int×Int×List Int)(i:Int):List Int:=ak (a6 m i.toNat)
def Z1{J:Type}(N:Nat)(a:MT)(b:Int)(kn:I3 (LI->Option J)):Option J :=
 kn b a.1 a.2.1 a.2.2
def Z3{J:Type}(N:Nat)(a b c:Int)(d:LI)(kn:I3 (LI->Option J)):Option J :=
 kn a b c d
def Z6{J:Type}(N:Nat)(a b c:Int)(d:LI)(kn:I4 (LI->Option J)):Option J :=
 kn a 0 b c d
def Z9{J:Type}(N:Nat)(c:LI)(d a b e:Int)(f:LI)(kn:LI->I4 (LI->Option J))(k0:LI->Option J):Option J :=
 cond (lk N (decide (a<b)))
 (
  cond (lk N (cb.P (b,(e,f)) d a)) (
   cond (lk N (!(decide ((cb.g (b,(e,f)) d a)=0))))
   (
    cond (lk N (Nat.blt (c.length+([a]:List Int).length) 1099511627776)) (
     kn (c++([a]:List Int)) d (ah (a+1)) b e f) none)
   (
    kn c d (ah (a+1)) b e f)) none)
 (
  k0 c)
def Z8L{J:Type}(N:Nat)(k0:LI->Option J):Nat->LI->Int->Int->Int->Int->LI->Option J
 |0,_,_,_,_,_,_=>none
 |M+1,a,b,c,d,e,f=>Z9 N a b c d e f (λa b c d e f=>Z8L N k0 M a b c d e f) k0
def Z8 N a b c d e k0:=(Z8L N k0 N ([]:List Int) a b c d e:Option J)
def Z7 N a b c d e kn:=(Z8 N a b c d e kn:Option J)
def Z5 N a b c d kn:=(Z6 N a b c d (λa e b c d=>Z7 N a e b c d kn):Option J)
def Z10{J:Type}(N:Nat)(a:LI)(kr:LI->Option J):Option J :=
 kr a
def Z4 N a b c d kr:=(Z5 N a b c d (λe=>Z10 N e kr):Option J)
def Z2 N a b c d kr:=(Z3 N a b c d (λa b c d=>Z4 N a b c d kr):Option J)
def Z0 N b a kr:=(Z1 N b a (λa c d e=>Z2 N a c d e kr):Option J)
def Spec:Prop:=∀ (v0:MT) (v1:Int),Ty.bd (.pair (.int .i64) (.pair (.int .i64) (.sl 0 (.int .i64)))) v0->P v0 v1=true->∃N0,∀N,N0<=N->Z0 N v0 v1 (λv4=>some ((),(v4,())))=some ((),((g v0 v1),()))
def loop{J:Type}{N:Nat}{m:Int×Int×List Int}(hd:aY m=true)(k0:List Int->Option J){i:Nat}(hi:i<m.1.toNat):∀(M r j:Nat) (c:List Nat),j+r=m.1.toNat->c.length<=j->r<M ->
  Z8L N k0 M (ak c) (i:Int) (j:Int) m.1 m.2.1 m.2.2=k0 (ak (c++((List.range' j r).filter λj=>!decide (ae m i j=0)))):=by
 obtain⟨n,rr,hn,hr',hn1,hn5,hnr,hr8,hl⟩:=aQ hd;intro M;induction M with
 |zero=>intro r j c _ _ h;omega
 |succ M ih =>
  intro r j c hj hc hM;simp only[Z8L,Z9];cases r with
  |zero=>rw[cf (df (by omega)),List.range'_zero,List.filter_nil,List.append_nil]
  |succ r =>
   have p1:cb.P (m.1,(m.2.1,m.2.2)) (i:Int) (j:Int)=true:=fG hd (by omega) (by omega);have g1:cb.g (m.1,(m.2.1,m.2.2)) (i:Int) (j:Int)=ae m i j:=fF (by omega) i j;have b1:Nat.blt ((ak c).length+([(j:Int)]:List Int).length) 1099511627776=true:=by simp[aU,Nat.blt_eq];omega
   rw[ct (dt (by omega)),ct p1,g1,List.range'_succ,List.filter_cons,aN (j:=j) (by rw[aS];omega)];by_cases h:ae m i j=0;·rw[cf (nf h),if_neg (by simp[h])];exact ih r (j+1) c (by omega) (by omega) (by omega)
   ·rw[ct (nt h),if_pos (by simp[h]),ct b1,rR,ih r (j+1) (c++[j]) (by omega) (by simp;omega) (by omega),List.append_assoc];rfl
def ok:Spec:=λm i hb hp=>⟨10,λN hN=>by simp only[P,Bool.and_eq_true,decide_eq_true_eq]at hp;obtain⟨hd,h0,h1⟩:=hp;obtain⟨x,rfl⟩:=Int.eq_ofNat_of_zero_le h0;obtain⟨n,r,hn,hr,hn1,hn5,hnr,hr8,hl⟩:=aQ hd;simp only[Z1,Z3,Z6,Z9,Z8,Z7,Z5,Z10,Z4,Z2,Z0];refine(loop hd _ (by omega) N m.1.toNat 0 [] (by omega) (by simp) (by omega)).trans ?_;rw[List.nil_append,<-List.range_eq_range'];rfl⟩
end cB
namespace bA
def P(m:Int×Int×List Int):Bool:=aT m
def g(m:Int×Int×List Int):List (List Int)×Bool:=if gZ m=true then((dK m).map ak,true)else([],false)
def Z1{J:Type}(N:Nat)(a:MT)(kn:I2 (LI->Option J)):Option J :=
 kn a.1 a.2.1 a.2.2
def Z3{J:Type}(N:Nat)(a b:Int)(c:LI)(kn:I2 (LI->Option J)):Option J :=
 kn a b c
def Z5{J:Type}(N:Nat)(a b:Int)(c:LI)(kn:List Bool->I2 (LI->Option J)):Option J :=
 cond (lk N (bF 0 a&&decide (a<1099511627776))) (
  kn (List.replicate a.toNat (false:Bool)) a b c) none
def Z8{J:Type}(N:Nat)(a:List Bool)(b c:Int)(d:LI)(kn:List Bool->I4 (LI->Option J)):Option J :=
 kn a (a.length:Int) 0 b c d
def Z12{J:Type}(N:Nat)(c:LL)(d:List Bool)(a b e f:Int)(g:LI)(kn:LL->List Bool->I2 (Bool->I2 (LI->Option J))):Option J :=
 kn c d a b (lk N (decide (b<a))) e f g
def Z14{J:Type}(N:Nat)(a:LL)(b:List Bool)(c d:Int)(e:Bool)(f g:Int)(h:LI)(kn:LL->List Bool->I4 (LI->Option J))(k0:LL->Option J):Option J :=
 cond (e)
 (
  kn a b c d f g h)
 (
  k0 a)
def Z18{J:Type}(N:Nat)(b:LL)(c:List Bool)(d a e f:Int)(g:LI)(kn:LL->List Bool->I5 (LI->Option J)):Option J :=
 kn b c a d a e f g
def Z20{J:Type}(N:Nat)(c:LL)(a:List Bool)(b d e f g:Int)(h:LI)(kn:LL->List Bool->I5 (LI->Option J))(k1:LL->List Bool->I4 (LI->Option J)):Option J :=
 cond (lk N (ax b a.length)) (
  cond ((a.getD b.toNat false))
  (
   k1 c a d e f g h)
  (
   kn c a b d e f g h)) none
def Z22{J:Type}(N:Nat)(c:LL)(b:List Bool)(a d e f g:Int)(h:LI)(kn:LL->List Bool->I5 (LI->Option J)):Option J :=
 cond (lk N (ax a b.length)) (
  kn c (b.set a.toNat true) a d e f g h) none
def Z24{J:Type}(N:Nat)(a:LL)(b:List Bool)(c d e f g:Int)(h:LI)(kn:LL->List Bool->LI->I4 (LI->Option J)):Option J :=
 kn a b ([c]:List Int) d e f g h
def Z26{J:Type}(N:Nat)(a:LL)(b:List Bool)(c:LI)(d e f g:Int)(h:LI)(kn:LL->List Bool->LI->I5 (LI->Option J)):Option J :=
 kn a b c 0 d e f g h
def Z29{J:Type}(N:Nat)(a:LL)(b:List Bool)(c:LI)(d e f g h:Int)(i:LI)(kn:LL->List Bool->LI->I6 (LI->Option J)):Option J :=
 kn a b c d 0 e f g h i
def Z33{J:Type}(N:Nat)(b:LL)(c:List Bool)(a:LI)(d e f g h i:Int)(j:LI)(kn:LL->List Bool->LI->I6 (LI->Option J))(k2:LL->List Bool->LI->I5 (LI->Option J)):Option J :=
 cond (lk N (decide (e<(a.length:Int))))
 (
  kn b c a d e f g h i j)
 (
  k2 b c a d f g h i j)
def Z37{J:Type}(N:Nat)(f:LL)(h:List Bool)(a:LI)(i b j l c d:Int)(e:LI)(kn:LL->List Bool->LI->LI->I8 (LI->Option J)):Option J :=
 cond (lk N (ax b a.length)) (
  cond (lk N (cB.P (c,(d,e)) (a.getD b.toNat 0))) (
   kn f h a (cB.g (c,(d,e)) (a.getD b.toNat 0)) i b j l ((cB.g (c,(d,e)) (a.getD b.toNat 0)).length:Int) 0 c d e) none) none
def Z40{J:Type}(N:Nat)(e:LL)(c:List Bool)(d b:LI)(f g h i j a l m:Int)(o:LI)(kn:LL->List Bool->LI->LI->I8 (LI->Option J))(k4:LL->List Bool->LI->I6 (LI->Option J)):Option J :=
 cond (lk N (decide (a<j)))
 (
  cond (lk N (ax a b.length)) (
   cond (lk N (ax (b.getD a.toNat 0) c.length)) (
    cond (!((c.getD (b.getD a.toNat 0).toNat false)))
    (
     cond (lk N (ax (b.getD a.toNat 0) c.length)) (
      cond (lk N (Nat.blt (d.length+([(b.getD a.toNat 0)]:List Int).length) 1099511627776)) (
       kn e (c.set (b.getD a.toNat 0).toNat true) (d++([(b.getD a.toNat 0)]:List Int)) b (ah (f+1)) g h i j (ah (a+1)) l m o) none) none)
    (
     kn e c d b (ah (f+1)) g h i j (ah (a+1)) l m o)) none) none)
 (
  k4 e c d f g h i l m o)
def Z39L{J:Type}(N:Nat)(k4:LL->List Bool->LI->I6 (LI->Option J)):Nat->LL->List Bool->LI->LI->Int->Int->Int->Int->Int->Int->Int->Int->LI->Option J
 |0,_,_,_,_,_,_,_,_,_,_,_,_,_=>none
 |M+1,a,b,c,d,e,f,g,h,i,j,l,m,o=>Z40 N a b c d e f g h i j l m o (λa b c d e f g h i j l m o=>Z39L N k4 M a b c d e f g h i j l m o) k4
def Z39 N a b c d e f g h i j l m o k4:=(Z39L N k4 N a b c d e f g h i j l m o:Option J)
def Z38 N a b c d e f g h i j l m o kn:=(Z39 N a b c d e f g h i j l m o kn:Option J)
def Z36 N a b c d e f g h i j kn:=(Z37 N a b c d e f g h i j (λa b c l d e f g m o h i j=>Z38 N a b c l d e f g m o h i j kn):Option J)
def Z35 N a b c d e f g h i j kn:=(Z36 N a b c d e f g h i j kn:Option J)
def Z41{J:Type}(N:Nat)(a:LL)(b:List Bool)(c:LI)(d e f g h i:Int)(j:LI)(kn:LL->List Bool->LI->I6 (LI->Option J)):Option J :=
 kn a b c d (ah (e+1)) f g h i j
def Z34 N a b c d e f g h i j kn:=(Z35 N a b c d e f g h i j (λa b c d e f g h i j=>Z41 N a b c d e f g h i j kn):Option J)
def Z32 N a b c d e f g h i j kn k2:=(Z33 N a b c d e f g h i j (λa b c d e f g h i j=>Z34 N a b c d e f g h i j kn) k2:Option J)
def Z31L{J:Type}(N:Nat)(k2:LL->List Bool->LI->I5 (LI->Option J)):Nat->LL->List Bool->LI->Int->Int->Int->Int->Int->Int->LI->Option J
 |0,_,_,_,_,_,_,_,_,_,_=>none
 |M+1,a,b,c,d,e,f,g,h,i,j=>Z32 N a b c d e f g h i j (λa b c d e f g h i j=>Z31L N k2 M a b c d e f g h i j) k2
def Z31 N a b c d e f g h i j k2:=(Z31L N k2 N a b c d e f g h i j:Option J)
def Z30 N a b c d e f g h i j kn:=(Z31 N a b c d e f g h i j kn:Option J)
def Z28 N a b c d e f g h i kn:=(Z29 N a b c d e f g h i (λa b c d j e f g h i=>Z30 N a b c d j e f g h i kn):Option J)
def Z42{J:Type}(N:Nat)(b:LL)(c:List Bool)(a:LI)(d e f g h:Int)(i:LI)(kn:LL->List Bool->I4 (LI->Option J))(kr:LL->Bool->Option J):Option J :=
 cond (lk N (true)) (
  cond (lk N (!(decide ((ah (Int.tdiv d 2))=(ah ((a.length:Int)-1))))))
  (
   kr ([]:List (LI)) false)
  (
   cond (lk N (Nat.blt (b.length+([a]:List (LI)).length) 1099511627776)) (
    kn (b++([a]:List (LI))) c e f g h i) none)) none
def Z27 N a b c d e f g h i kn kr:=(Z28 N a b c d e f g h i (λa b c d e f g h i=>Z42 N a b c d e f g h i kn kr):Option J)
def Z25 N a b c d e f g h kn kr:=(Z26 N a b c d e f g h (λa b c i d e f g h=>Z27 N a b c i d e f g h kn kr):Option J)
def Z23 N a b h c d e f g kn kr:=(Z24 N a b h c d e f g (λa b i c d e f g=>Z25 N a b i c d e f g kn kr):Option J)
def Z21 N a b c d e f g h kn kr:=(Z22 N a b c d e f g h (λa b c d e f g h=>Z23 N a b c d e f g h kn kr):Option J)
def Z19 N a b c d e f g h kn k1 kr:=(Z20 N a b c d e f g h (λa b c d e f g h=>Z21 N a b c d e f g h kn kr) k1:Option J)
def Z17 N a b c d e f g kn k1 kr:=(Z18 N a b c d e f g (λa b h c d e f g=>Z19 N a b h c d e f g kn k1 kr):Option J)
def Z16 N a b c d e f g kn kr:=(Z17 N a b c d e f g kn kn kr:Option J)
def Z43{J:Type}(N:Nat)(a:LL)(b:List Bool)(c d e f:Int)(g:LI)(kn:LL->List Bool->I4 (LI->Option J)):Option J :=
 kn a b c (ah (d+1)) e f g
def Z15 N a b c d e f g kn kr:=(Z16 N a b c d e f g (λa b c d e f g=>Z43 N a b c d e f g kn) kr:Option J)
def Z13 N a b c d h e f g kn k0 kr:=(Z14 N a b c d h e f g (λa b c d e f g=>Z15 N a b c d e f g kn kr) k0:Option J)
def Z11 N a b c d e f g kn k0 kr:=(Z12 N a b c d e f g (λa b c d h e f g=>Z13 N a b c d h e f g kn k0 kr):Option J)
def Z10L{J:Type}(N:Nat)(k0:LL->Option J)(kr:LL->Bool->Option J):Nat->LL->List Bool->Int->Int->Int->Int->LI->Option J
 |0,_,_,_,_,_,_,_=>none
 |M+1,a,b,c,d,e,f,g=>Z11 N a b c d e f g (λa b c d e f g=>Z10L N k0 kr M a b c d e f g) k0 kr
def Z10 N a b c d e f k0 kr:=(Z10L N k0 kr N ([]:List (LI)) a b c d e f:Option J)
def Z9 N a b c d e f kn kr:=(Z10 N a b c d e f kn kr:Option J)
def Z7 N a b c d kn kr:=(Z8 N a b c d (λa e f b c d=>Z9 N a e f b c d kn kr):Option J)
def Z44{J:Type}(N:Nat)(a:LL)(kr:LL->Bool->Option J):Option J :=
 kr a true
def Z6 N a b c d kr:=(Z7 N a b c d (λe=>Z44 N e kr) kr:Option J)
def Z4 N a b c kr:=(Z5 N a b c (λd a b c=>Z6 N d a b c kr):Option J)
def Z2 N a b c kr:=(Z3 N a b c (λa b c=>Z4 N a b c kr):Option J)
def Z0 N a kr:=(Z1 N a (λb c d=>Z2 N b c d kr):Option J)
def Spec:Prop:=∀ (v0:MT),Ty.bd (.pair (.int .i64) (.pair (.int .i64) (.sl 0 (.int .i64)))) v0->P v0=true->∃N0,∀N,N0<=N->Z0 N v0 (λv2 v3=>some ((),(v2,(v3,()))))=some ((),((g v0).1,((g v0).2,())))
section
variable {J : Type} {N : Nat} {m : Int × Int × List Int} (hs : aT m = true)
include hs
theorem inner(k4:List (List Int)->List Bool->List Int->Int->Int->Int->Int->Int->Int->List Int->Option J)(out:List (List Int))(F nb:List Nat)(hnb:∀y∈nb,y<m.1.toNat/\y∉F)(h5:nb.length<=5)(at9 t16 t17:Int) :
  ∀(M j:Nat) (p:List Nat) (c:Nat),j<=nb.length->nb.length-j<M->p.Nodup->(∀x∈p,x<m.1.toNat)->c<=1000+j ->
  Z39L N k4 M out (fY m.1.toNat (F++p)) (ak p) (ak nb) (c:Int) at9 t16 t17 ((ak nb).length:Int) (j:Int) m.1 m.2.1 m.2.2 =
   k4 out (fY m.1.toNat (F++(nb.drop j).foldl fI p)) (ak ((nb.drop j).foldl fI p)) ((c+(nb.length-j):Nat):Int) at9 t16 t17 m.1 m.2.1 m.2.2:=by
 obtain⟨n,rr,hn,hr',hn1,hn5,hnr,hr8,hl⟩:=aQ (cn (cV hs));intro M;induction M with
 |zero=>intro j p c _ h;omega
 |succ M ih =>
  intro j p c hj hM hnd hlt hc;simp only[Z39L,Z40];by_cases hjl:j<nb.length
  ·obtain⟨hy,hyF⟩:=hnb _ (aX (l:=nb) (j:=j) 0 hjl);have hpl:=ph _ p hnd hlt;have b1:Nat.blt ((ak p).length+([((nb.getD j 0:Nat):Int)]:List Int).length) 1099511627776=true:=by simp[aU,Nat.blt_eq];omega
   have hin:ax ((nb.getD j 0:Nat):Int) (fY m.1.toNat (F++p)).length=true:=aG (by rw[u0];exact hy);have hget:(fY m.1.toNat (F++p)).getD (nb.getD j 0) false=decide (nb.getD j 0∈p):=by rw[Fh hy,decide_eq_decide,List.mem_append];exact⟨λh=>h.resolve_left hyF,.inr⟩
   rw[ct (dt (by rw[aU];omega)),ct (aG (by rw[aU];exact hjl))];simp only[Int.toNat_natCast,d6];rw[ct hin,hget,cK 0 hjl,List.foldl_cons,aN (j:=j) (by rw[aS];omega),aN (j:=c) (by rw[aS];omega)];by_cases h:nb.getD j 0∈p;·have e:fI p (nb.getD j 0)=p:=if_pos h;rw[decide_eq_true h,e];refine(ih (j+1) p (c+1) (by omega) (by omega) hnd hlt (by omega)).trans ?_;congr 2;omega
   ·have e:fI p (nb.getD j 0)=p++[nb.getD j 0]:=if_neg h;rw[decide_eq_false h,e,Bool.not_false,cond_true,ct hin,ct b1,Fi hy,List.append_assoc,rR];refine(ih (j+1) (p++[nb.getD j 0]) (c+1) (by omega) (by omega) ?_ ?_ (by omega)).trans ?_;·exact List.nodup_append.2 ⟨hnd,by simp,λa ha b hb e=>by rw[List.mem_singleton]at hb;subst hb;subst e;exact h ha⟩
    ·intro x hx;rcases List.mem_append.1 hx with hx|hx;·exact hlt x hx
     ·rw[List.mem_singleton.1 hx];exact hy
    ·congr 2;omega
  ·have e:nb.length-j=0:=by omega
   rw[cf (df (by rw[aU];omega)),List.drop_of_length_le (by omega),e];rfl
theorem mid(hN:20<=N)(k2:List (List Int)->List Bool->List Int->Int->Int->Int->Int->Int->List Int->Option J)(out:List (List Int))(F:List Nat)(hF:nL m F)(t16 t17:Int) :
  ∀(M f a:Nat) (p:List Nat),f+a=m.1.toNat->m.1.toNat-a<M->p.Nodup->(∀x∈p,x<m.1.toNat/\x∉F)->a<=p.length ->
  Z31L N k2 M out (fY m.1.toNat (F++p)) (ak p) ((((p.take a).map λx=>(a6 m x).length).sum:Nat):Int) (a:Int) t16 t17 m.1 m.2.1 m.2.2 =
   k2 out (fY m.1.toNat (F++ja m f a p)) (ak (ja m f a p)) ((((ja m f a p).map λx=>(a6 m x).length).sum:Nat):Int) t16 t17 m.1 m.2.1 m.2.2:=by
 obtain⟨n,rr,hn,hr',hn1,hn5,hnr,hr8,hl⟩:=aQ (cn (cV hs));intro M;induction M with
 |zero=>intro f a p _ h;omega
 |succ M ih =>
  intro f a p hf hM hnd hp ha;have hpl:=ph _ p hnd (λx hx=>(hp x hx).1);simp only[Z31L,Z32,Z33];by_cases h:a<p.length
  ·rw[ct (dt (by rw[aU];omega))];simp only[Z34,Z35,Z36,Z37,Z38,Z39,Z41];obtain⟨hu,huF⟩:=hp _ (aX (l:=p) (j:=a) 0 h);have pj:cB.P (m.1,(m.2.1,m.2.2)) ((p.getD a 0:Nat):Int)=true:=by show(aY m&&_)=true;rw[cn (cV hs),dt (show(0:Int)<=((p.getD a 0:Nat):Int) by omega),dt (show((p.getD a 0:Nat):Int)<m.1 by omega)];rfl
   have gj:cB.g (m.1,(m.2.1,m.2.2)) ((p.getD a 0:Nat):Int)=ak (a6 m (p.getD a 0)):=rfl;have hnl:=sc m (p.getD a 0);have hnb:∀y∈a6 m (p.getD a 0),y<m.1.toNat/\y∉F:=λy hy=>by obtain⟨h1,h2⟩:=nK.1 hy;exact⟨h1,λhc=>huF ((hF y hc).2 _ hu (λe=>h2 ((zQ hs _ _ hu h1).2 e)))⟩
   have hsum:((p.take a).map λx=>(a6 m x).length).sum<=5*a:=by
    have:∀l:List Nat,(l.map λx=>(a6 m x).length).sum<=5*l.length:=by
     intro l;induction l with
     |nil=>simp
     |cons x l ihl =>have:=sc m x;rw[List.map_cons,List.sum_cons,List.length_cons];omega
    have:=this (p.take a);rw[List.length_take]at this;omega
   rw[ct (aG (by rw[aU];exact h)),Int.toNat_natCast,d6,ct pj,gj];refine(inner hs _ out F _ hnb (by omega) _ _ _ N 0 p _ (by omega) (by omega) hnd (λx hx=>(hp x hx).1) (by omega)).trans ?_;rw[List.drop_zero,Nat.sub_zero,aN (by rw[aS];omega)];obtain⟨t,ht⟩:=Fd (a6 m (p.getD a 0)) p;have e1:((p.take a).map λx=>(a6 m x).length).sum+(a6 m (p.getD a 0)).length=((((a6 m (p.getD a 0)).foldl fI p).take (a+1)).map λx=>(a6 m x).length).sum:=by
    have hap:a+1<=p.length:=h;have eta:((a6 m (p.getD a 0)).foldl fI p).take (a+1)=p.take a++[p.getD a 0]:=by rw[ht,List.take_append_of_le_length hap,<-lP 0 h]
    rw[eta,List.map_append,List.sum_append];simp
   rw[e1];cases f with
   |zero=>omega
   |succ f =>
    have e2:ja m (f+1) a p=ja m f (a+1) ((a6 m (p.getD a 0)).foldl fI p):=by rw[ja,if_pos h]
    rw[e2];refine ih f (a+1) _ (by omega) (by omega) (Ff _ hnd) (λx hx=>?_) (by rw[ht];simp;omega);rcases Fe _ _ hx with h|h;·exact hp x h
    ·exact hnb x h
  ·have e:ja m f a p=p:=by
    cases f with
    |zero=>rfl
    |succ f=>rw[ja,if_neg h]
   rw[cf (df (by rw[aU];omega)),e,List.take_of_length_le (by omega)]
theorem outer(hN:20<=N)(k0:List (List Int)->Option J)(kr:List (List Int)->Bool->Option J) :
  ∀(M r k:Nat) (out:List (List Nat)),k+r=m.1.toNat->r<M->gH m k out->out.all (gu m)=true ->
  Z10L N k0 kr M (out.map ak) (fY m.1.toNat out.flatten) (m.1.toNat:Int) (k:Int) m.1 m.2.1 m.2.2 =
   if(fH m (List.range' k r) out).all (gu m)=true then k0 ((fH m (List.range' k r) out).map ak)else kr [] false:=by
 obtain⟨n,rr,hn,hr',hn1,hn5,hnr,hr8,hl⟩:=aQ (cn (cV hs));intro M;induction M with
 |zero=>intro r k out _ h;omega
 |succ M ih =>
  intro r k out hk hM hC hT;simp only[Z10L,Z11,Z12,Z13,Z14];cases r with
  |zero =>rw[eY (by rw[aL];exact df (by omega))];exact(if_pos (show(fH m (List.range' k 0) out).all (gu m)=true from hT)).symm
  |succ r =>
   rw[dZ (by rw[aL];exact dt (by omega))];simp only[Z15,Z16,Z17,Z18,Z19,Z20];rw[List.range'_succ,fH,ct (aG (by rw[u0];omega)),Int.toNat_natCast,Fh (by omega)];by_cases hin:k∈out.flatten;·rw[decide_eq_true hin,if_pos hin,cond_true];simp only[Z43];rw[aN (by rw[aS];omega)];exact ih r (k+1) out (by omega) (by omega) hC.up hT
   ·rw[decide_eq_false hin,if_neg hin,cond_false];simp only[Z21,Z22,Z23,Z24,Z25,Z26,Z27,Z28,Z29,Z30,Z31,Z42,Z43];rw[ct (aG (by rw[u0];omega)),Int.toNat_natCast,Fi (by omega)];have hm:=mid hs hN (λout4 seen5 piece7 pairs8 t16 t17 m1_0 m1_1 m1_2=>cond (lk N true) (cond (lk N (!(decide ((ah (Int.tdiv pairs8 2))=(ah ((piece7.length:Int)-1)))))) (kr ([]:List (List Int)) false)
     (cond (lk N (Nat.blt (out4.length+([piece7]:List (List Int)).length) 1099511627776)) (Z10L N k0 kr M (out4++([piece7]:List (List Int))) seen5 t16 (ah (t17+1)) m1_0 m1_1 m1_2) none)) none)
     (out.map ak) out.flatten hC.shut (m.1.toNat:Int) (k:Int) N m.1.toNat 0 [k] (by omega) (by omega) (by simp) (λx hx=>by rw[List.mem_singleton.1 hx];exact⟨by omega,hin⟩) (by simp)
    refine Eq.trans (by exact hm) ?_;rw[<-Pi];have hkn:k<m.1.toNat:=by omega
    have hsh:=uZ hkn;obtain⟨hI,_⟩:=pi hkn;have hsum:=Pm hs hI.nd hsh;have hple:=hI.le;have hpos:=hI.pos;have hol:=hC.len;rw[aL,cond_true,hsum,aU];have hE:gr (ae m) (bf m k).1<=100:=by
     have:∀l:List Nat,(l.map λx=>(a6 m x).length).sum<=5*l.length:=by
      intro l;induction l with
      |nil=>simp
      |cons x l ihl =>have:=sc m x;rw[List.map_cons,List.sum_cons,List.length_cons];omega
     have:=this (bf m k).1;omega
    have e1:ah (Int.tdiv ((2*gr (ae m) (bf m k).1:Nat):Int) 2)=((gr (ae m) (bf m k).1:Nat):Int):=by
     have:Int.tdiv ((2*gr (ae m) (bf m k).1:Nat):Int) 2=((gr (ae m) (bf m k).1:Nat):Int):=by rw[Int.tdiv_eq_ediv_of_nonneg (by omega)];omega
     rw[this];exact bh (by omega) (by omega)
    have e2:ah (((bf m k).1.length:Int)-1)=((bf m k).1.length:Int)-1:=bh (by omega) (by omega);rw[e1,e2];obtain⟨t,ht⟩:=zS (m:=m) (List.range' (k+1) r) (out++[(bf m k).1]);by_cases hE2:gr (ae m) (bf m k).1+1=(bf m k).1.length
    ·have hb:Nat.blt ((out.map ak).length+([ak (bf m k).1]:List (List Int)).length) 1099511627776=true:=by simp[Nat.blt_eq];omega
     rw[cf (show(!decide _)=false by rw[dt (by omega)];rfl),ct hb,aN (by rw[aS];omega)];have e3:out.map ak++[ak (bf m k).1]=(out++[(bf m k).1]).map ak:=by simp
     have e4:out.flatten++(bf m k).1=(out++[(bf m k).1]).flatten:=by simp
     rw[e3,e4];exact ih r (k+1) _ (by omega) (by omega) (hC.step hkn) (by rw[List.all_append,hT,List.all_cons,gu,decide_eq_true hE2];rfl)
    ·rw[ct (show(!decide _)=true by rw[df (by omega)];rfl),if_neg];rw[ht];simp only[List.all_append,List.all_cons,List.all_nil,gu,decide_eq_false hE2];simp
end
def ok:Spec:=λm hb hs=>⟨20,λN hN=>by
 have hs:aT m=true:=hs;obtain⟨n,rr,hn,hr',hn1,hn5,hnr,hr8,hl⟩:=aQ (cn (cV hs));have e1:(bF 0 m.1&&decide (m.1<1099511627776))=true:=by rw[dt (show m.1<1099511627776 by omega),Bool.and_true];exact dt (by omega)
 simp only[Z1,Z3,Z5,Z8,Z12,Z14,Z18,Z20,Z22,Z24,Z26,Z29,Z33,Z37,Z40,Z39,Z38,Z36,Z35,Z41,Z34,Z32,Z31,Z30,Z28,Z42,Z27,Z25,Z23,Z21,Z19,Z17,Z16,Z43,Z15,Z13,Z11,Z10,Z9,Z7,Z44,Z6,Z4,Z2,Z0];rw[ct e1,Pn];have e2:((fY m.1.toNat []).length:Int)=(m.1.toNat:Int):=by rw[u0]
 rw[e2];have:=outer hs hN (λout4=>some ((),(out4,(true,())))) (λt2 t3=>some ((),(t2,(t3,())))) N m.1.toNat 0 [] (by omega) (by omega) ⟨(λp hp=>by cases hp),by simp⟩ rfl;refine Eq.trans (by exact this) ?_;rw[<-List.range_eq_range'];unfold g gZ dK;split<;>rfl⟩
end bA
namespace cD
def g(m:Int×Int×List Int):List (List Int):=if(ba m&&!decide (bj m=[]))=true then ek m else[]
def Z1{J:Type}(N:Nat)(a:MT)(kn:I2 (LI->Option J)):Option J :=
 kn a.1 a.2.1 a.2.2
def Z3{J:Type}(N:Nat)(a b:Int)(c:LI)(kn:I2 (LI->Option J))(kr:LL->Option J):Option J :=
 cond (!(lk N ((fP.g (a,(b,c))))))
 (
  kr ([]:List (LI)))
 (
  kn a b c)
def Z5{J:Type}(N:Nat)(a b:Int)(c:LI)(kn:I2 (LI->Option J)):Option J :=
 kn a b c
def Z8{J:Type}(N:Nat)(a b:Int)(c:LI)(kn:I3 (LI->Option J)):Option J :=
 kn 0 a b c
def Z12{J:Type}(N:Nat)(a:LL)(b c d:Int)(e:LI)(kn:LL->I3 (LI->Option J))(k0:LL->Option J):Option J :=
 cond (lk N (decide (b<c)))
 (
  kn a b c d e)
 (
  k0 a)
def Z16{J:Type}(N:Nat)(a:LL)(b c d:Int)(e:LI)(kn:LL->I3 (LI->Option J)):Option J :=
 kn a b c d e
def Z19{J:Type}(N:Nat)(a:LL)(b c d:Int)(e:LI)(kn:LL->I4 (LI->Option J)):Option J :=
 kn a b 0 c d e
def Z22{J:Type}(N:Nat)(h:LL)(f:LI)(a b c d:Int)(e:LI)(kn:LL->LI->I4 (LI->Option J))(k2:LL->LI->I3 (LI->Option J)):Option J :=
 cond (lk N (decide (b<c)))
 (
  cond (lk N (cb.P (c,(d,e)) a b)) (
   cond (lk N (decide (a=b)))
   (
    cond (lk N (Nat.blt (f.length+([2]:List Int).length) 1099511627776)) (
     kn h (f++([2]:List Int)) a (ah (b+1)) c d e) none)
   (
    cond (lk N (Nat.blt (f.length+([(ah (0-(mx (cb.g (c,(d,e)) a b) (ah (0-(cb.g (c,(d,e)) a b))))))]:List Int).length) 1099511627776)) (
     kn h (f++([(ah (0-(mx (cb.g (c,(d,e)) a b) (ah (0-(cb.g (c,(d,e)) a b))))))]:List Int)) a (ah (b+1)) c d e) none)) none)
 (
  k2 h f a c d e)
def Z21L{J:Type}(N:Nat)(k2:LL->LI->I3 (LI->Option J)):Nat->LL->LI->Int->Int->Int->Int->LI->Option J
 |0,_,_,_,_,_,_,_=>none
 |M+1,a,b,c,d,e,f,g=>Z22 N a b c d e f g (λa b c d e f g=>Z21L N k2 M a b c d e f g) k2
def Z21 N a b c d e f k2:=(Z21L N k2 N a ([]:List Int) b c d e f:Option J)
def Z20 N a b c d e f kn:=(Z21 N a b c d e f kn:Option J)
def Z18 N a b c d e kn:=(Z19 N a b c d e (λa b f c d e=>Z20 N a b f c d e kn):Option J)
def Z23{J:Type}(N:Nat)(a:LL)(b:LI)(c d e:Int)(f:LI)(kn:LL->I3 (LI->Option J)):Option J :=
 cond (lk N (Nat.blt (a.length+([b]:List (LI)).length) 1099511627776)) (
  kn (a++([b]:List (LI))) c d e f) none
def Z17 N a b c d e kn:=(Z18 N a b c d e (λa f b c d e=>Z23 N a f b c d e kn):Option J)
def Z15 N a b c d e kn:=(Z16 N a b c d e (λa b c d e=>Z17 N a b c d e kn):Option J)
def Z14 N a b c d e kn:=(Z15 N a b c d e kn:Option J)
def Z24{J:Type}(N:Nat)(a:LL)(b c d:Int)(e:LI)(kn:LL->I3 (LI->Option J)):Option J :=
 kn a (ah (b+1)) c d e
def Z13 N a b c d e kn:=(Z14 N a b c d e (λa b c d e=>Z24 N a b c d e kn):Option J)
def Z11 N a b c d e kn k0:=(Z12 N a b c d e (λa b c d e=>Z13 N a b c d e kn) k0:Option J)
def Z10L{J:Type}(N:Nat)(k0:LL->Option J):Nat->LL->Int->Int->Int->LI->Option J
 |0,_,_,_,_,_=>none
 |M+1,a,b,c,d,e=>Z11 N a b c d e (λa b c d e=>Z10L N k0 M a b c d e) k0
def Z10 N a b c d k0:=(Z10L N k0 N ([]:List (LI)) a b c d:Option J)
def Z9 N a b c d kn:=(Z10 N a b c d kn:Option J)
def Z7 N a b c kn:=(Z8 N a b c (λd a b c=>Z9 N d a b c kn):Option J)
def Z25{J:Type}(N:Nat)(a:LL)(kr:LL->Option J):Option J :=
 kr a
def Z6 N a b c kr:=(Z7 N a b c (λd=>Z25 N d kr):Option J)
def Z4 N a b c kr:=(Z5 N a b c (λa b c=>Z6 N a b c kr):Option J)
def Z2 N a b c kr:=(Z3 N a b c (λa b c=>Z4 N a b c kr) kr:Option J)
def Z0 N a kr:=(Z1 N a (λb c d=>Z2 N b c d kr):Option J)
def Spec:Prop:=∀ (v0:MT),Ty.bd (.pair (.int .i64) (.pair (.int .i64) (.sl 0 (.int .i64)))) v0->∃N0,∀N,N0<=N->Z0 N v0 (λv2=>some ((),(v2,())))=some ((),((g v0),()))
def at_g{m:Int×Int×List Int}(hd:0<=m.1)(a b:Nat):cb.g (m.1,(m.2.1,m.2.2)) (a:Int) (b:Int)=ae m a b:=fF hd a b
def at_p{m:Int×Int×List Int}(hd:aY m=true){a b:Nat}(ha:a<m.1.toNat)(hb:b<m.1.toNat):cb.P (m.1,(m.2.1,m.2.2)) (a:Int) (b:Int)=true:=by obtain⟨n,r,hn,hr,hn1,hn5,hnr,hr8,hl⟩:=aQ hd;exact fG hd (by omega) hb
def inner{J:Type}{N:Nat}{m:Int×Int×List Int}(hs:ba m=true)(k2:List (List Int)->List Int->Int->Int->Int->List Int->Option J)(out:List (List Int)){i:Nat}(hi:i<m.1.toNat):∀(M j:Nat),j<=m.1.toNat->m.1.toNat-j<M ->
  Z21L N k2 M out ((gt m i).take j) (i:Int) (j:Int) m.1 m.2.1 m.2.2=k2 out (gt m i) (i:Int) m.1 m.2.1 m.2.2:=by
 have hd:=cn hs;obtain⟨n,r,hn,hr,hn1,hn5,hnr,hr8,hl⟩:=aQ hd;intro M;induction M with
 |zero=>intro j _ h;omega
 |succ M ih =>
  intro j hj hM;simp only[Z21L,Z22];have hrl:(gt m i).length=m.1.toNat:=by simp[gt]
  by_cases h:j<m.1.toNat
  ·have hlen:∀x:Int,Nat.blt (((gt m i).take j).length+([x]:List Int).length) 1099511627776=true:=λx=>by rw[Nat.blt_eq,List.length_take,hrl,List.length_singleton];omega
   have ht:(gt m i).take j++[lV m i j]=(gt m i).take (j+1):=E7 (lV m i) h;have:=ih (j+1) h (by omega);rw[<-ht]at this;have hb:=eZ hs i j;have hA:=at_g (m:=m) (by omega) i j;rw[ct (dt (by omega))];have ha:mx (ae m i j) (ah (0-ae m i j))=aI (ae m i j):=by rw[bh (by omega) (by omega),o5];unfold aI;omega
   have hab:=pm hb;have hw:ah (0-aI (ae m i j))=-(aI (ae m i j)):=by
    have:0<=aI (ae m i j):=by unfold aI;omega
    rw[bh (by omega) (by omega)];omega
   rw[ct (at_p hd hi h),hA,ha,hw];by_cases e:i=j;·rw[lV,if_pos e]at this;rw[ct (dt (by omega)),ct (hlen _),aN (by rw[aS];omega)];exact this
   ·rw[lV,if_neg e]at this;rw[cf (df (by omega)),ct (hlen _),aN (by rw[aS];omega)];exact this
  ·rw[cf (df (by omega)),List.take_of_length_le (by rw[hrl];omega)]
def loop{J:Type}{N:Nat}(hN:10<=N){m:Int×Int×List Int}(hs:ba m=true)(k0:List (List Int)->Option J):∀(M i:Nat),i<=m.1.toNat->m.1.toNat-i<M ->
  Z10L N k0 M ((ek m).take i) (i:Int) m.1 m.2.1 m.2.2=k0 (ek m):=by
 have hd:=cn hs;obtain⟨n,r,hn,hr,hn1,hn5,hnr,hr8,hl⟩:=aQ hd;have hcl:(ek m).length=m.1.toNat:=by simp[ek]
 intro M;induction M with
 |zero=>intro i _ h;omega
 |succ M ih =>
  intro i hi hM;simp only[Z10L,Z11,Z12];by_cases h:i<m.1.toNat;·have ht:(ek m).take i++[gt m i]=(ek m).take (i+1):=E7 (gt m) h;rw[ct (dt (by omega))];simp only[Z13,Z14,Z15,Z16,Z17,Z18,Z19,Z20,Z21];have hin:=inner (J:=J) (N:=N) hs (λout3 row5 i4 m1_0 m1_1 m1_2=>Z23 N out3 row5 i4 m1_0 m1_1 m1_2 (λout3 i4 m1_0 m1_1 m1_2=>Z24 N out3 i4 m1_0 m1_1 m1_2 (λout3 i4 m1_0 m1_1 m1_2=>Z10L N k0 M out3 i4 m1_0 m1_1 m1_2))) ((ek m).take i) h N 0 (by omega) (by omega);rw[List.take_zero,show((0:Nat):Int)=0 from rfl]at hin;rw[hin];simp only[Z23,Z24];rw[ct (by rw[Nat.blt_eq,List.length_take,hcl,List.length_singleton];omega),aN (by rw[aS];omega),ht];exact ih (i+1) h (by omega)
  ·rw[cf (df (by omega)),List.take_of_length_le (by rw[hcl];omega)]
def ok:Spec:=λm hb=>⟨10,λN hN=>by
 have e0:fP.g (m.1,(m.2.1,m.2.2))=(ba m&&!decide (bj m=[])):=rfl;simp only[Z0,Z1,Z2,Z3,e0,g,aL];cases h1:(ba m&&!decide (bj m=[]));·rfl
 have hs:ba m=true:=by simp only[Bool.and_eq_true]at h1;first | exact cV h1.1 | exact h1.1
 obtain⟨n,r,hn,hr,hn1,hn5,hnr,hr8,hl⟩:=aQ (cn hs);simp only[Z4,Z5,Z6,Z7,Z8,Z9,Z10];have:=loop (J:=Unit×List (List Int)×Unit) hN hs (λout3=>Z25 N out3 (λt2=>some ((),(t2,())))) N 0 (by omega) (by omega);exact this⟩
end cD
namespace bV
def P(m:Int×Int×List Int)(l:List Int):Bool:=(aT m&&!decide (bj m=[]))&&kc m l
def g(m:Int×Int×List Int)(l:List Int):ByteArray:=eH m (l.map Int.toNat)
def Z1{J:Type}(N:Nat)(a:MT)(b:LI)(kn:LI->I2 (LI->Option J)):Option J :=
 kn b a.1 a.2.1 a.2.2
def Z3{J:Type}(N:Nat)(d:LI)(a b:Int)(c:LI)(kn:LL->LI->I2 (LI->Option J)):Option J :=
 kn (cD.g (a,(b,c))) d a b c
def Z5{J:Type}(N:Nat)(a:LL)(b:LI)(c d:Int)(e:LI)(kn:LL->LI->ByteArray->I2 (LI->Option J)):Option J :=
 kn a b (⟨#[65]⟩:ByteArray) c d e
def Z8{J:Type}(N:Nat)(b:LL)(a:LI)(c:ByteArray)(d e:Int)(f:LI)(kn:LL->LI->ByteArray->LI->I4 (LI->Option J)):Option J :=
 kn b a c a (a.length:Int) 0 d e f
def Z11{J:Type}(N:Nat)(h:LL)(a:LI)(i:ByteArray)(c:LI)(j b d e:Int)(f:LI)(kn:LL->LI->ByteArray->LI->I4 (LI->Option J))(k0:LL->LI->ByteArray->I2 (LI->Option J))(kr:ByteArray->Option J):Option J :=
 cond (lk N (decide (b<j)))
 (
  cond (lk N (ax b c.length)) (
   cond (lk N (cB.P (d,(e,f)) (c.getD b.toNat 0))) (
    cond (lk N (decide (((cB.g (d,(e,f)) (c.getD b.toNat 0)).length:Int)=3)))
    (
     cond (lk N (er.P (a.length:Int))) (
      cond (Nat.blt ((⟨#[68]⟩:ByteArray).size+(er.g (a.length:Int)).size) 4611686018427387904) (
       kr ((⟨#[68]⟩:ByteArray)++(er.g (a.length:Int)))) none) none)
    (
     kn h a i c j (ah (b+1)) d e f)) none) none)
 (
  k0 h a i d e f)
def Z10L{J:Type}(N:Nat)(k0:LL->LI->ByteArray->I2 (LI->Option J))(kr:ByteArray->Option J):Nat->LL->LI->ByteArray->LI->Int->Int->Int->Int->LI->Option J
 |0,_,_,_,_,_,_,_,_,_=>none
 |M+1,a,b,c,d,e,f,g,h,i=>Z11 N a b c d e f g h i (λa b c d e f g h i=>Z10L N k0 kr M a b c d e f g h i) k0 kr
def Z10 N a b c d e f g h i k0 kr:=(Z10L N k0 kr N a b c d e f g h i:Option J)
def Z9 N a b c d e f g h i kn kr:=(Z10 N a b c d e f g h i kn kr:Option J)
def Z7 N a b c d e f kn kr:=(Z8 N a b c d e f (λa b c g h i d e f=>Z9 N a b c g h i d e f kn kr):Option J)
def Z14{J:Type}(N:Nat)(b:LL)(a:LI)(c:ByteArray)(d e:Int)(f:LI)(kn:LL->LI->ByteArray->LI->I4 (LI->Option J)):Option J :=
 kn b a c a (a.length:Int) 0 d e f
def Z18{J:Type}(N:Nat)(c:LL)(d:LI)(e:ByteArray)(f:LI)(a b g h:Int)(i:LI)(kn:LL->LI->ByteArray->LI->I2 (Bool->I2 (LI->Option J))):Option J :=
 kn c d e f a b (lk N (decide (b<a))) g h i
def Z20{J:Type}(N:Nat)(c:LL)(a:LI)(b:ByteArray)(d:LI)(e f:Int)(g:Bool)(h i:Int)(j:LI)(kn:LL->LI->ByteArray->LI->I4 (LI->Option J))(k2:LI->ByteArray->Option J):Option J :=
 cond (g)
 (
  kn c a b d e f h i j)
 (
  k2 a b)
def Z24{J:Type}(N:Nat)(c:LL)(d:LI)(e:ByteArray)(a:LI)(f b g h:Int)(i:LI)(kn:LL->LI->ByteArray->Int->LI->I4 (LI->Option J)):Option J :=
 cond (lk N (ax b a.length)) (
  kn c d e (a.getD b.toNat 0) a f b g h i) none
def Z26{J:Type}(N:Nat)(e:LL)(f:LI)(h:ByteArray)(a:Int)(i:LI)(j l b c:Int)(d:LI)(kn:LL->LI->LI->ByteArray->Int->LI->I6 (LI->Option J)):Option J :=
 cond (lk N (cB.P (b,(c,d)) a)) (
  kn e (cB.g (b,(c,d)) a) f h a i j l ((cB.g (b,(c,d)) a).length:Int) 0 b c d) none
def Z29{J:Type}(N:Nat)(d:LL)(c i:LI)(p:ByteArray)(a:Int)(j:LI)(l m o b e f:Int)(h:LI)(kn:LL->LI->LI->ByteArray->Int->LI->I6 (LI->Option J))(k4:LL->LI->ByteArray->LI->I4 (LI->Option J)):Option J :=
 let x1_:=(d.getD (c.getD b.toNat 0).toNat []);let x2_:=(ah (((d.getD a.toNat []).getD (c.getD b.toNat 0).toNat 0)*(x1_.getD a.toNat 0)));let x3_:=(
   kn d c i (⟨#[66]⟩:ByteArray) a j l m o (ah (b+1)) e f h)
 let x4_:=(
   kn d c i p a j l m o (ah (b+1)) e f h)
 let x5_:=((cB.g (e,(f,h)) a).length:Int);let x0_:=(
   cond (lk N (cB.P (e,(f,h)) a)) (
   cond (lk N (decide (x5_=1)))
   (
   cond (lk N (ax (c.getD b.toNat 0) d.length)) (
   cond (lk N (ax a x1_.length)) (
   cond (lk N (decide ((x1_.getD a.toNat 0)=(-2))))
   x3_
   (
   kn d c i (⟨#[67]⟩:ByteArray) a j l m o (ah (b+1)) e f h)) none) none)
   x4_) none)
 cond (lk N (decide (b<o)))
 (
 cond (lk N (ax b c.length)) (
 cond (lk N (ax a d.length)) (
 cond (lk N (ax (c.getD b.toNat 0) (d.getD a.toNat []).length)) (
 cond (lk N (ax (c.getD b.toNat 0) d.length)) (
 cond (lk N (ax a x1_.length)) (
 cond (lk N (decide (x2_=3)))
 (
 kn d c i (⟨#[71]⟩:ByteArray) a j l m o (ah (b+1)) e f h)
 (
 cond (lk N (decide (x2_=2)))
 (
 cond (lk N (decide ((i.length:Int)=2)))
 x3_
 (
 cond (lk N (cB.P (e,(f,h)) a)) (
 cond (lk N (decide (1<x5_)))
 (
 cond (lk N (cB.P (e,(f,h)) (c.getD b.toNat 0))) (
 cond (lk N (decide (1<((cB.g (e,(f,h)) (c.getD b.toNat 0)).length:Int))))
 (
 kn d c i (⟨#[70]⟩:ByteArray) a j l m o (ah (b+1)) e f h)
 x0_) none)
 x0_) none))
 x4_)) none) none) none) none) none)
 (
 k4 d i p j l m e f h)
def Z28L{J:Type}(N:Nat)(k4:LL->LI->ByteArray->LI->I4 (LI->Option J)):Nat->LL->LI->LI->ByteArray->Int->LI->Int->Int->Int->Int->Int->Int->LI->Option J
 |0,_,_,_,_,_,_,_,_,_,_,_,_,_=>none
 |M+1,a,b,c,d,e,f,g,h,i,j,l,m,o=>Z29 N a b c d e f g h i j l m o (λa b c d e f g h i j l m o=>Z28L N k4 M a b c d e f g h i j l m o) k4
def Z28 N a b c d e f g h i j l m o k4:=(Z28L N k4 N a b c d e f g h i j l m o:Option J)
def Z27 N a b c d e f g h i j l m o kn:=(Z28 N a b c d e f g h i j l m o kn:Option J)
def Z25 N a b c d e f g h i j kn:=(Z26 N a b c d e f g h i j (λa l b c d e f g m o h i j=>Z27 N a l b c d e f g m o h i j kn):Option J)
def Z23 N a b c d e f g h i kn:=(Z24 N a b c d e f g h i (λa b c j d e f g h i=>Z25 N a b c j d e f g h i kn):Option J)
def Z22 N a b c d e f g h i kn:=(Z23 N a b c d e f g h i kn:Option J)
def Z30{J:Type}(N:Nat)(a:LL)(b:LI)(c:ByteArray)(d:LI)(e f g h:Int)(i:LI)(kn:LL->LI->ByteArray->LI->I4 (LI->Option J)):Option J :=
 kn a b c d e (ah (f+1)) g h i
def Z21 N a b c d e f g h i kn:=(Z22 N a b c d e f g h i (λa b c d e f g h i=>Z30 N a b c d e f g h i kn):Option J)
def Z19 N a b c d e f j g h i kn k2:=(Z20 N a b c d e f j g h i (λa b c d e f g h i=>Z21 N a b c d e f g h i kn) k2:Option J)
def Z17 N a b c d e f g h i kn k2:=(Z18 N a b c d e f g h i (λa b c d e f j g h i=>Z19 N a b c d e f j g h i kn k2):Option J)
def Z16L{J:Type}(N:Nat)(k2:LI->ByteArray->Option J):Nat->LL->LI->ByteArray->LI->Int->Int->Int->Int->LI->Option J
 |0,_,_,_,_,_,_,_,_,_=>none
 |M+1,a,b,c,d,e,f,g,h,i=>Z17 N a b c d e f g h i (λa b c d e f g h i=>Z16L N k2 M a b c d e f g h i) k2
def Z16 N a b c d e f g h i k2:=(Z16L N k2 N a b c d e f g h i:Option J)
def Z15 N a b c d e f g h i kn:=(Z16 N a b c d e f g h i kn:Option J)
def Z13 N a b c d e f kn:=(Z14 N a b c d e f (λa b c g h i d e f=>Z15 N a b c g h i d e f kn):Option J)
def Z31{J:Type}(N:Nat)(a:LI)(b:ByteArray)(kr:ByteArray->Option J):Option J :=
 cond (lk N (er.P (a.length:Int))) (
  cond (Nat.blt (b.size+(er.g (a.length:Int)).size) 4611686018427387904) (
   kr (b++(er.g (a.length:Int)))) none) none
def Z12 N c a b d e f kr:=(Z13 N c a b d e f (λa b=>Z31 N a b kr):Option J)
def Z6 N a b c d e f kr:=(Z7 N a b c d e f (λa b c d e f=>Z12 N a b c d e f kr) kr:Option J)
def Z4 N a b c d e kr:=(Z5 N a b c d e (λa b f c d e=>Z6 N a b f c d e kr):Option J)
def Z2 N a b c d kr:=(Z3 N a b c d (λe a b c d=>Z4 N e a b c d kr):Option J)
def Z0 N b a kr:=(Z1 N b a (λa c d e=>Z2 N a c d e kr):Option J)
def Spec:Prop:=∀ (v0:MT) (v1:LI),Ty.bd (.pair (.int .i64) (.pair (.int .i64) (.sl 0 (.int .i64)))) v0->Ty.bd (.sl 0 (.int .i64)) v1->P v0 v1=true->∃N0,∀N,N0<=N->Z0 N v0 v1 (λv4=>some ((),(v4,())))=some ((),((g v0 v1),()))
def Gd{m:Int×Int×List Int}{i j:Nat}(hi:i<m.1.toNat)(hj:j<m.1.toNat):ax (i:Int) (ek m).length=true/\(ek m).getD i []=gt m i/\ax (j:Int) (gt m i).length=true/\(gt m i).getD j 0=lV m i j:=by
 have e1:(ek m).length=m.1.toNat:=by simp[ek]
 have e2:(gt m i).length=m.1.toNat:=by simp[gt]
 refine⟨aG (by rw[e1];exact hi), ?_,aG (by rw[e2];exact hj), ?_⟩;·unfold ek;exact rP (by simpa using hi) []
 ·unfold gt;exact rP (by simpa using hj) 0
section
variable {J : Type} {N : Nat} {m : Int × Int × List Int} {L : List Nat} (hs : aT m = true) (hL : ∀ x ∈ L, x < m.1.toNat) (h5 : L.length ≤ 5)
include hs hL h5
theorem pj{x:Nat}(hx:x<m.1.toNat):cB.P (m.1,(m.2.1,m.2.2)) (x:Int)=true:=by show(aY m&&_)=true;rw[cn (cV hs),dt (show(0:Int)<=(x:Int) by omega),dt (show(x:Int)<m.1 by omega)];rfl
theorem Qv(k0:List (List Int)->List Int->ByteArray->Int->Int->List Int->Option J)(kr:ByteArray->Option J)(a:List (List Int))(c:UInt8):∀(M i:Nat),i<=L.length->L.length-i<M ->
  Z10L N k0 kr M a (ak L) (bN c) (ak L) ((ak L).length:Int) (i:Int) m.1 m.2.1 m.2.2=if((L.drop i).any λi=>decide (dg m i=3))=true then kr (bN 68++bW (L.length:Int))else k0 a (ak L) (bN c) m.1 m.2.1 m.2.2:=by
 have hp1:dI ((ak L).length:Int)=true:=by rw[aU];unfold dI;rw[dt (by omega),dt (by omega)];rfl
 have hz:=uY hp1;have hlt:Nat.blt ((bN 68).size+(bW ((ak L).length:Int)).size) 4611686018427387904=true:=Nat.ble_eq_true_of_le (by have:(bN 68).size=1:=rfl;omega);intro M;induction M with
 |zero=>intro i _ h;omega
 |succ M ih =>
  intro i hi hM;simp only[Z10L,Z11];by_cases hil:i<L.length
  ·have a1:=hL _ (aX (l:=L) (j:=i) 0 hil);have gj:((cB.g (m.1,(m.2.1,m.2.2)) ((L.getD i 0:Nat):Int)).length:Int)=((dg m (L.getD i 0):Nat):Int):=by show((ak (a6 m _)).length:Int)=_;rw[aU];rfl
   rw[ct (dt (by rw[aU];omega)),ct (aG (by rw[aU];exact hil)),Int.toNat_natCast,d6,ct (pj hs hL h5 a1),gj,cK 0 hil,List.any_cons];by_cases h3:dg m (L.getD i 0)=3;·rw[ct (dt (by omega)),ct (show er.P _=true from hp1),decide_eq_true h3,Bool.true_or,if_pos rfl];show cond (Nat.blt ((bN 68).size+(bW ((ak L).length:Int)).size) 4611686018427387904) (kr (bN 68++bW ((ak L).length:Int))) none=_;rw[hlt,aU];rfl
   ·rw[cf (df (by omega)),decide_eq_false h3,Bool.false_or,aN (by rw[aS];omega)];exact ih (i+1) (by omega) (by omega)
  ·rw[cf (df (by rw[aU];omega)),List.drop_of_length_le (by omega),List.any_nil,if_neg (by decide)]
theorem inner(k4:List (List Int)->List Int->ByteArray->List Int->Int->Int->Int->Int->List Int->Option J)(t31:List Int)(t32 t33:Int){x:Nat}(hx:x<m.1.toNat):∀(M j:Nat) (c:UInt8),j<=(a6 m x).length->(a6 m x).length-j<M ->
  Z28L N k4 M (ek m) (ak (a6 m x)) (ak L) (bN c) (x:Int) t31 t32 t33 ((ak (a6 m x)).length:Int) (j:Int) m.1 m.2.1 m.2.2 =
   k4 (ek m) (ak L) (bN (((a6 m x).drop j).foldl (λc j=>c9 m L.length c x j) c)) t31 t32 t33 m.1 m.2.1 m.2.2:=by
 have hn:=sc m x;obtain⟨n,rr,hn0,hr',hn1,hn5,hnr,hr8,hl⟩:=aQ (cn (cV hs));intro M;induction M with
 |zero=>intro j c _ h;omega
 |succ M ih =>
  intro j c hj hM;simp only[Z28L,Z29];by_cases hjl:j<(a6 m x).length
  ·obtain⟨hy,hne⟩:=nK.1 (aX (l:=a6 m x) (j:=j) 0 hjl);obtain⟨c1,c2,c3,c4⟩:=Gd hx hy;obtain⟨d1,d2,d3,d4⟩:=Gd hy hx;have hxy:x≠(a6 m x).getD j 0:=by intro e;have:=E9 hs hx hx;rw[<-e]at hne;simp only[dz,Bool.and_eq_true,beq_iff_eq,decide_eq_decide]at this;omega
   have e1:lV m x ((a6 m x).getD j 0)=-(aI (ae m x ((a6 m x).getD j 0))):=if_neg hxy;have e2:lV m ((a6 m x).getD j 0) x=-(aI (ae m ((a6 m x).getD j 0) x)):=if_neg (Ne.symm hxy);obtain⟨w1,w2,w3⟩:=zP hs hx hy;have b1:=eZ (cV hs) x ((a6 m x).getD j 0);have b2:=eZ (cV hs) ((a6 m x).getD j 0) x;have hb:-9801<=cz m x ((a6 m x).getD j 0)/\cz m x ((a6 m x).getD j 0)<=9801:=by
    unfold cz;have:(ae m x ((a6 m x).getD j 0)*ae m ((a6 m x).getD j 0) x).natAbs<=99*99:=by rw[Int.natAbs_mul];exact Nat.mul_le_mul (by omega) (by omega)
    omega
   have hw:ah (wt (ae m) x ((a6 m x).getD j 0))=wt (ae m) x ((a6 m x).getD j 0):=bh (by omega) (by omega);have gj:∀z:Nat,((cB.g (m.1,(m.2.1,m.2.2)) (z:Int)).length:Int)=((dg m z:Nat):Int):=λz=>by show((ak (a6 m _)).length:Int)=_;rw[aU];rfl
   have next:∀c':UInt8,Z28L N k4 M (ek m) (ak (a6 m x)) (ak L) (bN c') (x:Int) t31 t32 t33 ((ak (a6 m x)).length:Int) ((j+1:Nat):Int) m.1 m.2.1 m.2.2=_:=λc'=>ih (j+1) c' (by omega) (by omega)
   rw[cK 0 hjl,List.foldl_cons];simp only[Int.toNat_natCast,d6,aN (j:=j) (by rw[aS];omega),c2,c4,d2,d4,e1,e2,<-w2,hw,gj];rw[ct (dt (by rw[aU];omega)),ct (aG (by rw[aU];exact hjl)),ct c1,ct c3,ct d1,ct d3];have px:=pj hs hL h5 hx;have py:=pj hs hL h5 hy;by_cases h3:wt (ae m) x ((a6 m x).getD j 0)=3;·have e:c9 m L.length c x ((a6 m x).getD j 0)=71:=if_pos h3;rw[ct (dt h3),e];exact next 71
   ·rw[cf (df h3)];by_cases h2:wt (ae m) x ((a6 m x).getD j 0)=2
    ·rw[ct (dt h2)];have e:c9 m L.length c x ((a6 m x).getD j 0)=_:=(if_neg h3).trans (if_pos h2);rw[e];by_cases hl2:L.length=2;·rw[ct (dt (by rw[aU];omega)),if_pos hl2];exact next 66
     ·rw[cf (df (by rw[aU];omega)),if_neg hl2,ct px];have leaf:∀(h1:dg m x=1),cond (lk N (decide (-(aI (ae m ((a6 m x).getD j 0) x))=-2)))
        (Z28L N k4 M (ek m) (ak (a6 m x)) (ak L) (bN 66) (x:Int) t31 t32 t33 ((ak (a6 m x)).length:Int) ((j+1:Nat):Int) m.1 m.2.1 m.2.2)
        (Z28L N k4 M (ek m) (ak (a6 m x)) (ak L) (bN 67) (x:Int) t31 t32 t33 ((ak (a6 m x)).length:Int) ((j+1:Nat):Int) m.1 m.2.1 m.2.2) =
       k4 (ek m) (ak L) (bN (((a6 m x).drop (j+1)).foldl (λc j=>c9 m L.length c x j) (if aI (ae m ((a6 m x).getD j 0) x)=2 then 66 else 67))) t31 t32 t33 m.1 m.2.1 m.2.2:=by
       intro h1;by_cases h4:aI (ae m ((a6 m x).getD j 0) x)=2;·rw[ct (dt (by omega)),if_pos h4];exact next 66
       ·rw[cf (df (by omega)),if_neg h4];exact next 67
      by_cases h6:1<dg m x
      ·rw[ct (dt (by omega)),ct py];by_cases h7:1<dg m ((a6 m x).getD j 0);·rw[ct (dt (by omega)),if_pos ⟨h6,h7⟩];exact next 70
       ·rw[cf (df (by omega)),ct px,cf (df (by omega)),if_neg (λh=>h7 h.2),if_neg (by omega)];exact next c
      ·rw[cf (df (by omega)),ct px,if_neg (λh=>h6 h.1)];by_cases h1:dg m x=1;·rw[ct (dt (by omega)),ct d1,ct d3,if_pos h1];exact leaf h1
       ·rw[cf (df (by omega)),if_neg h1];exact next c
    ·rw[cf (df h2)];have e:c9 m L.length c x ((a6 m x).getD j 0)=c:=(if_neg h3).trans (if_neg h2);rw[e];exact next c
  ·rw[cf (df (by rw[aU];omega)),List.drop_of_length_le (by omega)];rfl
theorem outer(hN:10<=N)(k2:List Int->ByteArray->Option J):∀(M i:Nat) (c:UInt8),i<=L.length->L.length-i<M ->
  Z16L N k2 M (ek m) (ak L) (bN c) (ak L) ((ak L).length:Int) (i:Int) m.1 m.2.1 m.2.2=k2 (ak L) (bN ((L.drop i).foldl (λc i=>lX m L.length c i) c)):=by
 obtain⟨n,rr,hn0,hr',hn1,hn5,hnr,hr8,hl⟩:=aQ (cn (cV hs));intro M;induction M with
 |zero=>intro i c _ h;omega
 |succ M ih =>
  intro i c hi hM;simp only[Z16L,Z17,Z18,Z19,Z20];by_cases hil:i<L.length;·rw[dZ (by rw[aL];exact dt (by rw[aU];omega))];simp only[Z21,Z22,Z23,Z24,Z25,Z26,Z27,Z28,Z30];have a1:=hL _ (aX (l:=L) (j:=i) 0 hil);have hnb:=sc m (L.getD i 0);rw[ct (aG (by rw[aU];exact hil)),Int.toNat_natCast,d6,ct (pj hs hL h5 a1)];refine(inner hs hL h5 _ _ _ _ a1 N 0 c (by omega) (by omega)).trans ?_;rw[aN (by rw[aS];omega),cK 0 hil,List.foldl_cons];exact ih (i+1) _ (by omega) (by omega)
  ·rw[eY (by rw[aL];exact df (by rw[aU];omega)),List.drop_of_length_le (by omega)];rfl
end
def ok:Spec:=λm l hb hl hp=>⟨10,λN hN=>by
 simp only[P,Bool.and_eq_true]at hp;obtain⟨⟨hs,hf⟩,hp⟩:=hp;obtain⟨L,rfl,hL,h5⟩:=zL hp;have hcar:cD.g (m.1,(m.2.1,m.2.2))=ek m:=by show(if(ba m&&!decide (bj m=[]))=true then ek m else[])=_;rw[if_pos (by rw[cV hs,hf];rfl)]
 have hp1:dI ((ak L).length:Int)=true:=by rw[aU];unfold dI;rw[dt (by omega),dt (by omega)];rfl
 have hz:=uY hp1;have hlt:∀c:UInt8,Nat.blt ((bN c).size+(bW ((ak L).length:Int)).size) 4611686018427387904=true:=λc=>Nat.ble_eq_true_of_le (by have:(bN c).size=1:=rfl;omega);simp only[Z1,Z3,Z5,Z8,Z11,Z10,Z9,Z7,Z14,Z18,Z20,Z24,Z26,Z29,Z28,Z27,Z25,Z23,Z22,Z30,Z21,Z19,Z17,Z16,Z15,Z13,Z31,Z12,Z6,Z4,Z2,Z0];rw[hcar];refine(Qv hs hL h5 _ _ _ 65 N 0 (by omega) (by omega)).trans ?_;have ew:g m (ak L)=bN (sd m L)++bW (L.length:Int):=by unfold g eH;rw[fc]
 rw[ew,List.drop_zero];unfold sd;by_cases h1:(L.any λi=>decide (dg m i=3))=true;·rw[if_pos h1,if_pos h1]
 ·rw[if_neg h1,if_neg h1];refine(outer hs hL h5 hN _ N 0 65 (by omega) (by omega)).trans ?_;rw[ct (show er.P _=true from hp1),List.drop_zero];refine(dZ (hlt _)).trans ?_;show some ((),(bN _++bW ((ak L).length:Int),()))=_;rw[aU]⟩
end bV
namespace kA
abbrev g(l:List ByteArray):List ByteArray:=dy l
abbrev P(l:List ByteArray):Bool:=Nat.blt 0 l.length&&Nat.blt l.length 4611686018427387904
def ok:True:=trivial
end kA
namespace bX
def g(m:Int×Int×List Int):ByteArray:=if(c8 m).2=true then nN eH (c8 m).1 else ByteArray.empty
def Z1{J:Type}(N:Nat)(a:MT)(kn:I2 (LI->Option J)):Option J :=
 kn a.1 a.2.1 a.2.2
def Z3{J:Type}(N:Nat)(a b:Int)(c:LI)(kn:LM->Bool->Option J):Option J :=
 kn (bS.g (a,(b,c))).1 (lk N ((bS.g (a,(b,c))).2))
def Z5{J:Type}(N:Nat)(a:LM)(b:Bool)(kn:LM->Option J)(kr:ByteArray->Option J):Option J :=
 cond (!(b))
 (
  kr ByteArray.empty)
 (
  kn a)
def Z8{J:Type}(N:Nat)(a:LM)(kn:LM->I2 (Option J)):Option J :=
 kn a (a.length:Int) 0
def Z12{J:Type}(N:Nat)(c:LM)(a b:Int)(kn:LM->I2 (Bool->Option J)):Option J :=
 kn c a b (lk N (decide (b<a)))
def Z14{J:Type}(N:Nat)(a:LM)(b c:Int)(d:Bool)(kn:LM->I2 (Option J))(k0:Option J):Option J :=
 cond (d)
 (
  kn a b c)
 (
  k0)
def Z18{J:Type}(N:Nat)(a:LM)(c b:Int)(kn:LM->I4 (LI->Option J)):Option J :=
 cond (lk N (ax b a.length)) (
  kn a c b (a.getD b.toNat (0,(0,[]))).1 (a.getD b.toNat (0,(0,[]))).2.1 (a.getD b.toNat (0,(0,[]))).2.2) none
def Z20{J:Type}(N:Nat)(d:LM)(e f a b:Int)(c:LI)(kn:LL->LM->Bool->I4 (LI->Option J)):Option J :=
 cond (lk N (bA.P (a,(b,c)))) (
  kn (bA.g (a,(b,c))).1 d (lk N ((bA.g (a,(b,c))).2)) e f a b c) none
def Z22{J:Type}(N:Nat)(b:LL)(a:LM)(c:Bool)(d e f g:Int)(h:LI)(kn:LL->LM->I2 (LI->Option J))(k1:LM->I2 (Option J)):Option J :=
 cond (!(c))
 (
  k1 a d e)
 (
  kn b a f g h)
def Z24{J:Type}(N:Nat)(a:LL)(b:LM)(c d:Int)(e:LI)(kn:LL->LM->I2 (LI->Option J)):Option J :=
 kn a b c d e
def Z27{J:Type}(N:Nat)(a:LL)(b:LM)(c d:Int)(e:LI)(kn:LM->LL->I4 (LI->Option J)):Option J :=
 kn b a (a.length:Int) 0 c d e
def Z30{J:Type}(N:Nat)(f:List ByteArray)(i:LM)(b:LL)(h a c d:Int)(e:LI)(kn:List ByteArray->LM->LL->I4 (LI->Option J))(k2:List ByteArray->Option J):Option J :=
 cond (lk N (decide (a<h)))
 (
  cond (lk N (ax a b.length)) (
   cond (lk N (bV.P (c,(d,e)) (b.getD a.toNat []))) (
    cond (lk N (Nat.blt (f.length+([(bV.g (c,(d,e)) (b.getD a.toNat []))]:List ByteArray).length) 1099511627776)) (
     kn (f++([(bV.g (c,(d,e)) (b.getD a.toNat []))]:List ByteArray)) i b h (ah (a+1)) c d e) none) none) none)
 (
  k2 f)
def Z29L{J:Type}(N:Nat)(k2:List ByteArray->Option J):Nat->List ByteArray->LM->LL->Int->Int->Int->Int->LI->Option J
 |0,_,_,_,_,_,_,_,_=>none
 |M+1,a,b,c,d,e,f,g,h=>Z30 N a b c d e f g h (λa b c d e f g h=>Z29L N k2 M a b c d e f g h) k2
def Z29 N a b c d e f g k2:=(Z29L N k2 N ([]:List ByteArray) a b c d e f g:Option J)
def Z28 N a b c d e f g kn:=(Z29 N a b c d e f g kn:Option J)
def Z26 N e a b c d kn:=(Z27 N e a b c d (λa f g h b c d=>Z28 N a f g h b c d kn):Option J)
def Z31{J:Type}(N:Nat)(a:List ByteArray)(kr:ByteArray->Option J):Option J :=
 cond (lk N (kA.P a)) (
  cond (lk N (strings_Join.P (kA.g a) (⟨#[32]⟩:ByteArray))) (
   kr (strings_Join.g (kA.g a) (⟨#[32]⟩:ByteArray))) none) none
def Z25 N a b c d e kr:=(Z26 N a b c d e (λf=>Z31 N f kr):Option J)
def Z23 N a b c d e kr:=(Z24 N a b c d e (λa b c d e=>Z25 N a b c d e kr):Option J)
def Z21 N a b f g h c d e k1 kr:=(Z22 N a b f g h c d e (λa b c d e=>Z23 N a b c d e kr) k1:Option J)
def Z19 N a b c d e f k1 kr:=(Z20 N a b c d e f (λg a h b c d e f=>Z21 N g a h b c d e f k1 kr):Option J)
def Z17 N a b c k1 kr:=(Z18 N a b c (λa b c d e f=>Z19 N a b c d e f k1 kr):Option J)
def Z16 N a b c kn kr:=(Z17 N a b c kn kr:Option J)
def Z32{J:Type}(N:Nat)(a:LM)(b c:Int)(kn:LM->I2 (Option J)):Option J :=
 kn a b (ah (c+1))
def Z15 N a b c kn kr:=(Z16 N a b c (λa b c=>Z32 N a b c kn) kr:Option J)
def Z13 N a b c d kn k0 kr:=(Z14 N a b c d (λa b c=>Z15 N a b c kn kr) k0:Option J)
def Z11 N a b c kn k0 kr:=(Z12 N a b c (λa b c d=>Z13 N a b c d kn k0 kr):Option J)
def Z10L{J:Type}(N:Nat)(k0:Option J)(kr:ByteArray->Option J):Nat->LM->Int->Int->Option J
 |0,_,_,_=>none
 |M+1,a,b,c=>Z11 N a b c (λa b c=>Z10L N k0 kr M a b c) k0 kr
def Z10 N a b c k0 kr:=(Z10L N k0 kr N a b c:Option J)
def Z9 N a b c kn kr:=(Z10 N a b c kn kr:Option J)
def Z7 N a kn kr:=(Z8 N a (λb c d=>Z9 N b c d kn kr):Option J)
def Z33{J:Type}(N:Nat) (kr:ByteArray->Option J):Option J :=
 kr ByteArray.empty
def Z6 N a kr:=(Z7 N a (Z33 N kr) kr:Option J)
def Z4 N a b kr:=(Z5 N a b (λa=>Z6 N a kr) kr:Option J)
def Z2 N a b c kr:=(Z3 N a b c (λd e=>Z4 N d e kr):Option J)
def Z0 N a kr:=(Z1 N a (λb c d=>Z2 N b c d kr):Option J)
def Spec:Prop:=∀ (v0:MT),Ty.bd (.pair (.int .i64) (.pair (.int .i64) (.sl 0 (.int .i64)))) v0->∃N0,∀N,N0<=N->Z0 N v0 (λv2=>some ((),(v2,())))=some ((),((g v0),()))
section
variable {J : Type} {N : Nat}
def aC{x:Int×Int×List Int}{n:Int}(hx:bI n x)(k2:List ByteArray->Option J)(t19:List (Int×Int×List Int))(ps:List (List Nat))(hps:∀p∈ps,(∀y∈p,y<x.1.toNat)/\p.length<=5)(hl:ps.length<=5) :
  ∀(M j:Nat),j<=ps.length->ps.length-j<M->Z29L N k2 M ((ps.take j).map (eH x)) t19 (ps.map ak) ((ps.map ak).length:Int) (j:Int) x.1 x.2.1 x.2.2=k2 (ps.map (eH x)):=by
 intro M;induction M with
 |zero=>intro j _ h;omega
 |succ M ih =>
  intro j hj hM;simp only[Z29L,Z30];by_cases h:j<ps.length
  ·obtain⟨h1,h2⟩:=hps _ (aX (l:=ps) (j:=j) [] h);have e1:(ps.map ak).getD j []=ak (ps.getD j []):=by rw[List.getD_eq_getElem?_getD,List.getElem?_map,List.getD_eq_getElem?_getD,List.getElem?_eq_getElem h];rfl
   have p1:bV.P (x.1,(x.2.1,x.2.2)) (ak (ps.getD j []))=true:=by show((aT x&&!decide (bj x=[]))&&kc x _)=true;rw[hx.ok,zM h1 h2];rfl
   have g1:bV.g (x.1,(x.2.1,x.2.2)) (ak (ps.getD j []))=eH x (ps.getD j []):=by show eH x ((ak (ps.getD j [])).map Int.toNat)=_;rw[fc]
   have e2:(ps.take j).map (eH x)++[eH x (ps.getD j [])]=(ps.take (j+1)).map (eH x):=by rw[<-lP [] h,List.map_append];rfl
   have b1:Nat.blt (((ps.take j).map (eH x)).length+([eH x (ps.getD j [])]:List ByteArray).length) 1099511627776=true:=by simp[Nat.blt_eq];omega
   rw[ct (dt (by rw[List.length_map];omega)),ct (aG (by rw[List.length_map];exact h)),Int.toNat_natCast,e1,ct p1,g1,ct b1,e2,aN (by rw[aS];omega)];exact ih (j+1) (by omega) (by omega)
  ·rw[cf (df (by rw[List.length_map];omega)),List.take_of_length_le (by omega)]
def outer(hN:200<=N){n:Int}{l:List (Int×Int×List Int)}(hl:dq n l)(h100:l.length<=100)(k0:Option J)(kr:ByteArray->Option J):∀(M i:Nat),i<=l.length->l.length-i<M ->
  Z10L N k0 kr M l (l.length:Int) (i:Int)=match(l.drop i).find? gZ with
   |none=>k0
   |some x=>kr (fJ (dy ((dK x).map (eH x)))):=by
 intro M;induction M with
 |zero=>intro i _ h;omega
 |succ M ih =>
  intro i hi hM;simp only[Z10L,Z11,Z12,Z13,Z14];by_cases h:i<l.length
  ·have hx:bI n (l.getD i z3):=kS hl h;rw[dZ (by rw[aL];exact dt (by omega)),cK z3 h,List.find?_cons];simp only[Z15,Z16,Z17,Z18,Z19,Z20,Z21,Z22,Z32];rw[ct (aG h),Int.toNat_natCast];have pp:bA.P ((l.getD i z3).1,((l.getD i z3).2.1,(l.getD i z3).2.2))=true:=hx.sizes;have gp:bA.g ((l.getD i z3).1,((l.getD i z3).2.1,(l.getD i z3).2.2))=if gZ (l.getD i z3)=true then((dK (l.getD i z3)).map ak,true)else([],false):=rfl
   rw[ct pp,gp];cases ht:gZ (l.getD i z3);·rw[if_neg (by decide)];rw[dZ (by rw[aL];rfl),aN (by rw[aS];omega)];exact ih (i+1) (by omega) (by omega)
   ·rw[if_pos rfl,eY (by rw[aL];rfl)];simp only[Z23,Z24,Z25,Z26,Z27,Z28,Z29,Z31];have hC:=zR (l.getD i z3);have hb:=hx.bound;have h1:=hx.2.1;have hlen:=hC.len;refine(aC hx _ l (dK (l.getD i z3)) (λp hp=>⟨(pC hx hC hp).2.1,(pC hx hC hp).2.2.1⟩) (by omega) N 0 (by omega) (by omega)).trans ?_;have hpos:0<(dK (l.getD i z3)).length:=by
     obtain⟨t,ht'⟩:=zS (m:=l.getD i z3) (List.range' 1 ((l.getD i z3).1.toNat-1)) [(bf (l.getD i z3) 0).1];have e:dK (l.getD i z3)=[(bf (l.getD i z3) 0).1]++t:=by rw[<-ht'];unfold dK;obtain⟨c,hc⟩:∃c,(l.getD i z3).1.toNat=c+1:=⟨(l.getD i z3).1.toNat-1,by omega⟩;rw[hc,List.range_eq_range',List.range'_succ,fH,if_neg (by simp)];rfl
     rw[e];simp
    have p1:kA.P ((dK (l.getD i z3)).map (eH (l.getD i z3)))=true:=by show(Nat.blt 0 _&&Nat.blt _ 4611686018427387904)=true;rw[List.length_map];have a1:Nat.blt 0 (dK (l.getD i z3)).length=true:=Nat.ble_eq_true_of_le hpos;have a2:Nat.blt (dK (l.getD i z3)).length 4611686018427387904=true:=Nat.ble_eq_true_of_le (by omega);rw[a1,a2];rfl
    have hsz:∀b∈dy ((dK (l.getD i z3)).map (eH (l.getD i z3))),b.size<=22:=λb hb'=>by obtain⟨p,hp,rfl⟩:=List.mem_map.1 ((sh _).mem_iff.1 hb');exact Fp (pC hx hC hp).2.2.1
    have hsl:(dy ((dK (l.getD i z3)).map (eH (l.getD i z3)))).length<=5:=by rw[(sh _).length_eq,List.length_map];omega
    have p2:strings_Join.P (dy ((dK (l.getD i z3)).map (eH (l.getD i z3)))) (⟨#[32]⟩:ByteArray)=true:=by
     show(Nat.ble _ 140737488355328&&Nat.ble (Lib.join _ [32]).length 140737488355328)=true;have:=zT (B:=22) (sep:=[32]) (xs:=(dy ((dK (l.getD i z3)).map (eH (l.getD i z3)))).map (·.data.toList)) (λy hy=>by obtain⟨b,hb',rfl⟩:=List.mem_map.1 hy;have:=hsz b hb';rw[Array.length_toList];exact this)
     rw[List.length_map]at this;simp only[List.length_cons,List.length_nil]at this;rw[Bool.and_eq_true,Nat.ble_eq,Nat.ble_eq];omega
    rw[ct p1,ct p2];rfl
  ·rw[eY (by rw[aL];exact df (by omega)),List.drop_of_length_le (by omega)];rfl
end
def ok:Spec:=λm hb=>⟨200,λN hN=>by
 have gf:bS.g (m.1,(m.2.1,m.2.2))=c8 m:=rfl;simp only[Z0,Z1,Z2,Z3,Z4,Z5,Z6,Z7,Z8,Z9,Z10,Z33,gf,aL];unfold g;cases hf:(c8 m).2;·rfl
 ·obtain⟨h1,h2⟩:=Fo hf;refine(outer hN h1 h2 _ _ N 0 (by omega) (by omega)).trans ?_;rw[List.drop_zero,if_pos rfl];unfold nN;cases(c8 m).1.find? gZ<;>rfl⟩
end bX
namespace eU
def g(a b:List Int):Bool:=decide (a=b)
def Z1{J:Type}(N:Nat)(a b:LI)(kn:LI->LI->Option J):Option J :=
 kn a b
def Z3{J:Type}(N:Nat)(a b:LI)(kn:LI->LI->Option J)(kr:Bool->Option J):Option J :=
 cond (lk N (!(decide ((a.length:Int)=(b.length:Int)))))
 (
  kr false)
 (
  kn a b)
def Z6{J:Type}(N:Nat)(a b:LI)(kn:LI->LI->Int->Option J):Option J :=
 kn a b 0
def Z9{J:Type}(N:Nat)(b c:LI)(a:Int)(kn:LI->LI->Int->Option J)(k0:Option J)(kr:Bool->Option J):Option J :=
 cond (lk N (decide (a<(b.length:Int))))
 (
  cond (lk N (ax a b.length)) (
   cond (lk N (ax a c.length)) (
    cond (lk N (!(decide ((b.getD a.toNat 0)=(c.getD a.toNat 0)))))
    (
     kr false)
    (
     kn b c (ah (a+1)))) none) none)
 (
  k0)
def Z8L{J:Type}(N:Nat)(k0:Option J)(kr:Bool->Option J):Nat->LI->LI->Int->Option J
 |0,_,_,_=>none
 |M+1,a,b,c=>Z9 N a b c (λa b c=>Z8L N k0 kr M a b c) k0 kr
def Z8 N a b c k0 kr:=(Z8L N k0 kr N a b c:Option J)
def Z7 N a b c kn kr:=(Z8 N a b c kn kr:Option J)
def Z5 N a b kn kr:=(Z6 N a b (λa b c=>Z7 N a b c kn kr):Option J)
def Z10{J:Type}(N:Nat) (kr:Bool->Option J):Option J :=
 kr true
def Z4 N a b kr:=(Z5 N a b (Z10 N kr) kr:Option J)
def Z2 N a b kr:=(Z3 N a b (λa b=>Z4 N a b kr) kr:Option J)
def Z0 N a b kr:=(Z1 N a b (λa b=>Z2 N a b kr):Option J)
def Spec:Prop:=∀ (v0 v1:LI),Ty.bd (.sl 0 (.int .i64)) v0->Ty.bd (.sl 0 (.int .i64)) v1->∃N0,∀N,N0<=N->Z0 N v0 v1 (λv4=>some ((),(v4,())))=some ((),((g v0 v1),()))
def loop{J:Type}(N:Nat)(k0:Option J)(kr:Bool->Option J)(a b:List Int)(hl:a.length=b.length)(ha:a.length<=maxLen):∀(M j:Nat),j<=a.length->a.length-j<M ->
  Z8L N k0 kr M a b (j:Int)=if a.drop j=b.drop j then k0 else kr false:=by
 intro M;induction M with
 |zero=>intro j _ h;omega
 |succ M ih =>
  intro j hj hM;simp only[Z8L,Z9];by_cases h:j<a.length
  ·rw[ct (dt (by omega)),ct (aG h),ct (aG (by omega)),Int.toNat_natCast,aN (by omega),ih (j+1) h (by omega),cK 0 h,cK (l:=b) (j:=j) 0 (by omega)];by_cases e:a.getD j 0=b.getD j 0;·rw[cf (nf e),e];simp only[List.cons.injEq,true_and]
   ·rw[ct (nt e),if_neg (by simp only[List.cons.injEq];exact λh=>e h.1)]
  ·rw[cf (df (by omega)),if_pos (by rw[List.drop_of_length_le (by omega),List.drop_of_length_le (by omega)])]
def ok:Spec:=λa b ha hb=>⟨a.length+1,λN hN=>by
 simp only[Z1,Z3,Z6,Z9,Z8,Z7,Z5,Z10,Z4,Z2,Z0];by_cases hl:a.length=b.length;·rw[cf (nf (by omega))];rw[show(0:Int)=((0:Nat):Int)from rfl,loop _ _ _ a b hl ha.1 N 0 (by omega) (by omega)];by_cases e:a=b<;>simp[e,g]
 ·rw[ct (nt (by omega))];have:a≠b:=λe=>hl (by rw[e]);simp[g,this]⟩
end eU
namespace lu
def g(a b:Int×Int×List Int):Bool:=decide (a=b)
def Z0{J:Type}(N:Nat)(a b:MT)(kr:Bool->Option J):Option J :=
 cond (lk N (!(decide (a.1=b.1))))
 (
  kr false)
 (
  cond (lk N (!(decide (a.2.1=b.2.1))))
  (
   kr false)
  (
   cond (!(lk N ((eU.g a.2.2 b.2.2))))
   (
    kr false)
   (
    kr true)))
def Spec:Prop:=∀ (v0 v1:MT),Ty.bd (.pair (.int .i64) (.pair (.int .i64) (.sl 0 (.int .i64)))) v0->Ty.bd (.pair (.int .i64) (.pair (.int .i64) (.sl 0 (.int .i64)))) v1->∃N0,∀N,N0<=N->Z0 N v0 v1 (λv4=>some ((),(v4,())))=some ((),((g v0 v1),()))
def ok:Spec:=λa b ha hb=>⟨0,λN hN=>by obtain⟨a1,a2,a3⟩:=a;obtain⟨b1,b2,b3⟩:=b;simp only[Z0,aL,g,eU.g,Prod.mk.injEq];by_cases h1:a1=b1<;>by_cases h2:a2=b2<;>by_cases h3:a3=b3<;>simp[h1,h2,h3]⟩
end lu
namespace og
def g(_:Int×Int×List Int):Bool:=true
def Z0{J:Type}(N:Nat)(a:MT)(kr:Bool->Option J):Option J :=
 cond (lk N (decide ((jP.g a 1048576)<0)))
 (
  kr true)
 (
  cond (lk N (f5.P a)) (
   cond (lk N (f5.P a)) (
    cond (lk N (!(dE (bX.g (f5.g a)) (aZ.g (f5.g a)))))
    (
     kr false)
    (
     cond (lk N (f5.P a)) (
      cond (!(lk N ((lu.g (f5.g a) (f5.g a)))))
      (
       kr false)
      (
       kr true)) none)) none) none)
def Spec:Prop:=∀ (v0:MT),Ty.bd (.pair (.int .i64) (.pair (.int .i64) (.sl 0 (.int .i64)))) v0->∃N0,∀N,N0<=N->Z0 N v0 (λv2=>some ((),(v2,())))=some ((),((g v0),()))
def ok:Spec:=λm hb=>⟨0,λN hN=>by
 by_cases hl:jP.g m 1048576<0;·simp only[Z0];rw[ct (dt hl)];rfl
 have hP:=P2 m hb.2.2.1 hl;have e:bX.g m=aZ.g m:=by
  unfold bX.g aZ.g;by_cases h:(c8 m).2=true;·rw[if_pos h,if_pos h,Qe h]
  ·rw[if_neg h,if_neg h]
 have hs:dE (aZ.g m) (aZ.g m)=true:=by unfold dE;exact beq_self_eq_true _
 simp only[Z0,aL,f5.g,hP,e,hs,lu.g,df hl,dt (rfl:m=_)];rfl⟩
end og
end
end Go.Fw
