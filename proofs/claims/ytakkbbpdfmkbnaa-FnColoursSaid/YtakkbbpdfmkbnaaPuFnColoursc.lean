/- The plain part: what the functions compute, in lists and numbers. Nothing is assumed. -/
import Derived.Test.YtakkbbpdfmkbnaaFwd
import Derived.Test.YtakkbbpdfmkbnaaPuFnColoursb
import Derived.Test.YtakkbbpdfmkbnaaPuFnColoursa
noncomputable section
set_option linter.defProp false
set_option linter.defProp false
set_option linter.unusedSectionVars false
set_option linter.unusedVariables false
set_option linter.unusedSimpArgs false
set_option maxRecDepth 100000
namespace Go.Fw
section
variable {J : Type}
namespace bO
def g(m:Int×Int×List Int):(Int×Int×List Int)×Bool :=
 if((bi m&&!decide (be m=[]))&&(decide (m.2.1=m.1)&&decide (2*m.1<=8)))=true then(cS m,true)else((0,0,[]),false)
def Z1{J:Type}(N:Nat)(a:MT)(kn:I2 (LI->I2 (Option J))):Option J :=
 kn a.1 a.2.1 a.2.2 0 0
def Z3{J:Type}(N:Nat)(a b:Int)(c:LI)(d e:Int)(kn:I2 (LI->I2 (Option J)))(kr:LI->Bool->I2 (Option J)):Option J :=
 cond (!(lk N ((f8.g (a,(b,c))))))
 (
  kr ([]:List Int) false 0 0)
 (
  cond (lk N (!(decide (b=a))))
  (
   kr ([]:List Int) false 0 0)
  (
   cond (lk N (decide (8<(ab (2*a)))))
   (
    kr ([]:List Int) false 0 0)
   (
    kn a b c d e)))
def Z5{J:Type}(N:Nat)(a c:Int)(b:LI)(d e:Int)(kn:LI->I2 (LI->I4 (Option J))):Option J :=
 bg (
  cond (lk N (cZ.P b)) (
   bo (
    kn (cZ.g b) a c b d e a (ab (2*a)))) none)
 (
  cond (lk N (cZ.P b)) (
   kn (cZ.g b) a c b d e a (ab (2*a))) none)
def Z8{J:Type}(N:Nat)(a:LI)(b c:Int)(d:LI)(e f g h:Int)(kn:LI->I3 (LI->I4 (Option J))):Option J :=
 kn a 0 b c d e f g h
def Z12{J:Type}(N:Nat)(a:LI)(b c h:Int)(i:LI)(d e f g:Int)(kn:LI->I3 (LI->I4 (Option J)))(k0:LI->I4 (Option J)):Option J :=
 cond (lk N (decide (b<c)))
 (
  kn a b c h i d e f g)
 (
  k0 a d e f g)
def Z16{J:Type}(N:Nat)(a:LI)(b c d:Int)(e:LI)(f g h i:Int)(kn:LI->I4 (LI->I4 (Option J))):Option J :=
 kn a b 0 c d e f g h i
def Z19{J:Type}(N:Nat)(a:LI)(b c d e:Int)(f:LI)(g h i j:Int)(kn:LI->I4 (LI->I4 (Option J)))(k2:LI->I3 (LI->I4 (Option J))):Option J :=
 cond (lk N (decide (c<d)))
 (
  cond (lk N (decide (b=c)))
  (
   cond (lk N (Nat.blt (a.length+([1]:List Int).length) 1099511627776)) (
    kn (a++([1]:List Int)) b (ab (c+1)) d e f g h i j) none)
  (
   cond (lk N (Nat.blt (a.length+([0]:List Int).length) 1099511627776)) (
    kn (a++([0]:List Int)) b (ab (c+1)) d e f g h i j) none))
 (
  k2 a b d e f g h i j)
def Z18L{J:Type}(N:Nat)(k2:LI->I3 (LI->I4 (Option J))):Nat->LI->Int->Int->Int->Int->LI->Int->Int->Int->Int->Option J
 |0,_,_,_,_,_,_,_,_,_,_=>none
 |M+1,a,b,c,d,e,f,g,h,i,j=>Z19 N a b c d e f g h i j (λa b c d e f g h i j=>Z18L N k2 M a b c d e f g h i j) k2
def Z18 N a b c d e f g h i j k2:=(Z18L N k2 N a b c d e f g h i j:Option J)
def Z17 N a b c d e f g h i j kn:=(Z18 N a b c d e f g h i j kn:Option J)
def Z15 N a b c d e f g h i kn:=(Z16 N a b c d e f g h i (λa b j c d e f g h i=>Z17 N a b j c d e f g h i kn):Option J)
def Z14 N a b c d e f g h i kn:=(Z15 N a b c d e f g h i kn:Option J)
def Z20{J:Type}(N:Nat)(a:LI)(b c d:Int)(e:LI)(f g h i:Int)(kn:LI->I3 (LI->I4 (Option J))):Option J :=
 kn a (ab (b+1)) c d e f g h i
def Z13 N a b c d e f g h i kn:=(Z14 N a b c d e f g h i (λa b c d e f g h i=>Z20 N a b c d e f g h i kn):Option J)
def Z11 N a b c d e f g h i kn k0:=(Z12 N a b c d e f g h i (λa b c d e f g h i=>Z13 N a b c d e f g h i kn) k0:Option J)
def Z10L{J:Type}(N:Nat)(k0:LI->I4 (Option J)):Nat->LI->Int->Int->Int->LI->Int->Int->Int->Int->Option J
 |0,_,_,_,_,_,_,_,_,_=>none
 |M+1,a,b,c,d,e,f,g,h,i=>Z11 N a b c d e f g h i (λa b c d e f g h i=>Z10L N k0 M a b c d e f g h i) k0
def Z10 N a b c d e f g h i k0:=(Z10L N k0 N a b c d e f g h i:Option J)
def Z9 N a b c d e f g h i kn:=(Z10 N a b c d e f g h i kn:Option J)
def Z7 N a b c d e f g h kn:=(Z8 N a b c d e f g h (λa i b c d e f g h=>Z9 N a i b c d e f g h kn):Option J)
def Z21{J:Type}(N:Nat)(a:LI)(d e b c:Int)(kr:LI->Bool->I2 (Option J)):Option J :=
 kr a true b c
def Z6 N a f g h b c d e kr:=(Z7 N a f g h b c d e (λa b c d e=>Z21 N a b c d e kr):Option J)
def Z4 N a b c d e kr:=(Z5 N a b c d e (λf a b c d e g h=>Z6 N f a b c d e g h kr):Option J)
def Z2 N a b c d e kr:=(Z3 N a b c d e (λa b c d e=>Z4 N a b c d e kr) kr:Option J)
def Z0 N a kr:=(Z1 N a (λb c d e f=>Z2 N b c d e f kr):Option J)
def Spec:Prop:=∀ (v0:MT),Ty.bd (.pair (.int .i64) (.pair (.int .i64) (.sl 0 (.int .i64)))) v0->∃N0,∀N,N0<=N->Z0 N v0 (λv2_2 v3 v2_0 v2_1=>some ((),((v2_0,(v2_1,v2_2)),(v3,()))))=some ((),((g v0).1,((g v0).2,())))
def inner{J:Type}{N:Nat}{m:Int×Int×List Int}(hd:az m=true)(k2:List Int->Int->Int->Int->List Int->Int->Int->Int->Int->Option J)(t0 t1 o0 o1:Int)(base:List Int)(hb:base.length<=65){i:Nat}(hi:i<m.1.toNat):∀(M j:Nat),j<=m.1.toNat->m.1.toNat-j<M ->
  Z18L N k2 M (base++(fq m.1.toNat i).take j) (i:Int) (j:Int) m.1 m.2.1 m.2.2 t0 t1 o0 o1=k2 (base++fq m.1.toNat i) (i:Int) m.1 m.2.1 m.2.2 t0 t1 o0 o1:=by
 obtain⟨n,r,hn,hr,hn1,hn5,hnr,hr8,hl⟩:=aN hd;intro M;induction M with
 |zero=>intro j _ h;omega
 |succ M ih =>
  intro j hj hM;simp only[Z18L,Z19];by_cases h:j<m.1.toNat
  ·have hlen:∀x:Int,Nat.blt ((base++(fq m.1.toNat i).take j).length+([x]).length) 1099511627776=true:=λx=>by rw[Nat.blt_eq,List.length_append,List.length_take,oa,List.length_singleton];omega
   have ht:=ta (l:=fq m.1.toNat i) (j:=j) (0:Int) (by rw[oa];exact h);rw[xM h]at ht;have:=ih (j+1) h (by omega);rw[<-ht,<-List.append_assoc]at this;rw[ct (dt (by omega))];by_cases e:i=j;·rw[if_pos e]at this;rw[ct (dt (by omega)),ct (hlen _),bA (by rw[bD];omega)];exact this
   ·rw[if_neg e]at this;rw[cf (df (by omega)),ct (hlen _),bA (by rw[bD];omega)];exact this
  ·rw[cf (df (by omega)),List.take_of_length_le (by rw[oa];omega)]
def loop{J:Type}{N:Nat}(hN:10<=N){m:Int×Int×List Int}(hd:az m=true)(k0:List Int->Int->Int->Int->Int->Option J)(t0 t1 o0 o1:Int):∀(M i:Nat),i<=m.1.toNat->m.1.toNat-i<M ->
  Z10L N k0 M (m.2.2++eY m.1.toNat i) (i:Int) m.1 m.2.1 m.2.2 t0 t1 o0 o1=k0 (m.2.2++eY m.1.toNat m.1.toNat) t0 t1 o0 o1:=by
 obtain⟨n,r,hn,hr,hn1,hn5,hnr,hr8,hl⟩:=aN hd;intro M;induction M with
 |zero=>intro i _ h;omega
 |succ M ih =>
  intro i hi hM;simp only[Z10L,Z11,Z12];by_cases h:i<m.1.toNat;·rw[ct (dt (by omega))];simp only[Z13,Z14,Z15,Z16,Z17,Z18];have hin:=inner (J:=J) (N:=N) hd (λout4_2 i5 m1_0 m1_1 m1_2 t2_0 t2_1 out4_0 out4_1=>Z20 N out4_2 i5 m1_0 m1_1 m1_2 t2_0 t2_1 out4_0 out4_1 (λout4_2 i5 m1_0 m1_1 m1_2 t2_0 t2_1 out4_0 out4_1=>Z10L N k0 M out4_2 i5 m1_0 m1_1 m1_2 t2_0 t2_1 out4_0 out4_1)) t0 t1 o0 o1 (m.2.2++eY m.1.toNat i) (KD hd i (by omega)) h N 0 (by omega) (by omega);rw[List.take_zero,List.append_nil,show((0:Nat):Int)=0 from rfl]at hin;rw[hin];simp only[Z20];rw[bA (by rw[bD];omega),List.append_assoc];exact ih (i+1) h (by omega)
  ·rw[cf (df (by omega)),show i=m.1.toNat by omega]
def ok:Spec:=λm hb=>⟨10,λN hN=>by
 have e0:f8.g (m.1,(m.2.1,m.2.2))=(bi m&&!decide (be m=[])):=rfl;simp only[Z0,Z1,Z2,Z3,e0,g,aC];cases h1:(bi m&&!decide (be m=[]));·rfl
 have hs:bi m=true:=by simp only[Bool.and_eq_true]at h1;exact h1.1
 have hd:=cD hs;obtain⟨n,r,hn,hr,hn1,hn5,hnr,hr8,hl⟩:=aN hd;have hlen:=Cz hd;rw[aL (by omega) (by omega)];by_cases h2:m.2.1=m.1
 ·rw[dt h2];by_cases h3:2*m.1<=8;·rw[dt h3,df (show ¬ 8<2*m.1 by omega)];simp only[Z4,Z5];rw[ct (show cZ.P m.2.2=true from dt (by omega)),ct (show cZ.P m.2.2=true from dt (by omega))];simp only[bo,fD];simp only[Z6,Z7,Z8,Z9,Z10];have:=loop (J:=Unit×(Int×Int×List Int)×Bool×Unit) hN hd (λout4_2 t2_0 t2_1 out4_0 out4_1=>Z21 N out4_2 t2_0 t2_1 out4_0 out4_1 (λt2_2 t3 t2_0 t2_1=>some ((),((t2_0,(t2_1,t2_2)),(t3,()))))) 0 0 m.1 (ab (2*m.1)) N 0 (by omega) (by omega);rw[eY,List.append_nil]at this;refine this.trans ?_;simp only[Z21];rw[aL (by omega) (by omega)];rfl
  ·rw[df h3,dt (show 8<2*m.1 by omega)];rfl
 ·rw[df h2];rfl⟩
end bO
namespace bJ
def P(m:Int×Int×List Int)(k:Int):Bool:=bi m&&(decide (0<=k)&&decide (k<m.1))
def g(m:Int×Int×List Int)(k:Int):Int×Int×List Int:=aI m k.toNat
def Z1{J:Type}(N:Nat)(a:MT)(b:Int)(kn:I3 (LI->I2 (Option J))):Option J :=
 kn b a.1 a.2.1 a.2.2 0 0
def Z3{J:Type}(N:Nat)(d b c:Int)(a:LI)(e f:Int)(kn:LI->I3 (LI->I4 (Option J))):Option J :=
 bg (
  cond (lk N (cZ.P a)) (
   bo (
    kn (cZ.g a) d b c a e f b c)) none)
 (
  cond (lk N (cZ.P a)) (
   kn (cZ.g a) d b c a e f b c) none)
def Z6{J:Type}(N:Nat)(a:LI)(b c d:Int)(e:LI)(f g h i:Int)(kn:LI->I4 (LI->I4 (Option J))):Option J :=
 kn a b 0 c d e f g h i
def Z10{J:Type}(N:Nat)(a:LI)(h b i c:Int)(j:LI)(d e f g:Int)(kn:LI->I4 (LI->I4 (Option J)))(k0:LI->I4 (Option J)):Option J :=
 cond (lk N (decide (b<c)))
 (
  kn a h b i c j d e f g)
 (
  k0 a d e f g)
def Z14{J:Type}(N:Nat)(a:LI)(b c d e:Int)(f:LI)(g h i j:Int)(kn:LI->I5 (LI->I4 (Option J))):Option J :=
 kn a b c 0 d e f g h i j
def Z18{J:Type}(N:Nat)(b:LI)(c d e a f:Int)(g:LI)(h i j l:Int)(kn:LI->I5 (LI->I4 (Option J)))(k2:LI->I4 (LI->I4 (Option J))):Option J :=
 cond (lk N (decide (e<a)))
 (
  kn b c d e a f g h i j l)
 (
  k2 b c d a f g h i j l)
def Z22{J:Type}(N:Nat)(d:LI)(e a b c f:Int)(g:LI)(h i j l:Int)(kn:LI->I6 (LI->I4 (Option J))):Option J :=
 cond (lk N (av (ab ((ab (a*c))+b)) d.length)) (
  kn d e a b (ab ((ab (a*c))+b)) c f g h i j l) none
def Z24{J:Type}(N:Nat)(h:LI)(a e f i b c:Int)(d:LI)(j l m o:Int)(kn:LI->I8 (LI->I4 (Option J))):Option J :=
 cond (lk N (bz.P (b,(c,d)) e a)) (
  cond (lk N (bz.P (b,(c,d)) a f)) (
   kn h a e f i (bz.g (b,(c,d)) e a) (bz.g (b,(c,d)) a f) b c d j l m o) none) none
def Z27{J:Type}(N:Nat)(d:LI)(a b c e f g h i:Int)(j:LI)(l m o p:Int)(kn:LI->I6 (Bool->I2 (LI->I4 (Option J)))):Option J :=
 cond (lk N (decide (b=a)))
 (
  kn d a b c e f g true h i j l m o p)
 (
  kn d a b c e f g (lk N (decide (c=a))) h i j l m o p)
def Z28{J:Type}(N:Nat)(a:LI)(b c d e o p:Int)(q:Bool)(f g:Int)(h:LI)(i j l m:Int)(kn:LI->I5 (LI->I4 (Option J))):Option J :=
 cond (q)
 (
  kn (a.set e.toNat (ab (0-(a.getD e.toNat 0)))) b c d f g h i j l m)
 (
  cond (lk N (decide (0<o)))
  (
   cond (lk N (decide (0<p)))
   (
    kn (a.set e.toNat (ab ((a.getD e.toNat 0)+(ab (o*p))))) b c d f g h i j l m)
   (
    cond (lk N (decide (o<0)))
    (
     cond (lk N (decide (p<0)))
     (
      kn (a.set e.toNat (ab ((a.getD e.toNat 0)-(ab (o*p))))) b c d f g h i j l m)
     (
      kn a b c d f g h i j l m))
    (
     kn a b c d f g h i j l m)))
  (
   cond (lk N (decide (o<0)))
   (
    cond (lk N (decide (p<0)))
    (
     kn (a.set e.toNat (ab ((a.getD e.toNat 0)-(ab (o*p))))) b c d f g h i j l m)
    (
     kn a b c d f g h i j l m))
   (
    kn a b c d f g h i j l m)))
def Z26 N a b c d e f g h i j l m o p kn:=(Z27 N a b c d e f g h i j l m o p (λa b c d e f g q h i j l m o p=>Z28 N a b c d e f g q h i j l m o p kn):Option J)
def Z25 N a b c d e f g h i j l m o p kn:=(Z26 N a b c d e f g h i j l m o p kn:Option J)
def Z23 N a b c d e f g h i j l m kn:=(Z24 N a b c d e f g h i j l m (λa b c d e o p f g h i j l m=>Z25 N a b c d e o p f g h i j l m kn):Option J)
def Z21 N a b c d e f g h i j l kn:=(Z22 N a b c d e f g h i j l (λa b c d m e f g h i j l=>Z23 N a b c d m e f g h i j l kn):Option J)
def Z20 N a b c d e f g h i j l kn:=(Z21 N a b c d e f g h i j l kn:Option J)
def Z29{J:Type}(N:Nat)(a:LI)(b c d e f:Int)(g:LI)(h i j l:Int)(kn:LI->I5 (LI->I4 (Option J))):Option J :=
 kn a b c (ab (d+1)) e f g h i j l
def Z19 N a b c d e f g h i j l kn:=(Z20 N a b c d e f g h i j l (λa b c d e f g h i j l=>Z29 N a b c d e f g h i j l kn):Option J)
def Z17 N a b c d e f g h i j l kn k2:=(Z18 N a b c d e f g h i j l (λa b c d e f g h i j l=>Z19 N a b c d e f g h i j l kn) k2:Option J)
def Z16L{J:Type}(N:Nat)(k2:LI->I4 (LI->I4 (Option J))):Nat->LI->Int->Int->Int->Int->Int->LI->Int->Int->Int->Int->Option J
 |0,_,_,_,_,_,_,_,_,_,_,_=>none
 |M+1,a,b,c,d,e,f,g,h,i,j,l=>Z17 N a b c d e f g h i j l (λa b c d e f g h i j l=>Z16L N k2 M a b c d e f g h i j l) k2
def Z16 N a b c d e f g h i j l k2:=(Z16L N k2 N a b c d e f g h i j l:Option J)
def Z15 N a b c d e f g h i j l kn:=(Z16 N a b c d e f g h i j l kn:Option J)
def Z13 N a b c d e f g h i j kn:=(Z14 N a b c d e f g h i j (λa b c l d e f g h i j=>Z15 N a b c l d e f g h i j kn):Option J)
def Z12 N a b c d e f g h i j kn:=(Z13 N a b c d e f g h i j kn:Option J)
def Z30{J:Type}(N:Nat)(a:LI)(b c d e:Int)(f:LI)(g h i j:Int)(kn:LI->I4 (LI->I4 (Option J))):Option J :=
 kn a b (ab (c+1)) d e f g h i j
def Z11 N a b c d e f g h i j kn:=(Z12 N a b c d e f g h i j (λa b c d e f g h i j=>Z30 N a b c d e f g h i j kn):Option J)
def Z9 N a b c d e f g h i j kn k0:=(Z10 N a b c d e f g h i j (λa b c d e f g h i j=>Z11 N a b c d e f g h i j kn) k0:Option J)
def Z8L{J:Type}(N:Nat)(k0:LI->I4 (Option J)):Nat->LI->Int->Int->Int->Int->LI->Int->Int->Int->Int->Option J
 |0,_,_,_,_,_,_,_,_,_,_=>none
 |M+1,a,b,c,d,e,f,g,h,i,j=>Z9 N a b c d e f g h i j (λa b c d e f g h i j=>Z8L N k0 M a b c d e f g h i j) k0
def Z8 N a b c d e f g h i j k0:=(Z8L N k0 N a b c d e f g h i j:Option J)
def Z7 N a b c d e f g h i j kn:=(Z8 N a b c d e f g h i j kn:Option J)
def Z5 N a b c d e f g h i kn:=(Z6 N a b c d e f g h i (λa b j c d e f g h i=>Z7 N a b j c d e f g h i kn):Option J)
def Z31{J:Type}(N:Nat)(a:LI)(d e b c:Int)(kr:LI->I2 (Option J)):Option J :=
 kr a b c
def Z4 N a f g h i b c d e kr:=(Z5 N a f g h i b c d e (λa b c d e=>Z31 N a b c d e kr):Option J)
def Z2 N a b c d e f kr:=(Z3 N a b c d e f (λg a b c d e f h i=>Z4 N g a b c d e f h i kr):Option J)
def Z0 N b a kr:=(Z1 N b a (λa c d e f g=>Z2 N a c d e f g kr):Option J)
def Spec:Prop:=∀ (v0:MT) (v1:Int),Ty.bd (.pair (.int .i64) (.pair (.int .i64) (.sl 0 (.int .i64)))) v0->P v0 v1=true->∃N0,∀N,N0<=N->Z0 N v0 v1 (λv4_2 v4_0 v4_1=>some ((),((v4_0,(v4_1,v4_2)),())))=some ((),((g v0 v1),()))
section
variable {J : Type} {N : Nat} {m : Int × Int × List Int} {k : Nat}
def at_g(hd:0<=m.1)(a b:Nat):bz.g (m.1,(m.2.1,m.2.2)) (a:Int) (b:Int)=ae m a b:=gA hd a b
def at_p(hd:az m=true){a b:Nat}(ha:a<m.2.1.toNat)(hb:b<m.1.toNat):bz.P (m.1,(m.2.1,m.2.2)) (a:Int) (b:Int)=true:=gW hd ha hb
def cur(m:Int×Int×List Int)(k p:Nat):List Int:=eW m.2.2.length p (jv m k) (λp=>m.2.2.getD p 0)
def inner(hs:bi m=true)(hk:k<m.1.toNat)(k2:List Int->Int->Int->Int->Int->List Int->Int->Int->Int->Int->Option J)(t0 t1 o0 o1:Int){i:Nat}(hi:i<m.2.1.toNat):∀(M j:Nat),j<=m.1.toNat->m.1.toNat-j<M ->
  Z16L N k2 M (cur m k (i*m.1.toNat+j)) (k:Int) (i:Int) (j:Int) m.1 m.2.1 m.2.2 t0 t1 o0 o1=k2 (cur m k (i*m.1.toNat+m.1.toNat)) (k:Int) (i:Int) m.1 m.2.1 m.2.2 t0 t1 o0 o1:=by
 have hd:=cD hs;obtain⟨n,r,hn,hr,hn1,hn5,hnr,hr8,hl⟩:=aN hd;intro M;induction M with
 |zero=>intro j _ h;omega
 |succ M ih =>
  intro j hj hM;simp only[Z16L,Z17,Z18];by_cases h:j<m.1.toNat
  ·have hlt:i*m.1.toNat+j<m.2.2.length:=by have:=fU (n:=n) (r:=r) (i:=i) (j:=j) (by omega) (by omega);rw[hl,hn];exact this
   have hidx:ab (ab ((i:Int)*m.1)+(j:Int))=((i*m.1.toNat+j:Nat):Int):=by
    have e:(i:Int)*m.1=((i*m.1.toNat:Nat):Int):=by rw[hn,Int.natCast_mul];simp
    have hb:i*m.1.toNat<=8*5:=Nat.mul_le_mul (by omega) (by omega);have e2:ab (((i*m.1.toNat:Nat):Int))=((i*m.1.toNat:Nat):Int):=aL (by omega) (by omega);rw[e,e2,aL (by omega) (by omega)];omega
   have b1:=fV hs i j;have b2:=fV hs i k;have b3:=fV hs k j;have hbc:=Cr (f:=false) b1 b2 b3;have hF:=xI (m:=m) (k:=k) (i:=i) h;have hcl:(cur m k (i*m.1.toNat+j)).length=m.2.2.length:=nW;have hset:∀v,v=jv m k (i*m.1.toNat+j)->(cur m k (i*m.1.toNat+j)).set (i*m.1.toNat+j) v=cur m k (i*m.1.toNat+(j+1)):=λv hv=>by subst hv;exact xy hlt
   have hsame:jv m k (i*m.1.toNat+j)=ae m i j->cur m k (i*m.1.toNat+j)=cur m k (i*m.1.toNat+(j+1)):=λhv=>(Cs hv).symm;have iB:av (((i*m.1.toNat+j:Nat):Int)) (cur m k (i*m.1.toNat+j)).length=true:=aR (by rw[hcl];exact hlt);have pij:=at_p hd hi h;rw[ct (dt (by omega))];simp only[Z19,Z20,Z21,Z22,Z23,Z24,Z25];have fin:∀c,c=cur m k (i*m.1.toNat+(j+1))->Z29 N c (k:Int) (i:Int) (j:Int) m.1 m.2.1 m.2.2 t0 t1 o0 o1 (λout5_2 k1 i6 j7 m2_0 m2_1 m2_2 t4_0 t4_1 out5_0 out5_1=>Z16L N k2 M out5_2 k1 i6 j7 m2_0 m2_1 m2_2 t4_0 t4_1 out5_0 out5_1)=k2 (cur m k (i*m.1.toNat+m.1.toNat)) (k:Int) (i:Int) m.1 m.2.1 m.2.2 t0 t1 o0 o1:=by intro c hc;subst hc;simp only[Z29];rw[bA (by rw[bD];omega)];exact ih (j+1) h (by omega)
   have hcg:(cur m k (i*m.1.toNat+j)).getD (i*m.1.toNat+j) 0=ae m i j:=by refine(xx hlt 0).trans ?_;rw[if_neg (by omega)];rfl
   rw[hidx,ct iB,ct (at_p hd hi hk),ct (at_p hd (show k<m.2.1.toNat by omega) h),at_g (by omega),at_g (by omega)];simp only[Z26,Z27,Z28,Int.toNat_natCast,hcg];by_cases hik:i=k;·rw[ct (dt (by omega)),eI rfl,aL (by omega) (by omega)];refine fin _ (hset _ ?_);rw[hF,dt hik,Int.zero_sub];rfl
   ·rw[cf (df (by omega))];by_cases hjk:j=k;·rw[eI (by rw[aC];exact dt (by omega)),aL (by omega) (by omega)];refine fin _ (hset _ ?_);rw[hF,df hik,dt hjk,Int.zero_sub];rfl
    ·rw[dO (by rw[aC];exact df (by omega))];rw[df hik,df hjk]at hF;simp only[cw,Bool.or_self,Bool.false_eq_true,if_false]at hF;have wbc:ab (ae m i k*ae m k j)=ae m i k*ae m k j:=aL (by omega) (by omega);rw[wbc];by_cases a1:0<ae m i k
     ·rw[ct (dt a1)];by_cases a2:0<ae m k j;·rw[ct (dt a2),aL (by omega) (by omega)];refine fin _ (hset _ ?_);rw[hF,if_pos ⟨a1,a2⟩]
      ·rw[cf (df a2),cf (df (by omega))];refine fin _ (hsame ?_);rw[hF,if_neg (by omega),if_neg (by omega)]
     ·rw[cf (df a1)];by_cases a2:ae m i k<0
      ·rw[ct (dt a2)];by_cases a3:ae m k j<0;·rw[ct (dt a3),aL (by omega) (by omega)];refine fin _ (hset _ ?_);rw[hF,if_neg (by omega),if_pos ⟨a2,a3⟩]
       ·rw[cf (df a3)];refine fin _ (hsame ?_);rw[hF,if_neg (by omega),if_neg (by omega)]
      ·rw[cf (df a2)];refine fin _ (hsame ?_);rw[hF,if_neg (by omega),if_neg (by omega)]
  ·rw[cf (df (by omega)),show j=m.1.toNat by omega]
def outer(hN:10<=N)(hs:bi m=true)(hk:k<m.1.toNat)(k0:List Int->Int->Int->Int->Int->Option J)(t0 t1 o0 o1:Int):∀(M i:Nat),i<=m.2.1.toNat->m.2.1.toNat-i<M ->
  Z8L N k0 M (cur m k (i*m.1.toNat)) (k:Int) (i:Int) m.1 m.2.1 m.2.2 t0 t1 o0 o1=k0 (cur m k (m.2.1.toNat*m.1.toNat)) t0 t1 o0 o1:=by
 have hd:=cD hs;obtain⟨n,r,hn,hr,hn1,hn5,hnr,hr8,hl⟩:=aN hd;intro M;induction M with
 |zero=>intro i _ h;omega
 |succ M ih =>
  intro i hi hM;simp only[Z8L,Z9,Z10];by_cases h:i<m.2.1.toNat;·rw[ct (dt (by omega))];simp only[Z11,Z12,Z13,Z14,Z15,Z16];have hin:=inner (J:=J) (N:=N) hs hk (λout5_2 k1 i6 m2_0 m2_1 m2_2 t4_0 t4_1 out5_0 out5_1=>Z30 N out5_2 k1 i6 m2_0 m2_1 m2_2 t4_0 t4_1 out5_0 out5_1 (λout5_2 k1 i6 m2_0 m2_1 m2_2 t4_0 t4_1 out5_0 out5_1=>Z8L N k0 M out5_2 k1 i6 m2_0 m2_1 m2_2 t4_0 t4_1 out5_0 out5_1)) t0 t1 o0 o1 h N 0 (by omega) (by omega);rw[show((0:Nat):Int)=0 from rfl,Nat.add_zero]at hin;rw[hin];simp only[Z30];rw[bA (by rw[bD];omega)];have:=ih (i+1) h (by omega);rw[Nat.add_mul,Nat.one_mul]at this;exact this
  ·rw[cf (df (by omega)),show i=m.2.1.toNat by omega]
end
def ok:Spec:=λm k hb hp=>⟨10,λN hN=>by
 simp only[P,Bool.and_eq_true,decide_eq_true_eq]at hp;obtain⟨hs,h0,h1⟩:=hp;obtain⟨x,rfl⟩:=Int.eq_ofNat_of_zero_le h0;have hd:=cD hs;obtain⟨n,r,hn,hr,hn1,hn5,hnr,hr8,hl⟩:=aN hd;have hlen:m.2.2.length<=8*5:=by rw[hl];exact Nat.mul_le_mul hr8 hn5
 simp only[Z0,Z1,Z2,Z3];rw[ct (show cZ.P m.2.2=true from dt (by omega)),ct (show cZ.P m.2.2=true from dt (by omega))];simp only[bo,fD];simp only[Z4,Z5,Z6,Z7,Z8];have hstart:cur m x 0=m.2.2:=by unfold cur;rw[xz];exact qj 0 rfl
 have hend:cur m x (m.2.1.toNat*m.1.toNat)=(aI m x).2.2:=by
  have e:m.2.1.toNat*m.1.toNat=m.2.2.length:=by rw[hl,hn,hr];simp
  rw[e];exact xA
 have:=outer (J:=Unit×(Int×Int×List Int)×Unit) hN hs (show x<m.1.toNat by omega) (λout5_2 t4_0 t4_1 out5_0 out5_1=>Z31 N out5_2 t4_0 t4_1 out5_0 out5_1 (λt4_2 t4_0 t4_1=>some ((),((t4_0,(t4_1,t4_2)),())))) 0 0 m.1 m.2.1 N 0 (by omega) (by omega);rw[Nat.zero_mul,hstart,hend]at this;exact this⟩
end bJ
namespace bK
def g(m:Int×Int×List Int)(k:Int):(Int×Int×List Int)×Bool :=
 if((bi m&&!decide (be m=[]))&&(bX k 0 (m.1-1)&&(bi (aI m k.toNat)&&!decide (be (aI m k.toNat)=[]))))=true then(aI m k.toNat,true)else((0,0,[]),false)
def Z0{J:Type}(N:Nat)(a:MT)(b:Int)(kr:LI->Bool->I2 (Option J)):Option J :=
 cond (!(lk N ((f8.g a))))
 (
  kr ([]:List Int) false 0 0)
 (
  cond (!(lk N ((fy.g b 0 (ab (a.1-1))))))
  (
   kr ([]:List Int) false 0 0)
  (
   cond (lk N (bJ.P a b)) (
    cond (!(lk N ((f8.g (bJ.g a b)))))
    (
     kr ([]:List Int) false 0 0)
    (
     kr (bJ.g a b).2.2 true (bJ.g a b).1 (bJ.g a b).2.1)) none))
def Spec:Prop:=∀ (v0:MT) (v1:Int),Ty.bd (.pair (.int .i64) (.pair (.int .i64) (.sl 0 (.int .i64)))) v0->∃N0,∀N,N0<=N->Z0 N v0 v1 (λv4_2 v5 v4_0 v4_1=>some ((),((v4_0,(v4_1,v4_2)),(v5,()))))=some ((),((g v0 v1).1,((g v0 v1).2,())))
def ok:Spec:=λm k hb=>⟨0,λN hN=>by
 simp only[Z0,aC,g,f8.g,fy.g];cases h1:(bi m&&!decide (be m=[]));·rfl
 have hs:bi m=true:=by simp only[Bool.and_eq_true]at h1;exact h1.1
 have hd:=cD hs;obtain⟨n,r,hn,hr,hn1,hn5,hnr,hr8,hl⟩:=aN hd;rw[aL (by omega) (by omega)];cases h2:bX k 0 (m.1-1);·rfl
 have h3:=cy.1 h2;have hP:bJ.P m k=true:=by simp only[bJ.P,Bool.and_eq_true,decide_eq_true_eq];exact⟨hs,by omega,by omega⟩
 rw[hP];have hg:bJ.g m k=aI m k.toNat:=rfl;rw[hg];cases(bi (aI m k.toNat)&&!decide (be (aI m k.toNat)=[]))<;>rfl⟩
end bK
namespace aZ
def g(m:Int×Int×List Int)(ks:List Int):List (Int×Int×List Int)×Bool :=
 if((bO.g m).2&&decide ((ks.length:Int)<=40))=true then cE bK.g (bO.g m).1 ks else([],false)
def Z1{J:Type}(N:Nat)(a:MT)(b:LI)(kn:LI->I2 (LI->Option J)):Option J :=
 kn b a.1 a.2.1 a.2.2
def Z3{J:Type}(N:Nat)(d:LI)(a b:Int)(c:LI)(kn:LI->LI->Bool->I2 (Option J)):Option J :=
 kn (bO.g (a,(b,c))).1.2.2 d (lk N ((bO.g (a,(b,c))).2)) (bO.g (a,(b,c))).1.1 (bO.g (a,(b,c))).1.2.1
def Z5{J:Type}(N:Nat)(b a:LI)(c:Bool)(d e:Int)(kn:LI->LI->I2 (Option J))(kr:LM->Bool->Option J):Option J :=
 cond (!(c))
 (
  kr ([]:List (MT)) false)
 (
  cond (lk N (decide (40<(a.length:Int))))
  (
   kr ([]:List (MT)) false)
  (
   kn b a d e))
def Z7{J:Type}(N:Nat)(a d:LI)(b c:Int)(kn:LM->LI->I2 (LI->Option J)):Option J :=
 kn ([(b,(c,a))]:List (MT)) d b c a
def Z10{J:Type}(N:Nat)(b:LM)(a:LI)(c d:Int)(e:LI)(kn:LM->LI->I4 (LI->Option J)):Option J :=
 kn b a (a.length:Int) 0 c d e
def Z13{J:Type}(N:Nat)(f:LM)(b:LI)(h a c d:Int)(e:LI)(kn:LM->LI->I4 (LI->Option J))(k0:LM->Option J)(kr:LM->Bool->Option J):Option J :=
 cond (lk N (decide (a<h)))
 (
  cond (lk N (av a b.length)) (
   cond (!(lk N ((bK.g (c,(d,e)) (b.getD a.toNat 0)).2)))
   (
    kr ([]:List (MT)) false)
   (
    cond (lk N (Nat.blt (f.length+([(bK.g (c,(d,e)) (b.getD a.toNat 0)).1]:List (MT)).length) 1099511627776)) (
     kn (f++([(bK.g (c,(d,e)) (b.getD a.toNat 0)).1]:List (MT))) b h (ab (a+1)) (bK.g (c,(d,e)) (b.getD a.toNat 0)).1.1 (bK.g (c,(d,e)) (b.getD a.toNat 0)).1.2.1 (bK.g (c,(d,e)) (b.getD a.toNat 0)).1.2.2) none)) none)
 (
  k0 f)
def Z12L{J:Type}(N:Nat)(k0:LM->Option J)(kr:LM->Bool->Option J):Nat->LM->LI->Int->Int->Int->Int->LI->Option J
 |0,_,_,_,_,_,_,_=>none
 |M+1,a,b,c,d,e,f,g=>Z13 N a b c d e f g (λa b c d e f g=>Z12L N k0 kr M a b c d e f g) k0 kr
def Z12 N a b c d e f g k0 kr:=(Z12L N k0 kr N a b c d e f g:Option J)
def Z11 N a b c d e f g kn kr:=(Z12 N a b c d e f g kn kr:Option J)
def Z9 N a e b c d kn kr:=(Z10 N a e b c d (λa f g h b c d=>Z11 N a f g h b c d kn kr):Option J)
def Z14{J:Type}(N:Nat)(a:LM)(kr:LM->Bool->Option J):Option J :=
 kr a true
def Z8 N a b c d e kr:=(Z9 N a b c d e (λa=>Z14 N a kr) kr:Option J)
def Z6 N a b c d kr:=(Z7 N a b c d (λe b c d a=>Z8 N e b c d a kr):Option J)
def Z4 N a b e c d kr:=(Z5 N a b e c d (λa b c d=>Z6 N a b c d kr) kr:Option J)
def Z2 N a b c d kr:=(Z3 N a b c d (λe a f g h=>Z4 N e a f g h kr):Option J)
def Z0 N b a kr:=(Z1 N b a (λa c d e=>Z2 N a c d e kr):Option J)
def Spec:Prop:=∀ (v0:MT) (v1:LI),Ty.bd (.pair (.int .i64) (.pair (.int .i64) (.sl 0 (.int .i64)))) v0->Ty.bd (.sl 0 (.int .i64)) v1->∃N0,∀N,N0<=N->Z0 N v0 v1 (λv4 v5=>some ((),(v4,(v5,()))))=some ((),((g v0 v1).1,((g v0 v1).2,())))
def loop{J:Type}(N:Nat)(kr:List (Int×Int×List Int)->Bool->Option J)(ks:List Int)(hk:ks.length<=40):∀(M j:Nat) (pre:List (Int×Int×List Int)) (p:Int×Int×List Int),pre.length=j->j<=ks.length->ks.length-j<M ->
  Z12L N (λa=>Z14 N a kr) kr M (pre++[p]) ks (ks.length:Int) (j:Int) p.1 p.2.1 p.2.2=if(cE bK.g p (ks.drop j)).2=true then kr (pre++(cE bK.g p (ks.drop j)).1) true else kr [] false:=by
 intro M;induction M with
 |zero=>intro j _ _ _ _ h;omega
 |succ M ih =>
  intro j pre p hp hj hM;simp only[Z12L,Z13];by_cases h:j<ks.length
  ·have hv:bK.g (p.1,(p.2.1,p.2.2)) (ks.getD j 0)=bK.g p (ks.getD j 0):=rfl;rw[ct (dt (by omega)),ct (aR h)];simp only[Int.toNat_natCast,hv];rw[iH 0 h,cE,bA (by rw[bD];omega)];cases hb:(bK.g p (ks.getD j 0)).2;·rw[eI (by rw[aC];rfl),if_neg (by simp)]
   ·rw[dO (by rw[aC];rfl),if_pos rfl,ct (by rw[Nat.blt_eq];simp;omega)];rw[ih (j+1) (pre++[p]) _ (by simp;omega) h (by omega)];cases hc:(cE bK.g (bK.g p (ks.getD j 0)).1 (ks.drop (j+1))).2;·simp
    ·simp
  ·rw[cf (df (by omega)),List.drop_of_length_le (by omega),cE,if_pos rfl];rfl
def ok:Spec:=λm ks hb hv=>⟨ks.length+10,λN hN=>by
 have e0:bO.g (m.1,(m.2.1,m.2.2))=bO.g m:=rfl;simp only[Z0,Z1,Z2,Z3,e0,g,aC,Z4,Z5];cases h1:(bO.g m).2;·rfl
 by_cases h2:(ks.length:Int)<=40
 ·rw[df (show ¬ (40:Int)<ks.length by omega),dt h2];simp only[Bool.not_true,cond_false,Z6,Z7,Z8,Z9,Z10,Z11,Z12];have:=loop (J:=Unit×List (Int×Int×List Int)×Bool×Unit) N (λt4 t5=>some ((),(t4,(t5,())))) ks (by omega) N 0 [] (bO.g m).1 rfl (by omega) (by omega);rw[show((0:Nat):Int)=0 from rfl,List.drop_zero]at this;refine this.trans ?_;simp only[Bool.and_true,if_true,List.nil_append];generalize bK.g=f;cases hw:cE f (bO.g m).1 ks with
  |mk a b =>
   cases b
   ·have:a=[]:=by
     cases ks with
     |nil=>rw[cE]at hw;cases hw
     |cons k ks =>
      rw[cE]at hw;split at hw
      ·split at hw;·cases hw
       ·cases hw;rfl
      ·cases hw;rfl
    subst this;rfl
   ·rfl
 ·rw[dt (show(40:Int)<ks.length by omega),df h2];rfl⟩
def dim_f{m:Int×Int×List Int}{k:Int}(h:(bK.g m k).2=true):az (bK.g m k).1=true/\(bK.g m k).1.1=m.1:=by
 unfold bK.g at h ⊢;split;·rename_i hc;simp only[Bool.and_eq_true]at hc;exact⟨gZ (cD hc.1.1) _,rfl⟩
 ·rename_i hc;rw[if_neg hc]at h;cases h
def last{m:Int×Int×List Int}{ks:List Int}(h:(g m ks).2=true):(g m ks).1.length=ks.length+1/\az ((g m ks).1.getD ks.length (0,(0,[])))=true/\((g m ks).1.getD ks.length (0,(0,[]))).1=m.1/\ks.length<=40/\az m=true:=by
 unfold g at h ⊢;split
 ·rename_i hc;rw[if_pos hc]at h;rw[Bool.and_eq_true,decide_eq_true_eq]at hc;obtain⟨hc,hk⟩:=hc;unfold bO.g at hc h ⊢;split;·rename_i hq;rw[if_pos hq]at h;simp only[Bool.and_eq_true,decide_eq_true_eq]at hq;have hd:=cD hq.1.1;obtain⟨h1,h2,h3⟩:=KJ (λm k h=>dim_f h) ks (cS m) (tq hd hq.2.1 hq.2.2) h;exact⟨h1,h2,h3,by omega,hd⟩
  ·rename_i hq;rw[if_neg hq]at hc;cases hc
 ·rename_i hc;rw[if_neg hc]at h;cases h
end aZ
namespace cp
def P(m:Int×Int×List Int):Bool:=az m
def g(m:Int×Int×List Int):List (List Int):=cT m
def Z1{J:Type}(N:Nat)(a:MT)(kn:I2 (LI->Option J)):Option J :=
 kn a.1 a.2.1 a.2.2
def Z3{J:Type}(N:Nat)(a b:Int)(c:LI)(kn:I2 (LI->Option J)):Option J :=
 kn a b c
def Z6{J:Type}(N:Nat)(a b:Int)(c:LI)(kn:I3 (LI->Option J)):Option J :=
 kn a a b c
def Z10{J:Type}(N:Nat)(a:LL)(b d c:Int)(e:LI)(kn:LL->I3 (LI->Option J))(k0:LL->Option J):Option J :=
 cond (lk N (decide (b<c)))
 (
  kn a b d c e)
 (
  k0 a)
def Z14{J:Type}(N:Nat)(a:LL)(b c d:Int)(e:LI)(kn:LL->I3 (LI->Option J)):Option J :=
 kn a b c d e
def Z17{J:Type}(N:Nat)(a:LL)(b c d:Int)(e:LI)(kn:LL->I4 (LI->Option J)):Option J :=
 kn a b 0 c d e
def Z20{J:Type}(N:Nat)(h:LL)(f:LI)(b c a d:Int)(e:LI)(kn:LL->LI->I4 (LI->Option J))(k2:LL->LI->I3 (LI->Option J)):Option J :=
 cond (lk N (decide (c<a)))
 (
  cond (lk N (bz.P (a,(d,e)) b c)) (
   cond (lk N (Nat.blt (f.length+([(bz.g (a,(d,e)) b c)]:List Int).length) 1099511627776)) (
    kn h (f++([(bz.g (a,(d,e)) b c)]:List Int)) b (ab (c+1)) a d e) none) none)
 (
  k2 h f b a d e)
def Z19L{J:Type}(N:Nat)(k2:LL->LI->I3 (LI->Option J)):Nat->LL->LI->Int->Int->Int->Int->LI->Option J
 |0,_,_,_,_,_,_,_=>none
 |M+1,a,b,c,d,e,f,g=>Z20 N a b c d e f g (λa b c d e f g=>Z19L N k2 M a b c d e f g) k2
def Z19 N a b c d e f k2:=(Z19L N k2 N a ([]:List Int) b c d e f:Option J)
def Z18 N a b c d e f kn:=(Z19 N a b c d e f kn:Option J)
def Z16 N a b c d e kn:=(Z17 N a b c d e (λa b f c d e=>Z18 N a b f c d e kn):Option J)
def Z21{J:Type}(N:Nat)(a:LL)(b:LI)(c d e:Int)(f:LI)(kn:LL->I3 (LI->Option J)):Option J :=
 cond (lk N (Nat.blt (a.length+([b]:List (LI)).length) 1099511627776)) (
  kn (a++([b]:List (LI))) c d e f) none
def Z15 N a b c d e kn:=(Z16 N a b c d e (λa f b c d e=>Z21 N a f b c d e kn):Option J)
def Z13 N a b c d e kn:=(Z14 N a b c d e (λa b c d e=>Z15 N a b c d e kn):Option J)
def Z12 N a b c d e kn:=(Z13 N a b c d e kn:Option J)
def Z22{J:Type}(N:Nat)(a:LL)(b c d:Int)(e:LI)(kn:LL->I3 (LI->Option J)):Option J :=
 kn a (ab (b+1)) c d e
def Z11 N a b c d e kn:=(Z12 N a b c d e (λa b c d e=>Z22 N a b c d e kn):Option J)
def Z9 N a b c d e kn k0:=(Z10 N a b c d e (λa b c d e=>Z11 N a b c d e kn) k0:Option J)
def Z8L{J:Type}(N:Nat)(k0:LL->Option J):Nat->LL->Int->Int->Int->LI->Option J
 |0,_,_,_,_,_=>none
 |M+1,a,b,c,d,e=>Z9 N a b c d e (λa b c d e=>Z8L N k0 M a b c d e) k0
def Z8 N a b c d k0:=(Z8L N k0 N ([]:List (LI)) a b c d:Option J)
def Z7 N a b c d kn:=(Z8 N a b c d kn:Option J)
def Z5 N a b c kn:=(Z6 N a b c (λd a b c=>Z7 N d a b c kn):Option J)
def Z23{J:Type}(N:Nat)(a:LL)(kr:LL->Option J):Option J :=
 kr a
def Z4 N a b c kr:=(Z5 N a b c (λd=>Z23 N d kr):Option J)
def Z2 N a b c kr:=(Z3 N a b c (λa b c=>Z4 N a b c kr):Option J)
def Z0 N a kr:=(Z1 N a (λb c d=>Z2 N b c d kr):Option J)
def Spec:Prop:=∀ (v0:MT),Ty.bd (.pair (.int .i64) (.pair (.int .i64) (.sl 0 (.int .i64)))) v0->P v0=true->∃N0,∀N,N0<=N->Z0 N v0 (λv2=>some ((),(v2,())))=some ((),((g v0),()))
def inner{J:Type}{N:Nat}{m:Int×Int×List Int}(hd:az m=true)(k2:List (List Int)->List Int->Int->Int->Int->List Int->Option J)(out:List (List Int)){i:Nat}(hi:i<m.2.1.toNat):∀(M j:Nat),j<=m.1.toNat->m.1.toNat-j<M ->
  Z19L N k2 M out ((dX m i).take j) (i:Int) (j:Int) m.1 m.2.1 m.2.2=k2 out (dX m i) (i:Int) m.1 m.2.1 m.2.2:=by
 obtain⟨n,r,hn,hr,hn1,hn5,hnr,hr8,hl⟩:=aN hd;intro M;induction M with
 |zero=>intro j _ h;omega
 |succ M ih =>
  intro j hj hM;simp only[Z19L,Z20];have hrl:(dX m i).length=m.1.toNat:=by simp[dX]
  by_cases h:j<m.1.toNat
  ·have hlen:∀x:Int,Nat.blt (((dX m i).take j).length+([x]:List Int).length) 1099511627776=true:=λx=>by rw[Nat.blt_eq,List.length_take,hrl,List.length_singleton];omega
   have ht:(dX m i).take j++[ae m i j]=(dX m i).take (j+1):=xO (ae m i) h;have hP:bz.P (m.1,(m.2.1,m.2.2)) (i:Int) (j:Int)=true:=gW hd hi h;have hA:bz.g (m.1,(m.2.1,m.2.2)) (i:Int) (j:Int)=ae m i j:=gA (by omega) _ _;rw[ct (dt (by omega)),ct hP,hA,ct (hlen _),ht,bA (by rw[bD];omega)];exact ih (j+1) h (by omega)
  ·rw[cf (df (by omega)),List.take_of_length_le (by rw[hrl];omega)]
def loop{J:Type}{N:Nat}(hN:10<=N){m:Int×Int×List Int}(hd:az m=true)(k0:List (List Int)->Option J):∀(M t:Nat),t<=m.2.1.toNat-m.1.toNat->m.2.1.toNat-m.1.toNat-t<M ->
  Z8L N k0 M ((cT m).take t) ((m.1.toNat+t:Nat):Int) m.1 m.2.1 m.2.2=k0 (cT m):=by
 obtain⟨n,r,hn,hr,hn1,hn5,hnr,hr8,hl⟩:=aN hd;have hcl:(cT m).length=m.2.1.toNat-m.1.toNat:=by simp[cT]
 intro M;induction M with
 |zero=>intro t _ h;omega
 |succ M ih =>
  intro t ht hM;simp only[Z8L,Z9,Z10];by_cases h:t<m.2.1.toNat-m.1.toNat;·have ha:(cT m).take t++[dX m (m.1.toNat+t)]=(cT m).take (t+1):=xO (λt=>dX m (m.1.toNat+t)) h;rw[ct (dt (by omega))];simp only[Z11,Z12,Z13,Z14,Z15,Z16,Z17,Z18,Z19];have hin:=inner (J:=J) (N:=N) hd (λout3 row5 i4 p1_0 p1_1 p1_2=>Z21 N out3 row5 i4 p1_0 p1_1 p1_2 (λout3 i4 p1_0 p1_1 p1_2=>Z22 N out3 i4 p1_0 p1_1 p1_2 (λout3 i4 p1_0 p1_1 p1_2=>Z8L N k0 M out3 i4 p1_0 p1_1 p1_2))) ((cT m).take t) (i:=m.1.toNat+t) (by omega) N 0 (by omega) (by omega);rw[List.take_zero,show((0:Nat):Int)=0 from rfl]at hin;rw[hin];simp only[Z21,Z22];rw[ct (by rw[Nat.blt_eq,List.length_take,hcl,List.length_singleton];omega),bA (by rw[bD];omega),ha];exact ih (t+1) h (by omega)
  ·rw[cf (df (by omega)),List.take_of_length_le (by rw[hcl];omega)]
def ok:Spec:=λm hb hp=>⟨10,λN hN=>by have hd:az m=true:=hp;obtain⟨n,r,hn,hr,hn1,hn5,hnr,hr8,hl⟩:=aN hd;simp only[Z0,Z1,Z2,Z3,Z4,Z5,Z6,Z7,Z8];have:=loop (J:=Unit×List (List Int)×Unit) hN hd (λout3=>Z23 N out3 (λt2=>some ((),(t2,())))) N 0 (by omega) (by omega);rw[List.take_zero,Nat.add_zero,show((m.1.toNat:Nat):Int)=m.1 by omega]at this;exact this⟩
end cp
namespace iu
def g(m:Int×Int×List Int)(ks:List Int):List (List Int)×Bool :=
 if(aZ.g m ks).2=true then(cT ((aZ.g m ks).1.getD ks.length (0,(0,[]))),true)else([],false)
def Z0{J:Type}(N:Nat)(a:MT)(b:LI)(kr:LL->Bool->Option J):Option J :=
 cond (!(lk N ((aZ.g a b).2)))
 (
  kr ([]:List (LI)) false)
 (
  cond (lk N (av (ab (((aZ.g a b).1.length:Int)-1)) (aZ.g a b).1.length)) (
   cond (lk N (cp.P ((aZ.g a b).1.getD (ab (((aZ.g a b).1.length:Int)-1)).toNat (0,(0,[]))))) (
    kr (cp.g ((aZ.g a b).1.getD (ab (((aZ.g a b).1.length:Int)-1)).toNat (0,(0,[])))) true) none) none)
def Spec:Prop:=∀ (v0:MT) (v1:LI),Ty.bd (.pair (.int .i64) (.pair (.int .i64) (.sl 0 (.int .i64)))) v0->Ty.bd (.sl 0 (.int .i64)) v1->∃N0,∀N,N0<=N->Z0 N v0 v1 (λv4 v5=>some ((),(v4,(v5,()))))=some ((),((g v0 v1).1,((g v0 v1).2,())))
def ok:Spec:=λm ks hb hv=>⟨0,λN hN=>by
 simp only[Z0,aC];by_cases h:(aZ.g m ks).2=true
 ·obtain⟨h1,h2,h3,h4,h5⟩:=aZ.last h;have e:ab (((aZ.g m ks).1.length:Int)-1)=(ks.length:Int):=by rw[h1,aL (by omega) (by omega)];omega
  rw[e,Int.toNat_natCast,aR (by omega),show cp.P ((aZ.g m ks).1.getD ks.length (0,(0,[])))=true from h2,g,h,if_pos rfl];rfl
 ·have hf:(aZ.g m ks).2=false:=by
   cases hc:(aZ.g m ks).2;·rfl
   ·exact absurd hc h
  rw[g,hf];rfl⟩
end iu
namespace f9
def P(n i:Int):Bool:=decide (0<=n)&&(decide (n<1099511627776)&&(decide (0<=i)&&decide (i<n)))
def g(n i:Int):List Int:=fq n.toNat i.toNat
def Z0{J:Type}(N:Nat)(a b:Int)(kr:LI->Option J):Option J :=
 cond (lk N (bE 0 a&&decide (a<1099511627776))) (
  cond (lk N (av b (List.replicate a.toNat (0:Int)).length)) (
   kr ((List.replicate a.toNat (0:Int)).set b.toNat 1)) none) none
def Spec:Prop:=∀ (v0 v1:Int),P v0 v1=true->∃N0,∀N,N0<=N->Z0 N v0 v1 (λv4=>some ((),(v4,())))=some ((),((g v0 v1),()))
def ok:Spec:=λn i hp=>⟨0,λN hN=>by simp only[P,Bool.and_eq_true,decide_eq_true_eq]at hp;obtain⟨h1,h2,h3,h4⟩:=hp;simp only[Z0];rw[ct (by rw[nV h1,dt h2];rfl),ct (xv h3 (by rw[List.length_replicate];omega)),KC (by omega)];rfl⟩
end f9
namespace aW
def g(m:Int×Int×List Int)(ks:List Int):List (List Int)×Bool :=
 if(aZ.g m ks).2=true then(lc m (aZ.g m ks).1 ks (gC m.1.toNat),true)else([],false)
def Z1{J:Type}(N:Nat)(a:MT)(b:LI)(kn:LI->I2 (LI->Option J)):Option J :=
 kn b a.1 a.2.1 a.2.2
def Z3{J:Type}(N:Nat)(a:LI)(b c:Int)(d:LI)(kn:LM->LI->Bool->I2 (LI->Option J)):Option J :=
 kn (aZ.g (b,(c,d)) a).1 a (lk N ((aZ.g (b,(c,d)) a).2)) b c d
def Z5{J:Type}(N:Nat)(a:LM)(b:LI)(c:Bool)(d e:Int)(f:LI)(kn:LM->LI->I2 (LI->Option J))(kr:LL->Bool->Option J):Option J :=
 cond (!(c))
 (
  kr ([]:List (LI)) false)
 (
  kn a b d e f)
def Z7{J:Type}(N:Nat)(b:LM)(c:LI)(a d:Int)(e:LI)(kn:LM->LI->I3 (LI->Option J)):Option J :=
 kn b c a a d e
def Z9{J:Type}(N:Nat)(a:LM)(b:LI)(c d e:Int)(f:LI)(kn:LM->LI->I3 (LI->Option J)):Option J :=
 kn a b c d e f
def Z12{J:Type}(N:Nat)(a:LM)(b:LI)(c d e:Int)(f:LI)(kn:LM->LI->I4 (LI->Option J)):Option J :=
 kn a b c 0 d e f
def Z15{J:Type}(N:Nat)(d:LM)(c:LL)(e:LI)(a b f h:Int)(i:LI)(kn:LM->LL->LI->I4 (LI->Option J))(k0:LM->LL->LI->I3 (LI->Option J)):Option J :=
 cond (lk N (decide (b<a)))
 (
  cond (lk N (f9.P a b)) (
   cond (lk N (Nat.blt (c.length+([(f9.g a b)]:List (LI)).length) 1099511627776)) (
    kn d (c++([(f9.g a b)]:List (LI))) e a (ab (b+1)) f h i) none) none)
 (
  k0 d c e a f h i)
def Z14L{J:Type}(N:Nat)(k0:LM->LL->LI->I3 (LI->Option J)):Nat->LM->LL->LI->Int->Int->Int->Int->LI->Option J
 |0,_,_,_,_,_,_,_,_=>none
 |M+1,a,b,c,d,e,f,g,h=>Z15 N a b c d e f g h (λa b c d e f g h=>Z14L N k0 M a b c d e f g h) k0
def Z14 N a b c d e f g k0:=(Z14L N k0 N a ([]:List (LI)) b c d e f g:Option J)
def Z13 N a b c d e f g kn:=(Z14 N a b c d e f g kn:Option J)
def Z11 N a b c d e f kn:=(Z12 N a b c d e f (λa b c g d e f=>Z13 N a b c g d e f kn):Option J)
def Z18{J:Type}(N:Nat)(b:LM)(c:LL)(a:LI)(d e f:Int)(g:LI)(kn:LM->LL->Int->LI->I4 (LI->Option J)):Option J :=
 kn b c d a (a.length:Int) 0 e f g
def Z22{J:Type}(N:Nat)(c:LM)(d:LL)(e:Int)(f:LI)(a b g h:Int)(i:LI)(kn:LM->LL->Int->LI->I2 (Bool->I2 (LI->Option J))):Option J :=
 kn c d e f a b (lk N (decide (b<a))) g h i
def Z24{J:Type}(N:Nat)(b:LM)(a:LL)(c:Int)(d:LI)(e f:Int)(g:Bool)(h i:Int)(j:LI)(kn:LM->LL->Int->LI->I4 (LI->Option J))(k2:LL->Option J):Option J :=
 cond (g)
 (
  kn b a c d e f h i j)
 (
  k2 a)
def Z28{J:Type}(N:Nat)(c:LM)(d:LL)(e:Int)(b:LI)(f a g h:Int)(i:LI)(kn:LM->LL->I3 (LI->I4 (LI->Option J))):Option J :=
 cond (lk N (av a b.length)) (
  kn c d e a (b.getD a.toNat 0) b f a g h i) none
def Z30{J:Type}(N:Nat)(a:LM)(c:LL)(d b e:Int)(f:LI)(g h i j:Int)(l:LI)(kn:LM->LL->I2 (LI->I4 (LI->I2 (LI->Option J)))):Option J :=
 cond (lk N (av b a.length)) (
  kn a c d e f g h i j l (a.getD b.toNat (0,(0,[]))).1 (a.getD b.toNat (0,(0,[]))).2.1 (a.getD b.toNat (0,(0,[]))).2.2) none
def Z32{J:Type}(N:Nat)(b:LM)(a:LL)(c d:Int)(e:LI)(f g h i:Int)(j:LI)(l m:Int)(o:LI)(kn:LM->LL->I2 (LI->I6 (LI->I2 (LI->Option J)))):Option J :=
 kn b a c d e f g (a.length:Int) 0 h i j l m o
def Z36{J:Type}(N:Nat)(c:LM)(d:LL)(e f:Int)(g:LI)(h i a b j l:Int)(m:LI)(o p:Int)(q:LI)(kn:LM->LL->I2 (LI->I4 (Bool->I2 (LI->I2 (LI->Option J))))):Option J :=
 kn c d e f g h i a b (lk N (decide (b<a))) j l m o p q
def Z38{J:Type}(N:Nat)(a:LM)(b:LL)(c j:Int)(d:LI)(e f l m:Int)(o:Bool)(g h:Int)(i:LI)(p q:Int)(r:LI)(kn:LM->LL->I2 (LI->I6 (LI->I2 (LI->Option J))))(k4:LM->LL->Int->LI->I4 (LI->Option J)):Option J :=
 cond (o)
 (
  kn a b c j d e f l m g h i p q r)
 (
  k4 a b c d e f g h i)
def Z42{J:Type}(N:Nat)(b:LM)(c:LL)(d e:Int)(f:LI)(g h i a j l:Int)(m:LI)(o p:Int)(q:LI)(kn:LM->LL->I3 (LI->I6 (LI->I2 (LI->Option J)))):Option J :=
 kn b c d e a f g h i a j l m o p q
def Z44{J:Type}(N:Nat)(d:LM)(a:LL)(e c b:Int)(f:LI)(g h i j l m:Int)(o:LI)(p q:Int)(r:LI)(kn:LM->LL->I4 (LI->I6 (LI->I2 (LI->Option J)))):Option J :=
 cond (lk N (av b a.length)) (
  cond (lk N (av c (a.getD b.toNat []).length)) (
   kn d a e c b (ab (0-((a.getD b.toNat []).getD c.toNat 0))) f g h i j l m o p q r) none) none
def Z47{J:Type}(N:Nat)(a:LM)(b:LL)(c d e f:Int)(g:LI)(h i j l m o:Int)(p:LI)(q r:Int)(s:LI)(kn:LM->LL->I5 (LI->I6 (LI->I2 (LI->Option J)))):Option J :=
 kn a b c d e f 0 g h i j l m o p q r s
def Z50{J:Type}(N:Nat)(o:LM)(i:LL)(h b f p a:Int)(q:LI)(r s t u j l:Int)(m:LI)(c d:Int)(e:LI)(kn:LM->LL->I5 (LI->I6 (LI->I2 (LI->Option J))))(k6:LM->LL->I4 (LI->I6 (LI->I2 (LI->Option J)))):Option J :=
 cond (lk N (decide (a<h)))
 (
  cond (lk N (bz.P (c,(d,e)) a b)) (
   cond (lk N (decide (0<(bz.g (c,(d,e)) a b))))
   (
    cond (lk N (av f i.length)) (
     cond (lk N (av a (i.getD f.toNat []).length)) (
      cond (lk N (bz.P (c,(d,e)) (ab (h+a)) b)) (
       cond (lk N (decide (0<(bz.g (c,(d,e)) (ab (h+a)) b))))
       (
        cond (lk N (bz.P (j,(l,m)) f a)) (
         kn o i h b f (ab ((ab (p+(ab ((bz.g (c,(d,e)) a b)*((i.getD f.toNat []).getD a.toNat 0)))))-(ab ((bz.g (c,(d,e)) (ab (h+a)) b)*(bz.g (j,(l,m)) f a))))) (ab (a+1)) q r s t u j l m c d e) none)
       (
        kn o i h b f (ab (p+(ab ((bz.g (c,(d,e)) a b)*((i.getD f.toNat []).getD a.toNat 0))))) (ab (a+1)) q r s t u j l m c d e)) none) none) none)
   (
    cond (lk N (bz.P (c,(d,e)) (ab (h+a)) b)) (
     cond (lk N (decide (0<(bz.g (c,(d,e)) (ab (h+a)) b))))
     (
      cond (lk N (bz.P (j,(l,m)) f a)) (
       kn o i h b f (ab (p-(ab ((bz.g (c,(d,e)) (ab (h+a)) b)*(bz.g (j,(l,m)) f a))))) (ab (a+1)) q r s t u j l m c d e) none)
     (
      kn o i h b f p (ab (a+1)) q r s t u j l m c d e)) none)) none)
 (
  k6 o i h b f p q r s t u j l m c d e)
def Z49L{J:Type}(N:Nat)(k6:LM->LL->I4 (LI->I6 (LI->I2 (LI->Option J)))):Nat->LM->LL->Int->Int->Int->Int->Int->LI->Int->Int->Int->Int->Int->Int->LI->Int->Int->LI->Option J
 |0,_,_,_,_,_,_,_,_,_,_,_,_,_,_,_,_,_,_=>none
 |M+1,a,b,c,d,e,f,g,h,i,j,l,m,o,p,q,r,s,t=>Z50 N a b c d e f g h i j l m o p q r s t (λa b c d e f g h i j l m o p q r s t=>Z49L N k6 M a b c d e f g h i j l m o p q r s t) k6
def Z49 N a b c d e f g h i j l m o p q r s t k6:=(Z49L N k6 N a b c d e f g h i j l m o p q r s t:Option J)
def Z48 N a b c d e f g h i j l m o p q r s t kn:=(Z49 N a b c d e f g h i j l m o p q r s t kn:Option J)
def Z46 N a b c d e f g h i j l m o p q r s kn:=(Z47 N a b c d e f g h i j l m o p q r s (λa b c d e f t g h i j l m o p q r s=>Z48 N a b c d e f t g h i j l m o p q r s kn):Option J)
def Z51{J:Type}(N:Nat)(d:LM)(a:LL)(e c b f:Int)(g:LI)(h i j l m o:Int)(p:LI)(q r:Int)(s:LI)(kn:LM->LL->I2 (LI->I6 (LI->I2 (LI->Option J)))):Option J :=
 cond (lk N (av b a.length)) (
  cond (lk N (av c (a.getD b.toNat []).length)) (
   kn d (a.set b.toNat ((a.getD b.toNat []).set c.toNat f)) e c g h i j l m o p q r s) none) none
def Z45 N a b c d e f g h i j l m o p q r s kn:=(Z46 N a b c d e f g h i j l m o p q r s (λa b c d e f g h i j l m o p q r s=>Z51 N a b c d e f g h i j l m o p q r s kn):Option J)
def Z43 N a b c d e f g h i j l m o p q r kn:=(Z44 N a b c d e f g h i j l m o p q r (λa b c d e s f g h i j l m o p q r=>Z45 N a b c d e s f g h i j l m o p q r kn):Option J)
def Z41 N a b c d e f g h i j l m o p q kn:=(Z42 N a b c d e f g h i j l m o p q (λa b c d r e f g h i j l m o p q=>Z43 N a b c d r e f g h i j l m o p q kn):Option J)
def Z40 N a b c d e f g h i j l m o p q kn:=(Z41 N a b c d e f g h i j l m o p q kn:Option J)
def Z52{J:Type}(N:Nat)(a:LM)(b:LL)(c d:Int)(e:LI)(f g h i j l:Int)(m:LI)(o p:Int)(q:LI)(kn:LM->LL->I2 (LI->I6 (LI->I2 (LI->Option J)))):Option J :=
 kn a b c d e f g h (ab (i+1)) j l m o p q
def Z39 N a b c d e f g h i j l m o p q kn:=(Z40 N a b c d e f g h i j l m o p q (λa b c d e f g h i j l m o p q=>Z52 N a b c d e f g h i j l m o p q kn):Option J)
def Z37 N a b c d e f g h i r j l m o p q kn k4:=(Z38 N a b c d e f g h i r j l m o p q (λa b c d e f g h i j l m o p q=>Z39 N a b c d e f g h i j l m o p q kn) k4:Option J)
def Z35 N a b c d e f g h i j l m o p q kn k4:=(Z36 N a b c d e f g h i j l m o p q (λa b c d e f g h i r j l m o p q=>Z37 N a b c d e f g h i r j l m o p q kn k4):Option J)
def Z34L{J:Type}(N:Nat)(k4:LM->LL->Int->LI->I4 (LI->Option J)):Nat->LM->LL->Int->Int->LI->Int->Int->Int->Int->Int->Int->LI->Int->Int->LI->Option J
 |0,_,_,_,_,_,_,_,_,_,_,_,_,_,_,_=>none
 |M+1,a,b,c,d,e,f,g,h,i,j,l,m,o,p,q=>Z35 N a b c d e f g h i j l m o p q (λa b c d e f g h i j l m o p q=>Z34L N k4 M a b c d e f g h i j l m o p q) k4
def Z34 N a b c d e f g h i j l m o p q k4:=(Z34L N k4 N a b c d e f g h i j l m o p q:Option J)
def Z33 N a b c d e f g h i j l m o p q kn:=(Z34 N a b c d e f g h i j l m o p q kn:Option J)
def Z31 N a b c d e f g h i j l m o kn:=(Z32 N a b c d e f g h i j l m o (λa b c d e f g p q h i j l m o=>Z33 N a b c d e f g p q h i j l m o kn):Option J)
def Z29 N a b c l d e f g h i j kn:=(Z30 N a b c l d e f g h i j (λa b c d e f g h i j m o p=>Z31 N a b c d e f g h i j m o p kn):Option J)
def Z27 N a b c d e f g h i kn:=(Z28 N a b c d e f g h i (λa b c j l d e f g h i=>Z29 N a b c j l d e f g h i kn):Option J)
def Z26 N a b c d e f g h i kn:=(Z27 N a b c d e f g h i kn:Option J)
def Z53{J:Type}(N:Nat)(a:LM)(b:LL)(c:Int)(d:LI)(e f g h:Int)(i:LI)(kn:LM->LL->Int->LI->I4 (LI->Option J)):Option J :=
 kn a b c d e (ab (f+1)) g h i
def Z25 N a b c d e f g h i kn:=(Z26 N a b c d e f g h i (λa b c d e f g h i=>Z53 N a b c d e f g h i kn):Option J)
def Z23 N a b c d e f j g h i kn k2:=(Z24 N a b c d e f j g h i (λa b c d e f g h i=>Z25 N a b c d e f g h i kn) k2:Option J)
def Z21 N a b c d e f g h i kn k2:=(Z22 N a b c d e f g h i (λa b c d e f j g h i=>Z23 N a b c d e f j g h i kn k2):Option J)
def Z20L{J:Type}(N:Nat)(k2:LL->Option J):Nat->LM->LL->Int->LI->Int->Int->Int->Int->LI->Option J
 |0,_,_,_,_,_,_,_,_,_=>none
 |M+1,a,b,c,d,e,f,g,h,i=>Z21 N a b c d e f g h i (λa b c d e f g h i=>Z20L N k2 M a b c d e f g h i) k2
def Z20 N a b c d e f g h i k2:=(Z20L N k2 N a b c d e f g h i:Option J)
def Z19 N a b c d e f g h i kn:=(Z20 N a b c d e f g h i kn:Option J)
def Z17 N a b g c d e f kn:=(Z18 N a b g c d e f (λa b c h i j d e f=>Z19 N a b c h i j d e f kn):Option J)
def Z54{J:Type}(N:Nat)(a:LL)(kr:LL->Bool->Option J):Option J :=
 kr a true
def Z16 N b a c d e f g kr:=(Z17 N b a c d e f g (λa=>Z54 N a kr):Option J)
def Z10 N a b c d e f kr:=(Z11 N a b c d e f (λa g b c d e f=>Z16 N a g b c d e f kr):Option J)
def Z8 N a b c d e f kr:=(Z9 N a b c d e f (λa b c d e f=>Z10 N a b c d e f kr):Option J)
def Z6 N a b c d e kr:=(Z7 N a b c d e (λa b f c d e=>Z8 N a b f c d e kr):Option J)
def Z4 N a b f c d e kr:=(Z5 N a b f c d e (λa b c d e=>Z6 N a b c d e kr) kr:Option J)
def Z2 N a b c d kr:=(Z3 N a b c d (λe a f b c d=>Z4 N e a f b c d kr):Option J)
def Z0 N b a kr:=(Z1 N b a (λa c d e=>Z2 N a c d e kr):Option J)
def Spec:Prop:=∀ (v0:MT) (v1:LI),Ty.bd (.pair (.int .i64) (.pair (.int .i64) (.sl 0 (.int .i64)))) v0->Ty.bd (.sl 0 (.int .i64)) v1->∃N0,∀N,N0<=N->Z0 N v0 v1 (λv4 v5=>some ((),(v4,(v5,()))))=some ((),((g v0 v1).1,((g v0 v1).2,())))
section
variable {J : Type} {N : Nat} {m p : Int × Int × List Int} {k : Nat} {w : List (Int × Int × List Int)} {ts : List Int} {a b c : Int}
theorem inner(hm:az m=true)(hp:az p=true)(e1:p.1=m.1)(e2:p.2.1=2*m.1)(hmr:m.1<=m.2.1){g:List (List Int)}(hg:iM m.1.toNat g)(hk:k<m.1.toNat){r:Nat}(hr:r<m.1.toNat)(k6:List (Int×Int×List Int)->List (List Int)->Int->Int->Int->Int->List Int->Int->Int->Int->Int->Int->Int->List Int->Int->Int->List Int->Option J)(d:Int):∀(M i:Nat) (x:Int),i<=m.1.toNat->m.1.toNat-i<M ->
  Z49L N k6 M w g m.1 (k:Int) (r:Int) x (i:Int) ts a b c d m.1 m.2.1 m.2.2 p.1 p.2.1 p.2.2=k6 w g m.1 (k:Int) (r:Int) (((List.range m.1.toNat).drop i).foldl (eZ p m (g.getD r []) k r) x) ts a b c d m.1 m.2.1 m.2.2 p.1 p.2.1 p.2.2:=by
 obtain⟨n,rr,hn,hrr,hn1,hn5,hnr,hr8,hl⟩:=aN hm;intro M;induction M with
 |zero=>intro i _ _ h;omega
 |succ M ih =>
  intro i x hi hM;simp only[Z49L,Z50];by_cases h:i<m.1.toNat
  ·have pw:ab (m.1+(i:Int))=((m.1.toNat+i:Nat):Int):=by rw[aL (by omega) (by omega)];omega
   have q1:bz.P (p.1,(p.2.1,p.2.2)) (i:Int) (k:Int)=true:=gW hp (show i<p.2.1.toNat by omega) (show k<p.1.toNat by omega);have q2:bz.P (p.1,(p.2.1,p.2.2)) ((m.1.toNat+i:Nat):Int) (k:Int)=true:=gW hp (show m.1.toNat+i<p.2.1.toNat by omega) (show k<p.1.toNat by omega);have q3:bz.P (m.1,(m.2.1,m.2.2)) (r:Int) (i:Int)=true:=gW hm (by omega) h;have g1:bz.g (p.1,(p.2.1,p.2.2)) (i:Int) (k:Int)=ae p i k:=gA (by omega) _ _;have g2:bz.g (p.1,(p.2.1,p.2.2)) ((m.1.toNat+i:Nat):Int) (k:Int)=ae p (m.1.toNat+i) k:=gA (by omega) _ _;have g3:bz.g (m.1,(m.2.1,m.2.2)) (r:Int) (i:Int)=ae m r i:=gA (by omega) _ _;have b1:av (r:Int) g.length=true:=aR (by rw[hg.1];exact hr);have b2:av (i:Int) (g.getD r []).length=true:=aR (by rw[hg.2 r hr];exact h);rw[ct (dt (by omega)),kV h,List.foldl_cons];simp only[Int.toNat_natCast,pw,q1,q2,q3,g1,g2,g3,b1,b2,aC,cond_true];have fin:∀y,y=eZ p m (g.getD r []) k r x i->Z49L N k6 M w g m.1 (k:Int) (r:Int) y (ab ((i:Int)+1)) ts a b c d m.1 m.2.1 m.2.2 p.1 p.2.1 p.2.2=k6 w g m.1 (k:Int) (r:Int) (((List.range m.1.toNat).drop (i+1)).foldl (eZ p m (g.getD r []) k r) (eZ p m (g.getD r []) k r x i)) ts a b c d m.1 m.2.1 m.2.2 p.1 p.2.1 p.2.2:=by intro y hy;subst hy;rw[bA (by rw[bD];omega)];exact ih (i+1) _ h (by omega)
   by_cases c1:0<ae p i k
   ·rw[eI (dt c1)];by_cases c2:0<ae p (m.1.toNat+i) k;·rw[eI (dt c2)];exact fin _ (by unfold eZ hU;rw[if_pos c1,if_pos c2])
    ·rw[dO (df c2)];exact fin _ (by unfold eZ hU;rw[if_pos c1,if_neg c2])
   ·rw[dO (df c1)];by_cases c2:0<ae p (m.1.toNat+i) k;·rw[eI (dt c2)];exact fin _ (by unfold eZ hU;rw[if_neg c1,if_pos c2])
    ·rw[dO (df c2)];exact fin _ (by unfold eZ hU;rw[if_neg c1,if_neg c2])
  ·rw[cf (df (by omega)),List.drop_of_length_le (by simp;omega)];rfl
def cur(m p:Int×Int×List Int)(k:Nat)(g:List (List Int))(r:Nat):List (List Int):=eW m.1.toNat r (λr=>qu p m k r (g.getD r [])) (λr=>g.getD r [])
theorem ML{g:List (List Int)}(hg:iM m.1.toNat g)(r:Nat):iM m.1.toNat (cur m p k g r):=by
 refine⟨by simp[cur,nW],λi hi=>?_⟩;unfold cur;rw[xx hi];split;·rw[qu,List.length_set];exact hg.2 i hi
 ·exact hg.2 i hi
theorem middle(hN:10<=N)(hm:az m=true)(hp:az p=true)(e1:p.1=m.1)(e2:p.2.1=2*m.1)(hmr:m.1<=m.2.1){g:List (List Int)}(hg:iM m.1.toNat g)(hk:k<m.1.toNat)(k4:List (Int×Int×List Int)->List (List Int)->Int->List Int->Int->Int->Int->Int->List Int->Option J):∀(M r:Nat),r<=m.1.toNat->m.1.toNat-r<M ->
  Z34L N k4 M w (cur m p k g r) m.1 (k:Int) ts a b m.1 (r:Int) m.1 m.2.1 m.2.2 p.1 p.2.1 p.2.2=k4 w (lb p m k g) m.1 ts a b m.1 m.2.1 m.2.2:=by
 obtain⟨n,rr,hn,hrr,hn1,hn5,hnr,hr8,hl⟩:=aN hm;intro M;induction M with
 |zero=>intro r _ h;omega
 |succ M ih =>
  intro r hr hM;simp only[Z34L,Z35,Z36,Z37,Z38];by_cases h:r<m.1.toNat
  ·have hc:=ML (p:=p) (k:=k) hg r;have hgr:(cur m p k g r).getD r []=g.getD r []:=by unfold cur;rw[xx h,if_neg (by omega)]
   rw[eI (by rw[aC];exact dt (by omega))];simp only[Z39,Z40,Z41,Z42,Z43,Z44];rw[ct (aR (by rw[hc.1];exact h)),Int.toNat_natCast,ct (aR (by rw[hc.2 r h];exact hk))];simp only[Z45,Z46,Z47,Z48,Z49];have hin:=λk6 x=>inner (J:=J) (N:=N) (w:=w) (ts:=ts) (a:=a) (b:=b) (c:=m.1) hm hp e1 e2 hmr hc hk h k6 (r:Int) N 0 x (by omega) (by omega);simp only[show((0:Nat):Int)=0 from rfl,List.drop_zero]at hin;rw[hin];simp only[Z51];rw[ct (aR (by rw[hc.1];exact h)),Int.toNat_natCast,ct (aR (by rw[hc.2 r h];exact hk))];simp only[Z52,Int.toNat_natCast];rw[bA (by rw[bD];omega)];have hs:(cur m p k g r).set r (((cur m p k g r).getD r []).set k ((List.range m.1.toNat).foldl (eZ p m ((cur m p k g r).getD r []) k r) (ab (0-((cur m p k g r).getD r []).getD k 0))))=cur m p k g (r+1):=by rw[hgr];exact xy h
   rw[hs];exact ih (r+1) h (by omega)
  ·rw[dO (by rw[aC];exact df (by omega)),show r=m.1.toNat by omega,cur,xA];rfl
theorem outer(hN:10<=N)(hm:az m=true)(hmr:m.1<=m.2.1){ws:List (Int×Int×List Int)}{ks:List Int}(hw:xS m ws ks)(hk40:ks.length<=40)(k2:List (List Int)->Option J):∀(M j:Nat) (g:List (List Int)),iM m.1.toNat g->j<=ks.length->ks.length-j<M ->
  Z20L N k2 M ws g m.1 ks (ks.length:Int) (j:Int) m.1 m.2.1 m.2.2=k2 (lc m (ws.drop j) (ks.drop j) g):=by
 obtain⟨n,rr,hn,hrr,hn1,hn5,hnr,hr8,hl⟩:=aN hm;intro M;induction M with
 |zero=>intro j _ _ _ h;omega
 |succ M ih =>
  intro j g hg hj hM;simp only[Z20L,Z21,Z22,Z23,Z24];by_cases h:j<ks.length
  ·obtain⟨h1,h2⟩:=hw;obtain⟨d1,d2,d3,d4,d5⟩:=h2 j h;obtain⟨x,hx⟩:=Int.eq_ofNat_of_zero_le d4;rw[eI (by rw[aC];exact dt (by omega))];simp only[Z25,Z26,Z27,Z28,Z29,Z30];rw[ct (aR h),ct (aR (by omega))];simp only[Z31,Z32,Z33,Z34,Int.toNat_natCast,hg.1];have hmid:=λk4=>middle (J:=J) (N:=N) (w:=ws) (ts:=ks) (a:=(ks.length:Int)) (b:=(j:Int)) (k:=x) hN hm d1 d2 d3 hmr hg (by omega) k4 N 0 (by omega) (by omega);have hc0:cur m (ws.getD j (0,(0,[]))) x g 0=g:=by unfold cur;rw[xz];exact qj [] hg.1
   simp only[hc0,show((0:Nat):Int)=0 from rfl]at hmid;rw[hx,show((m.1.toNat:Nat):Int)=m.1 by omega,hmid];simp only[Z53];rw[bA (by rw[bD];omega),KK (by omega) h,hx,Int.toNat_natCast];exact ih (j+1) _ (xR hg) h (by omega)
  ·rw[dO (by rw[aC];exact df (by omega)),KL (by omega)]
theorem MM(hm:az m=true)(k0:List (Int×Int×List Int)->List (List Int)->List Int->Int->Int->Int->List Int->Option J){ws:List (Int×Int×List Int)}{ks:List Int}:∀(M i:Nat),i<=m.1.toNat->m.1.toNat-i<M ->
  Z14L N k0 M ws ((gC m.1.toNat).take i) ks m.1 (i:Int) m.1 m.2.1 m.2.2=k0 ws (gC m.1.toNat) ks m.1 m.1 m.2.1 m.2.2:=by
 obtain⟨n,rr,hn,hrr,hn1,hn5,hnr,hr8,hl⟩:=aN hm;have hul:(gC m.1.toNat).length=m.1.toNat:=by simp[gC]
 intro M;induction M with
 |zero=>intro i _ h;omega
 |succ M ih =>
  intro i hi hM;simp only[Z14L,Z15];by_cases h:i<m.1.toNat
  ·have ha:(gC m.1.toNat).take i++[fq m.1.toNat i]=(gC m.1.toNat).take (i+1):=xO (fq m.1.toNat) h;have hP:f9.P m.1 (i:Int)=true:=by simp only[f9.P,Bool.and_eq_true,decide_eq_true_eq];omega
   have hg:f9.g m.1 (i:Int)=fq m.1.toNat i:=rfl;rw[ct (dt (by omega)),ct hP,hg,ct (by rw[Nat.blt_eq,List.length_take,hul,List.length_singleton];omega),bA (by rw[bD];omega),ha];exact ih (i+1) h (by omega)
  ·rw[cf (df (by omega)),List.take_of_length_le (by rw[hul];omega)]
end
def MN{m:Int×Int×List Int}{ks:List Int}(h:(aZ.g m ks).2=true):az m=true/\m.2.1=m.1/\ks.length<=40/\xS m (aZ.g m ks).1 ks:=by
 have hf:∀(m:Int×Int×List Int) (k:Int),(bK.g m k).2=true->az (bK.g m k).1=true/\(bK.g m k).1.1=m.1/\(bK.g m k).1.2.1=m.2.1/\0<=k/\k<m.1:=by
  intro m k h;obtain⟨h1,h2⟩:=aZ.dim_f h;refine⟨h1,h2, ?_⟩;unfold bK.g at h ⊢;split;·rename_i hc;simp only[Bool.and_eq_true]at hc;have:=cy.1 hc.2.1;exact⟨rfl,by omega,by omega⟩
  ·rename_i hc;rw[if_neg hc]at h;cases h
 obtain⟨_,_,_,h4,h5⟩:=aZ.last h;refine⟨h5, ?_⟩;unfold aZ.g at h ⊢;split
 ·rename_i hc;rw[if_pos hc]at h;rw[Bool.and_eq_true,decide_eq_true_eq]at hc;obtain⟨hc,hk⟩:=hc;unfold bO.g at hc h ⊢;split;·rename_i hq;rw[if_pos hq]at h;simp only[Bool.and_eq_true,decide_eq_true_eq]at hq;exact⟨hq.2.1,h4,CF hf m ks (cS m) (tq h5 hq.2.1 hq.2.2) rfl rfl h⟩
  ·rename_i hq;rw[if_neg hq]at hc;cases hc
 ·rename_i hc;rw[if_neg hc]at h;cases h
def ok:Spec:=λm ks hb hv=>⟨ks.length+10,λN hN=>by
 have e0:aZ.g (m.1,(m.2.1,m.2.2)) ks=aZ.g m ks:=rfl;simp only[Z0,Z1,Z2,Z3,e0,Z4,Z5,aC];by_cases h:(aZ.g m ks).2=true;·obtain⟨h1,h2,h3,h4⟩:=MN h;obtain⟨n,rr,hn,hrr,hn1,hn5,hnr,hr8,hl⟩:=aN h1;rw[g,if_pos h,h];simp only[Bool.not_true,cond_false,Z6,Z7,Z8,Z9,Z10,Z11,Z12,Z13,Z14];have hu:=λk0=>MM (J:=Unit×List (List Int)×Bool×Unit) (N:=N) (ws:=(aZ.g m ks).1) (ks:=ks) h1 k0 N 0 (by omega) (by omega);simp only[show((0:Nat):Int)=0 from rfl,List.take_zero]at hu;rw[hu];simp only[Z16,Z17,Z18,Z19,Z20];have ho:=λk2=>outer (J:=Unit×List (List Int)×Bool×Unit) (N:=N) (by omega) h1 (by omega) h4 h3 k2 N 0 (gC m.1.toNat) (CE _) (by omega) (by omega);simp only[show((0:Nat):Int)=0 from rfl,List.drop_zero]at ho;rw[ho];simp only[Z54]
 ·have hf:(aZ.g m ks).2=false:=by
   cases hc:(aZ.g m ks).2;·rfl
   ·exact absurd hc h
  rw[g,hf];rfl⟩
end aW
namespace cJ
def g(m:Int×Int×List Int)(ks:List Int):(Int×Int×List Int)×Bool :=
 if((bi m&&!decide (be m=[]))&&decide ((ks.length:Int)<=40))=true then dS bK.g m ks else xN
def Z1{J:Type}(N:Nat)(a:MT)(b:LI)(kn:LI->I2 (LI->I2 (Option J))):Option J :=
 kn b a.1 a.2.1 a.2.2 0 0
def Z3{J:Type}(N:Nat)(a:LI)(b c:Int)(d:LI)(e f:Int)(kn:LI->I2 (LI->I2 (Option J)))(kr:LI->Bool->I2 (Option J)):Option J :=
 cond (!(lk N ((f8.g (b,(c,d))))))
 (
  kr ([]:List Int) false 0 0)
 (
  cond (lk N (decide (40<(a.length:Int))))
  (
   kr ([]:List Int) false 0 0)
  (
   kn a b c d e f))
def Z5{J:Type}(N:Nat)(b:LI)(c d:Int)(a:LI)(e f:Int)(kn:LI->LI->I4 (Option J)):Option J :=
 bg (
  cond (lk N (cZ.P a)) (
   bo (
    kn (cZ.g a) b e f c d)) none)
 (
  cond (lk N (cZ.P a)) (
   kn (cZ.g a) b e f c d) none)
def Z7{J:Type}(N:Nat)(a b:LI)(c d e f:Int)(kn:LI->LI->I4 (Option J)):Option J :=
 kn a b c d e f
def Z10{J:Type}(N:Nat)(b a:LI)(c d e f:Int)(kn:LI->LI->I6 (Option J)):Option J :=
 kn b a (a.length:Int) 0 c d e f
def Z13{J:Type}(N:Nat)(c b:LI)(f a h i d e:Int)(kn:LI->LI->I6 (Option J))(k0:LI->I4 (Option J))(kr:LI->Bool->I2 (Option J)):Option J :=
 cond (lk N (decide (a<f)))
 (
  cond (lk N (av a b.length)) (
   cond (!(lk N ((bK.g (d,(e,c)) (b.getD a.toNat 0)).2)))
   (
    kr ([]:List Int) false 0 0)
   (
    kn (bK.g (d,(e,c)) (b.getD a.toNat 0)).1.2.2 b f (ab (a+1)) h i (bK.g (d,(e,c)) (b.getD a.toNat 0)).1.1 (bK.g (d,(e,c)) (b.getD a.toNat 0)).1.2.1)) none)
 (
  k0 c h i d e)
def Z12L{J:Type}(N:Nat)(k0:LI->I4 (Option J))(kr:LI->Bool->I2 (Option J)):Nat->LI->LI->Int->Int->Int->Int->Int->Int->Option J
 |0,_,_,_,_,_,_,_,_=>none
 |M+1,a,b,c,d,e,f,g,h=>Z13 N a b c d e f g h (λa b c d e f g h=>Z12L N k0 kr M a b c d e f g h) k0 kr
def Z12 N a b c d e f g h k0 kr:=(Z12L N k0 kr N a b c d e f g h:Option J)
def Z11 N a b c d e f g h kn kr:=(Z12 N a b c d e f g h kn kr:Option J)
def Z9 N a f b c d e kn kr:=(Z10 N a f b c d e (λa g h i b c d e=>Z11 N a g h i b c d e kn kr):Option J)
def Z14{J:Type}(N:Nat)(a:LI)(d e b c:Int)(kr:LI->Bool->I2 (Option J)):Option J :=
 kr a true b c
def Z8 N a f b c d e kr:=(Z9 N a f b c d e (λa b c d e=>Z14 N a b c d e kr) kr:Option J)
def Z6 N a b c d e f kr:=(Z7 N a b c d e f (λa b c d e f=>Z8 N a b c d e f kr):Option J)
def Z4 N a d e f b c kr:=(Z5 N a d e f b c (λg a b c h i=>Z6 N g a b c h i kr):Option J)
def Z2 N a b c d e f kr:=(Z3 N a b c d e f (λa b c d e f=>Z4 N a b c d e f kr) kr:Option J)
def Z0 N b a kr:=(Z1 N b a (λa c d e f g=>Z2 N a c d e f g kr):Option J)
def Spec:Prop:=∀ (v0:MT) (v1:LI),Ty.bd (.pair (.int .i64) (.pair (.int .i64) (.sl 0 (.int .i64)))) v0->Ty.bd (.sl 0 (.int .i64)) v1->∃N0,∀N,N0<=N->Z0 N v0 v1 (λv4_2 v5 v4_0 v4_1=>some ((),((v4_0,(v4_1,v4_2)),(v5,()))))=some ((),((g v0 v1).1,((g v0 v1).2,())))
def loop{J:Type}(N:Nat)(kr:List Int->Bool->Int->Int->Option J)(t0 t1:Int)(ks:List Int)(hk:ks.length<=maxLen):∀(M j:Nat) (m:Int×Int×List Int),j<=ks.length->ks.length-j<M ->
  Z12L N (λa b c d e=>Z14 N a b c d e kr) kr M m.2.2 ks (ks.length:Int) (j:Int) t0 t1 m.1 m.2.1=kr (dS bK.g m (ks.drop j)).1.2.2 (dS bK.g m (ks.drop j)).2 (dS bK.g m (ks.drop j)).1.1 (dS bK.g m (ks.drop j)).1.2.1:=by
 intro M;induction M with
 |zero=>intro j _ _ h;omega
 |succ M ih =>
  intro j m hj hM;simp only[Z12L,Z13];by_cases h:j<ks.length
  ·have hv:bK.g (m.1,(m.2.1,m.2.2)) (ks.getD j 0)=bK.g m (ks.getD j 0):=rfl;rw[ct (dt (by omega)),ct (aR h),Int.toNat_natCast,hv,iH 0 h,dS,bA (by omega)];cases hb:(bK.g m (ks.getD j 0)).2;·rw[eI (by rw[aC];rfl),if_neg (by simp)];rfl
   ·rw[dO (by rw[aC];rfl),if_pos rfl];exact ih (j+1) _ h (by omega)
  ·rw[cf (df (by omega)),List.drop_of_length_le (by omega),dS];rfl
def ok:Spec:=λm ks hb hv=>⟨ks.length+10,λN hN=>by
 have e0:f8.g (m.1,(m.2.1,m.2.2))=(bi m&&!decide (be m=[])):=rfl;simp only[Z0,Z1,Z2,Z3,e0,g,aC];cases h1:(bi m&&!decide (be m=[]));·rfl
 have hs:bi m=true:=by simp only[Bool.and_eq_true]at h1;exact h1.1
 have hd:=cD hs;obtain⟨n,r,hn,hr,hn1,hn5,hnr,hr8,hl⟩:=aN hd;have hlen:m.2.2.length<=8*5:=by rw[hl];exact Nat.mul_le_mul hr8 hn5
 by_cases h2:(ks.length:Int)<=40;·rw[df (show ¬ (40:Int)<ks.length by omega),dt h2];simp only[Bool.not_true,cond_false,Z4,Z5];rw[ct (show cZ.P m.2.2=true from dt (by omega)),ct (show cZ.P m.2.2=true from dt (by omega))];simp only[bo,fD];simp only[Z6,Z7,Z8,Z9,Z10,Z11,Z12];have:=loop (J:=Unit×(Int×Int×List Int)×Bool×Unit) N (λt4_2 t5 t4_0 t4_1=>some ((),((t4_0,(t4_1,t4_2)),(t5,())))) 0 0 ks hv.1 N 0 m (by omega) (by omega);rw[show((0:Nat):Int)=0 from rfl,List.drop_zero]at this;exact this
 ·rw[dt (show(40:Int)<ks.length by omega),df h2];rfl⟩
end cJ
namespace jL
def g(m:Int×Int×List Int):List Int:=if bi m=true then be m else[]
def Z0{J:Type}(N:Nat)(a:MT)(kr:LI->Option J):Option J :=
 cond (!(lk N ((jg.g a))))
 (
  kr ([]:List Int))
 (
  cond (lk N (aH.P a)) (
   kr (aH.g a)) none)
def Spec:Prop:=∀ (v0:MT),Ty.bd (.pair (.int .i64) (.pair (.int .i64) (.sl 0 (.int .i64)))) v0->∃N0,∀N,N0<=N->Z0 N v0 (λv2=>some ((),(v2,())))=some ((),((g v0),()))
def ok:Spec:=λm hb=>⟨0,λN hN=>by simp only[Z0,aC,g,jg.g,aH.P,aH.g];cases bi m<;>rfl⟩
end jL
namespace dz
def g(l:List (List Int))(n:Int):Bool:=decide ((l.length:Int)=n)&&l.all λr=>decide ((r.length:Int)=n)
def Z1{J:Type}(N:Nat)(a:LL)(b:Int)(kn:LL->Int->Option J):Option J :=
 kn a b
def Z3{J:Type}(N:Nat)(a:LL)(b:Int)(kn:LL->Int->Option J)(kr:Bool->Option J):Option J :=
 cond (lk N (!(decide ((a.length:Int)=b))))
 (
  kr false)
 (
  kn a b)
def Z6{J:Type}(N:Nat)(a:LL)(b:Int)(kn:LL->I2 (Option J)):Option J :=
 kn a b 0
def Z9{J:Type}(N:Nat)(b:LL)(c a:Int)(kn:LL->I2 (Option J))(k0:Option J)(kr:Bool->Option J):Option J :=
 cond (lk N (decide (a<c)))
 (
  cond (lk N (av a b.length)) (
   cond (lk N (!(decide (((b.getD a.toNat []).length:Int)=c))))
   (
    kr false)
   (
    kn b c (ab (a+1)))) none)
 (
  k0)
def Z8L{J:Type}(N:Nat)(k0:Option J)(kr:Bool->Option J):Nat->LL->Int->Int->Option J
 |0,_,_,_=>none
 |M+1,a,b,c=>Z9 N a b c (λa b c=>Z8L N k0 kr M a b c) k0 kr
def Z8 N a b c k0 kr:=(Z8L N k0 kr N a b c:Option J)
def Z7 N a b c kn kr:=(Z8 N a b c kn kr:Option J)
def Z5 N a b kn kr:=(Z6 N a b (λa b c=>Z7 N a b c kn kr):Option J)
def Z10{J:Type}(N:Nat) (kr:Bool->Option J):Option J :=
 kr true
def Z4 N a b kr:=(Z5 N a b (Z10 N kr) kr:Option J)
def Z2 N a b kr:=(Z3 N a b (λa b=>Z4 N a b kr) kr:Option J)
def Z0 N a b kr:=(Z1 N a b (λa b=>Z2 N a b kr):Option J)
def Spec:Prop:=∀ (v0:LL) (v1:Int),Ty.bd (.sl 0 (.sl 0 (.int .i64))) v0->∃N0,∀N,N0<=N->Z0 N v0 v1 (λv4=>some ((),(v4,())))=some ((),((g v0 v1),()))
def loop{J:Type}{N:Nat}(k0:Option J)(kr:Bool->Option J){l:List (List Int)}{n:Int}(hn:(l.length:Int)=n)(hl:l.length<=maxLen)(h0:k0=kr true):∀(M i:Nat),i<=l.length->l.length-i<M ->
  Z8L N k0 kr M l n (i:Int)=kr ((l.drop i).all λr=>decide ((r.length:Int)=n)):=by
 intro M;induction M with
 |zero=>intro i _ h;omega
 |succ M ih =>
  intro i hi hM;simp only[Z8L,Z9];by_cases h:i<l.length
  ·rw[ct (dt (by omega)),ct (aR h),Int.toNat_natCast,iH [] h,List.all_cons,bA (by omega)];by_cases e:((l.getD i []).length:Int)=n;·rw[cf (nf e),dt e,ih (i+1) (by omega) (by omega)];rfl
   ·rw[ct (nt e),df e];rfl
  ·rw[cf (df (by omega)),List.drop_of_length_le (by omega),h0];rfl
def ok:Spec:=λl n hb=>⟨l.length+1,λN hN=>by
 simp only[Z1,Z3,Z6,Z9,Z8,Z7,Z5,Z10,Z4,Z2,Z0,aC];unfold g;by_cases h:(l.length:Int)=n;·rw[nf h,dt h];simp only[cond_false];refine(loop _ (λt=>some ((),(t,()))) h hb.1 rfl N 0 (Nat.zero_le _) (by omega)).trans ?_;rw[List.drop_zero,Bool.true_and]
 ·rw[nt h,df h];rfl⟩
end dz
namespace bn
def P(l:List (List Int)):Bool:=decide (l.length<=4)&&l.all λr=>decide (r.length=l.length)
def mu(l:List (List Int)):Nat:=l.length
def entL(l:List (List Int))(i j:Nat):Int:=(l.getD i []).getD j 0
def g(l:List (List Int)):Int:=ab (bR l.length (entL l))
def Z1{J:Type}(N m:Nat)(a:LL)(kn:LL->Option J):Option J :=
 kn a
def Z3{J:Type}(N m:Nat)(a:LL)(kn:LL->Option J)(kr:Int->Option J):Option J :=
 cond (lk N (decide ((a.length:Int)=0)))
 (
  kr 1)
 (
  kn a)
def Z5{J:Type}(N m:Nat)(a:LL)(kn:LL->Int->Option J):Option J :=
 kn a 0
def Z7{J:Type}(N m:Nat)(a:LL)(b:Int)(kn:LL->I2 (Option J)):Option J :=
 kn a b 1
def Z10{J:Type}(N m:Nat)(a:LL)(b c:Int)(kn:LL->I3 (Option J)):Option J :=
 kn a b c 0
def Z14{J:Type}(N m:Nat)(a:LL)(b d c:Int)(kn:LL->I3 (Option J))(k0:Int->Option J):Option J :=
 cond (lk N (decide (c<(a.length:Int))))
 (
  kn a b d c)
 (
  k0 b)
def Z18{J:Type}(N m:Nat)(a:LL)(b c d:Int)(kn:LL->LL->I3 (Option J)):Option J :=
 kn ([]:List (LI)) a b c d
def Z21{J:Type}(N m:Nat)(a b:LL)(c d e:Int)(kn:LL->LL->I4 (Option J)):Option J :=
 kn a b c d e 1
def Z24{J:Type}(N m:Nat)(d a:LL)(e f b c:Int)(kn:LL->LL->I4 (Option J))(k2:LL->LL->I3 (Option J)):Option J :=
 let x3_:=(lk N (bE 0 (ab (b+1))&&bE (ab (b+1)) (a.getD c.toNat []).length));let x4_:=(lk N (bE 0 b&&bE b (a.getD c.toNat []).length));let x9_:=((a.getD c.toNat []).take b.toNat);let x2_:=(lk N (Nat.blt (([]:List Int).length+x9_.length) 1099511627776));let x7_:=([((([]:List Int)++x9_)++((a.getD c.toNat []).drop (ab (b+1)).toNat))]:List (LI));let x0_:=(
   cond (lk N (Nat.blt ((([]:List Int)++x9_).length+((a.getD c.toNat []).drop (ab (b+1)).toNat).length) 1099511627776)) (
   cond (lk N (Nat.blt (d.length+x7_.length) 1099511627776)) (
   kn (d++x7_) a e f b (ab (c+1))) none) none)
 let x8_:=(
   cond x3_ (
   cond x2_ x0_ none) none)
 let x1_:=(
   bg (
   cond x2_ (
   cond x3_ x0_ none) none)
   x8_)
 let x5_:=(
   bg (
   cond x2_ (
   cond x3_ x0_ none) none)
   x1_)
 let x6_:=(
   bg (
   cond x4_ x1_ none)
   (
   cond x3_ (
   cond x4_ (
   cond x2_ x0_ none) none) none))
 let x10_:=(
   bg (
   cond x2_ (
   bo (
   cond x3_ x0_ none)) none)
   (
   bo x5_))
 cond (lk N (decide (c<(a.length:Int))))
 (
 cond (lk N (av c a.length)) (
 cond (lk N (av c a.length)) (
 bg (
 bg (
 cond x4_ x10_ none)
 (
 bo (
 bg (
 cond x4_ x5_ none)
 x6_)))
 (
 bg (
 cond x4_ (
 bg x10_
 (
 bo (
 bg x5_
 (
 bg x1_
 x8_)))) none)
 (
 bo (
 bg (
 bg (
 cond x4_ x5_ none)
 x6_)
 (
 bg (
 cond x4_ (
 bg x5_
 (
 bg x1_
 x8_)) none)
 (
 bg x6_
 (
 bg (
 cond x4_ (
 bg x1_
 x8_) none)
 (
 cond x3_ (
 bo (
 cond x4_ (
 cond x2_ x0_ none) none)) none)))))))) none) none)
 (
 k2 d a e f b)
def Z23L{J:Type}(N m:Nat)(k2:LL->LL->I3 (Option J)):Nat->LL->LL->Int->Int->Int->Int->Option J
 |0,_,_,_,_,_,_=>none
 |M+1,a,b,c,d,e,f=>Z24 N m a b c d e f (λa b c d e f=>Z23L N m k2 M a b c d e f) k2
def Z23 N m a b c d e f k2:=(Z23L N m k2 N a b c d e f:Option J)
def Z22 N m a b c d e f kn:=(Z23 N m a b c d e f kn:Option J)
def Z20 N m a b c d e kn:=(Z21 N m a b c d e (λa b c d e f=>Z22 N m a b c d e f kn):Option J)
def Z25{J:Type}(N m:Nat)(b a:LL)(e d c:Int)(kn:LL->I3 (Option J)):Option J :=
 cond (lk N (av 0 a.length)) (
  cond (lk N (av c (a.getD 0 []).length)) (
   cond (lk N (Nat.blt (mu b) m&&P b)) (
    kn a (ab (e+(ab ((ab (d*((a.getD 0 []).getD c.toNat 0)))*(g b))))) (ab (0-d)) c) none) none) none
def Z19 N m a b c d e kn:=(Z20 N m a b c d e (λa b c d e=>Z25 N m a b c d e kn):Option J)
def Z17 N m a b c d kn:=(Z18 N m a b c d (λe a b c d=>Z19 N m e a b c d kn):Option J)
def Z16 N m a b c d kn:=(Z17 N m a b c d kn:Option J)
def Z26{J:Type}(N m:Nat)(a:LL)(b c d:Int)(kn:LL->I3 (Option J)):Option J :=
 kn a b c (ab (d+1))
def Z15 N m a b c d kn:=(Z16 N m a b c d (λa b c d=>Z26 N m a b c d kn):Option J)
def Z13 N m a b c d kn k0:=(Z14 N m a b c d (λa b c d=>Z15 N m a b c d kn) k0:Option J)
def Z12L{J:Type}(N m:Nat)(k0:Int->Option J):Nat->LL->Int->Int->Int->Option J
 |0,_,_,_,_=>none
 |M+1,a,b,c,d=>Z13 N m a b c d (λa b c d=>Z12L N m k0 M a b c d) k0
def Z12 N m a b c d k0:=(Z12L N m k0 N a b c d:Option J)
def Z11 N m a b c d kn:=(Z12 N m a b c d kn:Option J)
def Z9 N m a b c kn:=(Z10 N m a b c (λa b c d=>Z11 N m a b c d kn):Option J)
def Z27{J:Type}(N m:Nat)(a:Int)(kr:Int->Option J):Option J :=
 kr a
def Z8 N m b a c kr:=(Z9 N m b a c (λa=>Z27 N m a kr):Option J)
def Z6 N m a b kr:=(Z7 N m a b (λa b c=>Z8 N m a b c kr):Option J)
def Z4 N m a kr:=(Z5 N m a (λa b=>Z6 N m a b kr):Option J)
def Z2 N m a kr:=(Z3 N m a (λa=>Z4 N m a kr) kr:Option J)
def Z0 N m a kr:=(Z1 N m a (λa=>Z2 N m a kr):Option J)
def Spec:Prop:=∀(m:Nat) (v0:LL),Ty.bd (.sl 0 (.sl 0 (.int .i64))) v0->(Nat.blt (mu v0) (m+1)&&P v0)=true->∃N0,∀N,N0<=N->Z0 N m v0 (λv2=>some ((),(v2,())))=some ((),((g v0),()))
def ef(j:Nat)(r:List Int):List Int:=r.take j++r.drop (j+1)
def MO{j:Nat}{r:List Int}(h:j<r.length):(ef j r).length=r.length-1:=by unfold ef;rw[List.length_append,List.length_take,List.length_drop];omega
def MP{j:Nat}{r:List Int}(h:j<r.length)(t:Nat):(ef j r).getD t 0=r.getD (if t<j then t else t+1) 0:=by
 unfold ef;rw[List.getD_eq_getElem?_getD,List.getD_eq_getElem?_getD];congr 1;by_cases ht:t<j;·rw[if_pos ht,List.getElem?_append_left (by rw[List.length_take];omega),List.getElem?_take_of_lt ht]
 ·rw[if_neg ht,List.getElem?_append_right (by rw[List.length_take];omega),List.getElem?_drop,List.length_take];congr 1;omega
def tU{l:List (List Int)}(h:P l=true):l.length<=4/\∀i,i<l.length->(l.getD i []).length=l.length:=by simp only[P,Bool.and_eq_true,decide_eq_true_eq,List.all_eq_true]at h;exact⟨h.1,λi hi=>h.2 _ (bF _ hi)⟩
section
variable {J : Type} {N m : Nat} {l : List (List Int)}
theorem ej(h:P l=true)(k2:List (List Int)->List (List Int)->Int->Int->Int->Option J)(s e:Int){j:Nat}(hj:j<l.length):∀(M i:Nat),1<=i->i<=l.length->l.length-i<M ->
  Z23L N m k2 M (((l.take i).drop 1).map (ef j)) l s e (j:Int) (i:Int)=k2 ((l.drop 1).map (ef j)) l s e (j:Int):=by
 obtain⟨h4,hr⟩:=tU h;intro M;induction M with
 |zero=>intro i _ _ h;omega
 |succ M ih =>
  intro i h1 hi hM;simp only[Z23L,Z24];by_cases hl:i<l.length
  ·have hrow:=hr i hl;have w1:ab ((j:Int)+1)=((j+1:Nat):Int):=bA (by rw[bD];omega);have w2:ab ((i:Int)+1)=((i+1:Nat):Int):=bA (by rw[bD];omega);have b1:av (i:Int) l.length=true:=aR hl;have z1:decide ((i:Int)<(l.length:Int))=true:=dt (by omega);have c1:(bE 0 (j:Int)&&bE (j:Int) (l.getD i []).length)=true:=by rw[hrow];simp only[bE,Bool.and_eq_true,decide_eq_true_eq];first | omega | (constructor<;>simp<;>omega)
   have c2:(bE 0 ((j+1:Nat):Int)&&bE ((j+1:Nat):Int) (l.getD i []).length)=true:=by rw[hrow];simp only[bE,Bool.and_eq_true,decide_eq_true_eq];first | omega | (constructor<;>simp<;>omega)
   have q1:Nat.blt (([]:List Int).length+((l.getD i []).take j).length) 1099511627776=true:=Nat.ble_eq_true_of_le (by rw[List.length_nil,List.length_take,hrow];omega);have q2:Nat.blt ((([]:List Int)++(l.getD i []).take j).length+((l.getD i []).drop (j+1)).length) 1099511627776=true:=Nat.ble_eq_true_of_le (by rw[List.nil_append,List.length_take,List.length_drop,hrow];omega);have q3:∀x:List Int,Nat.blt ((((l.take i).drop 1).map (ef j)).length+([x]:List (List Int)).length) 1099511627776=true:=λx=>Nat.ble_eq_true_of_le (by simp;omega);have e1:((l.take i).drop 1).map (ef j)++[([]:List Int)++(l.getD i []).take j++(l.getD i []).drop (j+1)]=((l.take (i+1)).drop 1).map (ef j):=by rw[<-ta [] hl,List.drop_append_of_le_length (by rw[List.length_take];omega),List.map_append];rfl
   have nx:=ih (i+1) (by omega) (by omega) (by omega);simp only[aC,z1,b1,Int.toNat_natCast,c1,w1,c2,q1,q2,q3,cond_true,bo,fD,w2,e1,nx]
  ·rw[dO (by rw[aC];exact df (by omega)),List.take_of_length_le (by omega)]
def part(l:List (List Int))(j:Nat):Int:=hY j*entL l 0 j*bR (l.length-1) (gD (entL l) j)
theorem MQ(h:P l=true){j:Nat}(hj:j<l.length):P ((l.drop 1).map (ef j))=true/\((l.drop 1).map (ef j)).length=l.length-1/\∀i t,i<l.length-1->entL ((l.drop 1).map (ef j)) i t=gD (entL l) j i t:=by
 obtain⟨h4,hr⟩:=tU h;have hlen:((l.drop 1).map (ef j)).length=l.length-1:=by simp
 refine⟨?_,hlen,λi t hi=>?_⟩;·unfold P;rw[hlen,dt (by omega),Bool.true_and,List.all_eq_true];intro r hr';obtain⟨x,hx,rfl⟩:=List.mem_map.1 hr';have hx':=List.mem_of_mem_drop hx;simp only[P,Bool.and_eq_true,decide_eq_true_eq,List.all_eq_true]at h;have:=h.2 x hx';exact dt (by rw[MO (by omega)];omega)
 ·unfold entL gD;have e1:((l.drop 1).map (ef j)).getD i []=ef j (l.getD (i+1) []):=by rw[List.getD_eq_getElem?_getD,List.getElem?_map,List.getElem?_drop,List.getD_eq_getElem?_getD,show 1+i=i+1 by omega,List.getElem?_eq_getElem (by omega)];rfl
  rw[e1,MP (by rw[hr (i+1) (by omega)];exact hj)]
theorem MR(h:P l=true)(hN:10<=N)(hm:l.length<=m)(h0:0<l.length)(k0:Int->Option J):∀(M j:Nat),j<=l.length->l.length-j<M ->
  Z12L N m k0 M l (ab (aw (part l) j)) (hY j) (j:Int)=k0 (ab (aw (part l) l.length)):=by
 obtain⟨h4,hr⟩:=tU h;intro M;induction M with
 |zero=>intro j _ h;omega
 |succ M ih =>
  intro j hj hM;simp only[Z12L,Z13,Z14];by_cases hl:j<l.length
  ·rw[eI (by rw[aC];exact dt (by omega))];simp only[Z15,Z16,Z17,Z18,Z19,Z20,Z21,Z22,Z23];have key:=ej (N:=N) (m:=m) h (λrest6 l0 sum3 sign4 j5=>Z25 N m rest6 l0 sum3 sign4 j5 λl0 sum3 sign4 j5=>Z26 N m l0 sum3 sign4 j5 λl0 sum3 sign4 j5=>Z12L N m k0 M l0 sum3 sign4 j5) (ab (aw (part l) j)) (hY j) hl N 1 (Nat.le_refl _) (by omega) (by omega);have r1:((l.take 1).drop 1).map (ef j)=[]:=by rw[List.drop_of_length_le (by rw[List.length_take];omega)];rfl
   rw[r1]at key;refine key.trans ?_;obtain⟨p1,p2,p3⟩:=MQ h hl;have b1:av (0:Int) l.length=true:=aR (j:=0) (by omega);have b2:av (j:Int) (l.getD 0 []).length=true:=aR (by rw[hr 0 h0];exact hl);have q:(Nat.blt (mu ((l.drop 1).map (ef j))) m&&P ((l.drop 1).map (ef j)))=true:=by rw[p1,Bool.and_true];unfold mu;rw[p2];exact Nat.ble_eq_true_of_le (by omega)
   have e0:(l.getD 0 []).getD j 0=entL l 0 j:=rfl;have e1:ab (ab (aw (part l) j)+ab (ab (hY j*entL l 0 j)*g ((l.drop 1).map (ef j))))=ab (aw (part l) (j+1)):=by unfold g;rw[p2,tu (l.length-1) (B:=gD (entL l) j) (λi t hi _=>p3 i t hi),tv,CK,qy,qz];rfl
   have e2:ab (0-hY j)=hY (j+1):=by
    unfold hY;by_cases h2:j%2=0;·rw[if_pos h2,if_neg (by omega)];exact aL (by omega) (by omega)
    ·rw[if_neg h2,if_pos (by omega)];exact aL (by omega) (by omega)
   simp only[Z25,aC,b1,b2,q,cond_true,Int.toNat_natCast,e0,e1,e2,Z26];rw[bA (by rw[bD];omega)];exact ih (j+1) (by omega) (by omega)
  ·have:j=l.length:=by omega
   subst this;rw[dO (by rw[aC];exact df (by omega))]
end
def ok:Spec:=λm l hb hp=>⟨100,λN hN=>by
 simp only[Bool.and_eq_true,Nat.blt_eq]at hp;obtain⟨hm,h⟩:=hp;unfold mu at hm;simp only[Z0,Z1,Z2,Z3,aC];by_cases h0:l.length=0;·rw[dt (by omega)];unfold g;rw[h0];rfl
 ·rw[df (by omega),cond_false];simp only[Z4,Z5,Z6,Z7,Z8,Z9,Z10,Z11,Z12];have h4:=(tU h).1;have key:=MR (J:=Unit×(Int×Unit)) (N:=N) h (by omega) (m:=m) (by omega) (by omega) (λs=>Z27 N m s λt2=>some ((),(t2,()))) N 0 (Nat.zero_le _) (by omega);have e:ab (aw (part l) 0)=0:=mF;rw[e]at key;refine key.trans ?_;simp only[Z27,g];obtain⟨c,hc⟩:∃c,l.length=c+1:=⟨l.length-1,by omega⟩;have:bR l.length (entL l)=aw (part l) l.length:=by rw[hc,bR];refine dx _ λj _=>?_;unfold part;rw[hc];rfl
  rw[this]⟩
end bn
namespace dE
def P(m:Int×Int×List Int)(k:Int):Bool:=az m&&(decide (0<=k)&&decide (k<m.1))
def g(m:Int×Int×List Int)(k:Int):Int:=kZ (dI m k.toNat)
def Z1{J:Type}(N:Nat)(a:MT)(b:Int)(kn:I3 (LI->Option J)):Option J :=
 kn b a.1 a.2.1 a.2.2
def Z3{J:Type}(N:Nat)(a b c:Int)(d:LI)(kn:Int->Bool->Bool->I2 (LI->Option J)):Option J :=
 kn a false false b c d
def Z6{J:Type}(N:Nat)(b:Int)(c d:Bool)(a e:Int)(f:LI)(kn:Int->Bool->Bool->I3 (LI->Option J)):Option J :=
 kn b c d a a e f
def Z9{J:Type}(N:Nat)(c:Int)(h f:Bool)(a d b:Int)(e:LI)(kn:Int->Bool->Bool->I3 (LI->Option J))(k0:Bool->Bool->Option J):Option J :=
 cond (lk N (decide (a<b)))
 (
  cond (h)
  (
   cond (f)
   (
    kn c true true (ab (a+1)) d b e)
   (
    cond (lk N (bz.P (d,(b,e)) a c)) (
     kn c true (lk N (decide ((bz.g (d,(b,e)) a c)<0))) (ab (a+1)) d b e) none))
  (
   cond (lk N (bz.P (d,(b,e)) a c)) (
    cond (f)
    (
     kn c (lk N (decide (0<(bz.g (d,(b,e)) a c)))) true (ab (a+1)) d b e)
    (
     cond (lk N (bz.P (d,(b,e)) a c)) (
      kn c (lk N (decide (0<(bz.g (d,(b,e)) a c)))) (lk N (decide ((bz.g (d,(b,e)) a c)<0))) (ab (a+1)) d b e) none)) none))
 (
  k0 h f)
def Z8L{J:Type}(N:Nat)(k0:Bool->Bool->Option J):Nat->Int->Bool->Bool->Int->Int->Int->LI->Option J
 |0,_,_,_,_,_,_,_=>none
 |M+1,a,b,c,d,e,f,g=>Z9 N a b c d e f g (λa b c d e f g=>Z8L N k0 M a b c d e f g) k0
def Z8 N a b c d e f g k0:=(Z8L N k0 N a b c d e f g:Option J)
def Z7 N a b c d e f g kn:=(Z8 N a b c d e f g kn:Option J)
def Z5 N a b c d e f kn:=(Z6 N a b c d e f (λa b c g d e f=>Z7 N a b c g d e f kn):Option J)
def Z10{J:Type}(N:Nat)(a b:Bool)(kr:Int->Option J):Option J :=
 cond (a)
 (
  cond (!(b))
  (
   kr 1)
  (
   cond (b)
   (
    cond (!(a))
    (
     kr (-1))
    (
     kr 0))
   (
    kr 0)))
 (
  cond (b)
  (
   cond (!(a))
   (
    kr (-1))
   (
    kr 0))
  (
   kr 0))
def Z4 N c a b d e f kr:=(Z5 N c a b d e f (λa b=>Z10 N a b kr):Option J)
def Z2 N a b c d kr:=(Z3 N a b c d (λa e f b c d=>Z4 N a e f b c d kr):Option J)
def Z0 N b a kr:=(Z1 N b a (λa c d e=>Z2 N a c d e kr):Option J)
def Spec:Prop:=∀ (v0:MT) (v1:Int),Ty.bd (.pair (.int .i64) (.pair (.int .i64) (.sl 0 (.int .i64)))) v0->P v0 v1=true->∃N0,∀N,N0<=N->Z0 N v0 v1 (λv4=>some ((),(v4,())))=some ((),((g v0 v1),()))
def loop{J:Type}(N:Nat)(k0:Bool->Bool->Option J){m:Int×Int×List Int}(hd:az m=true){k:Nat}(hk:k<m.1.toNat):∀(M t:Nat) (u d:Bool),t<=m.2.1.toNat-m.1.toNat->m.2.1.toNat-m.1.toNat-t<M ->
  Z8L N k0 M (k:Int) u d ((m.1.toNat+t:Nat):Int) m.1 m.2.1 m.2.2=k0 (u||(((dI m k).drop t).any λx=>decide (0<x))) (d||(((dI m k).drop t).any λx=>decide (x<0))):=by
 obtain⟨n,r,hn,hr,hn1,hn5,hnr,hr8,hl⟩:=aN hd;have hcl:(dI m k).length=m.2.1.toNat-m.1.toNat:=by simp[dI]
 intro M;induction M with
 |zero=>intro t _ _ _ h;omega
 |succ M ih =>
  intro t u d ht hM;simp only[Z8L,Z9];by_cases h:t<m.2.1.toNat-m.1.toNat;·have hP:bz.P (m.1,(m.2.1,m.2.2)) ((m.1.toNat+t:Nat):Int) (k:Int)=true:=gW hd (by omega) hk;have hA:bz.g (m.1,(m.2.1,m.2.2)) ((m.1.toNat+t:Nat):Int) (k:Int)=ae m (m.1.toNat+t) k:=gA (by omega) _ _;have hg:(dI m k).getD t 0=ae m (m.1.toNat+t) k:=iI h 0;rw[ct (dt (by omega)),iH 0 (by omega),List.any_cons,List.any_cons,hg];simp only[aC,hP,hA,cond_true];rw[bA (by rw[bD];omega)];have ih':=λu d=>ih (t+1) u d h (by omega);simp only[<-Nat.add_assoc]at ih';simp only[ih'];cases u<;>cases d<;>simp
  ·rw[cf (df (by omega)),List.drop_of_length_le (by omega)];simp
def ok:Spec:=λm k hb hp=>⟨10,λN hN=>by simp only[P,Bool.and_eq_true,decide_eq_true_eq]at hp;obtain⟨hd,h0,h1⟩:=hp;obtain⟨x,rfl⟩:=Int.eq_ofNat_of_zero_le h0;obtain⟨n,r,hn,hr,hn1,hn5,hnr,hr8,hl⟩:=aN hd;simp only[Z0,Z1,Z2,Z3,Z4,Z5,Z6,Z7,Z8];have:=loop (J:=Unit×Int×Unit) N (λsome5 none6=>Z10 N some5 none6 (λt4=>some ((),(t4,())))) hd (k:=x) (by omega) N 0 false false (by omega) (by omega);rw[Nat.add_zero,show((m.1.toNat:Nat):Int)=m.1 by omega,List.drop_zero]at this;refine this.trans ?_;simp only[Bool.false_or,Z10,g,Int.toNat_natCast];cases hu:((dI m x).any λx=>decide (0<x))<;>cases hd':((dI m x).any λx=>decide (x<0))<;>rw[xP hu hd']<;>rfl⟩
end dE
namespace gc
def g(m:Int×Int×List Int)(ks:List Int)(k:Int):Int :=
 if((aZ.g m ks).2&&bX k 0 (m.1-1))=true then kZ (dI ((aZ.g m ks).1.getD ks.length (0,(0,[]))) k.toNat)else 0
def Z0{J:Type}(N:Nat)(a:MT)(b:LI)(c:Int)(kr:Int->Option J):Option J :=
 cond (!(lk N ((aZ.g a b).2)))
 (
  kr 0)
 (
  cond (!(lk N ((fy.g c 0 (ab (a.1-1))))))
  (
   kr 0)
  (
   cond (lk N (av (ab (((aZ.g a b).1.length:Int)-1)) (aZ.g a b).1.length)) (
    cond (lk N (dE.P ((aZ.g a b).1.getD (ab (((aZ.g a b).1.length:Int)-1)).toNat (0,(0,[]))) c)) (
     kr (dE.g ((aZ.g a b).1.getD (ab (((aZ.g a b).1.length:Int)-1)).toNat (0,(0,[]))) c)) none) none))
def Spec:Prop:=∀ (v0:MT) (v1:LI) (v2:Int),Ty.bd (.pair (.int .i64) (.pair (.int .i64) (.sl 0 (.int .i64)))) v0->Ty.bd (.sl 0 (.int .i64)) v1->∃N0,∀N,N0<=N->Z0 N v0 v1 v2 (λv6=>some ((),(v6,())))=some ((),((g v0 v1 v2),()))
def ok:Spec:=λm ks k hb hv=>⟨0,λN hN=>by
 simp only[Z0,aC,fy.g];unfold g;cases h:(aZ.g m ks).2;·rfl
 obtain⟨h1,h2,h3,h4,h5⟩:=aZ.last h;obtain⟨n,r,hn,hr,hn1,hn5,hnr,hr8,hl⟩:=aN h5;have e:ab (((aZ.g m ks).1.length:Int)-1)=(ks.length:Int):=by rw[h1,aL (by omega) (by omega)];omega
 rw[aL (n:=m.1-1) (by omega) (by omega),e,Int.toNat_natCast];cases hk:bX k 0 (m.1-1);·rfl
 have hk':=cy.1 hk;have hP:dE.P ((aZ.g m ks).1.getD ks.length (0,(0,[]))) k=true:=by simp only[dE.P,Bool.and_eq_true,decide_eq_true_eq];exact⟨h2,by omega,by omega⟩
 rw[hP,aR (by omega)];rfl⟩
end gc
namespace dZ
def P(m:Int×Int×List Int)(i j:Int):Bool:=az m&&(bX i 0 (m.2.1-1)&&bX j 0 (m.1-1))
def g(m:Int×Int×List Int)(i j:Int):Int:=m.2.2.getD (i*m.1+j).toNat 0
def Z0{J:Type}(N:Nat)(a:MT)(b c:Int)(kr:Int->Option J):Option J :=
 cond (lk N (decide ((a.2.2.length:Int)<=(ab ((ab (b*a.1))+c)))))
 (
  kr 0)
 (
  cond (lk N (av (ab ((ab (b*a.1))+c)) a.2.2.length)) (
   kr (a.2.2.getD (ab ((ab (b*a.1))+c)).toNat 0)) none)
def Spec:Prop:=∀ (v0:MT) (v1 v2:Int),Ty.bd (.pair (.int .i64) (.pair (.int .i64) (.sl 0 (.int .i64)))) v0->P v0 v1 v2=true->∃N0,∀N,N0<=N->Z0 N v0 v1 v2 (λv6=>some ((),(v6,())))=some ((),((g v0 v1 v2),()))
def at_nat{m:Int×Int×List Int}(h:0<=m.1)(i j:Nat):g m (i:Int) (j:Int)=ae m i j:=gA h i j
def ok:Spec:=λm i j hb hp=>⟨0,λN hN=>by
 simp only[P,Bool.and_eq_true,cy]at hp;obtain⟨hd,hi,hj⟩:=hp;obtain⟨n,r,hn,hr,hn1,hn5,hnr,hr8,hl⟩:=aN hd;obtain⟨x,rfl⟩:=Int.eq_ofNat_of_zero_le hi.1;obtain⟨y,rfl⟩:=Int.eq_ofNat_of_zero_le hj.1;have hlt:=fU (n:=n) (r:=r) (i:=x) (j:=y) (by omega) (by omega);have hq:r*n<=8*5:=Nat.mul_le_mul hr8 hn5;have e1:(x:Int)*m.1+(y:Int)=((x*n+y:Nat):Int):=by rw[hn];simp
 have e1':(x:Int)*m.1=((x*n:Nat):Int):=by rw[hn];simp
 have a1:ab ((x:Int)*m.1)=(x:Int)*m.1:=by rw[e1'];exact aL (by omega) (by omega)
 have w1:ab (ab ((x:Int)*m.1)+(y:Int))=(x:Int)*m.1+(y:Int):=by rw[a1,e1];exact aL (by omega) (by omega)
 have ib:av ((x:Int)*m.1+(y:Int)) m.2.2.length=true:=by rw[e1];exact aR (by omega)
 simp only[Z0];rw[w1,cf (df (by rw[e1];omega)),ct ib];rfl⟩
end dZ
namespace a9
def g(_:List Int):Bool:=true
def Z1{J:Type}(N:Nat)(a:List Int)(kn:List Int->Option J):Option J :=
 kn a
def Z3{J:Type}(N:Nat)(a:List Int)(kn:List Int->Option J)(kr:Bool->Option J):Option J :=
 cond (lk N ((kw.g a)))
 (
  kr true)
 (
  kn a)
def Z5{J:Type}(N:Nat)(a:List Int)(kn:LI->LI->I2 (Option J)):Option J :=
 kn (fw.g a).2.2 (fw.g a).1.2.2 (fw.g a).1.1 (fw.g a).1.2.1
def Z7{J:Type}(N:Nat)(a b:LI)(c d:Int)(kn:LI->LL->LI->Bool->I2 (Option J)):Option J :=
 kn a (iu.g (c,(d,b)) a).1 b (lk N ((iu.g (c,(d,b)) a).2)) c d
def Z9{J:Type}(N:Nat)(a:LI)(e:LL)(b:LI)(f:Bool)(c d:Int)(kn:LI->LL->LL->LI->Bool->Bool->I2 (Option J)):Option J :=
 kn a e (aW.g (c,(d,b)) a).1 b f (lk N ((aW.g (c,(d,b)) a).2)) c d
def Z11{J:Type}(N:Nat)(a:LI)(e f:LL)(b:LI)(h i:Bool)(c d:Int)(kn:LI->LL->LL->LI->LI->Bool->Bool->Bool->I4 (Option J)):Option J :=
 kn a e f b (cJ.g (c,(d,b)) a).1.2.2 h i (lk N ((cJ.g (c,(d,b)) a).2)) c d (cJ.g (c,(d,b)) a).1.1 (cJ.g (c,(d,b)) a).1.2.1
def Z13{J:Type}(N:Nat)(d:LI)(e f:LL)(a h:LI)(i j l:Bool)(b c m o:Int)(kn:LI->LL->LL->LI->LI->LI->Bool->Bool->Bool->I4 (Option J)):Option J :=
 kn d e f (jL.g (b,(c,a))) a h i j l b c m o
def Z15{J:Type}(N:Nat)(b:LI)(c d:LL)(e f g:LI)(h i j:Bool)(a l m o:Int)(kn:LI->LL->LL->LI->LI->LI->Bool->Bool->Bool->I5 (Option J)):Option J :=
 kn b c d e f g h i j a a l m o
def Z17{J:Type}(N:Nat)(e:LI)(b c:LL)(d f h:LI)(i j l:Bool)(a m o p q:Int)(kn:LI->LL->LL->LI->LI->LI->I5 (Option J))(kr:Bool->Option J):Option J :=
 cond (!(i))
 (
  kr false)
 (
  cond (!(j))
  (
   kr false)
  (
   cond (!(l))
   (
    kr false)
   (
    cond (!(lk N ((dz.g b a))))
    (
     kr false)
    (
     cond (!(lk N ((dz.g c a))))
     (
      kr false)
     (
      cond (lk N (!(decide ((d.length:Int)=a))))
      (
       kr false)
      (
       kn e b c d f h a m o p q))))))
def Z19{J:Type}(N:Nat)(c:LI)(a b:LL)(d e f:LI)(h i j l m:Int)(kn:LI->LL->LL->LI->LI->LI->I7 (Option J)):Option J :=
 cond (lk N (bn.P a)) (
  cond (lk N (bn.P b)) (
   kn c a b d e f h (bn.g a) (bn.g b) i j l m) none) none
def Z21{J:Type}(N:Nat)(b:LI)(c d:LL)(e f g:LI)(h a i j l m o:Int)(kn:LI->LL->LL->LI->LI->LI->I5 (Option J))(kr:Bool->Option J):Option J :=
 cond (lk N (!(decide ((ab (a*a))=1))))
 (
  kr false)
 (
  cond (lk N (!(decide (a=i))))
  (
   kr false)
  (
   kn b c d e f g h j l m o))
def Z24{J:Type}(N:Nat)(a:LI)(b c:LL)(d e f:LI)(g h i j l:Int)(kn:LI->LL->LL->LI->LI->LI->I6 (Option J)):Option J :=
 kn a b c d e f g 0 h i j l
def Z28{J:Type}(N:Nat)(c:LI)(d e:LL)(f g h:LI)(a b i j l m:Int)(kn:LI->LL->LL->LI->LI->LI->I6 (Option J))(k0:Option J):Option J :=
 cond (lk N (decide (b<a)))
 (
  kn c d e f g h a b i j l m)
 (
  k0)
def Z32{J:Type}(N:Nat)(a:LI)(f h:LL)(i b j:LI)(l c d e m o:Int)(kn:LI->LL->LL->LI->LI->LI->I6 (Option J))(kr:Bool->Option J):Option J :=
 cond (lk N (!(decide ((ab ((gc.g (d,(e,b)) a c)*(gc.g (d,(e,b)) a c)))=1))))
 (
  kr false)
 (
  kn a f h i b j l c d e m o)
def Z34{J:Type}(N:Nat)(a:LI)(b c:LL)(d e f:LI)(g h i j l m:Int)(kn:LI->LL->LL->LI->LI->LI->I7 (Option J)):Option J :=
 kn a b c d e f g h 0 i j l m
def Z38{J:Type}(N:Nat)(b:LI)(c d:LL)(e f g:LI)(a h i j l m o:Int)(kn:LI->LL->LL->LI->LI->LI->I7 (Option J))(k2:LI->LL->LL->LI->LI->LI->I6 (Option J)):Option J :=
 cond (lk N (decide (i<a)))
 (
  kn b c d e f g a h i j l m o)
 (
  k2 b c d e f g a h j l m o)
def Z42{J:Type}(N:Nat)(a:LI)(b c:LL)(d e f:LI)(g h i j l m o:Int)(kn:LI->LL->LL->LI->LI->LI->I8 (Option J)):Option J :=
 kn a b c d e f g h i 0 j l m o
def Z44{J:Type}(N:Nat)(a:LI)(b c:LL)(d e f:LI)(g h i j l m o p:Int)(kn:LI->LL->LL->LI->LI->LI->Int->I8 (Option J)):Option J :=
 kn a b c d e f g h i j 0 l m o p
def Z46{J:Type}(N:Nat)(a:LI)(b c:LL)(d e f:LI)(g h i j l m o p q:Int)(kn:LI->LL->LL->LI->LI->LI->I2 (I8 (Option J))):Option J :=
 kn a b c d e f g h i j l 0 m o p q
def Z49{J:Type}(N:Nat)(a:LI)(b c:LL)(d e f:LI)(g h i j l m o p q r:Int)(kn:LI->LL->LL->LI->LI->LI->I3 (I8 (Option J))):Option J :=
 kn a b c d e f g h i j l m 0 o p q r
def Z52{J:Type}(N:Nat)(q:LI)(c d:LL)(f h i:LI)(p b e r s t a j l m o:Int)(kn:LI->LL->LL->LI->LI->LI->I3 (I8 (Option J)))(k4:LI->LL->LL->LI->LI->LI->I2 (I8 (Option J))):Option J :=
 cond (lk N (decide (a<p)))
 (
  cond (lk N (av a d.length)) (
   cond (lk N (av b (d.getD a.toNat []).length)) (
    cond (lk N (av a f.length)) (
     cond (lk N (av a c.length)) (
      cond (lk N (av e (c.getD a.toNat []).length)) (
       cond (lk N (av b d.length)) (
        cond (lk N (av a (d.getD b.toNat []).length)) (
         cond (lk N (dZ.P (m,(o,i)) a e)) (
          cond (lk N (av a c.length)) (
           cond (lk N (av e (c.getD a.toNat []).length)) (
            cond (lk N (dZ.P (j,(l,h)) b a)) (
             kn q c d f h i p b e (ab (r+(ab ((ab (((d.getD a.toNat []).getD b.toNat 0)*(f.getD a.toNat 0)))*((c.getD a.toNat []).getD e.toNat 0))))) (ab (s+(ab (((d.getD b.toNat []).getD a.toNat 0)*(dZ.g (m,(o,i)) a e))))) (ab (t+(ab ((dZ.g (j,(l,h)) b a)*((c.getD a.toNat []).getD e.toNat 0))))) (ab (a+1)) j l m o) none) none) none) none) none) none) none) none) none) none) none)
 (
  k4 q c d f h i p b e r s t j l m o)
def Z51L{J:Type}(N:Nat)(k4:LI->LL->LL->LI->LI->LI->I2 (I8 (Option J))):Nat->LI->LL->LL->LI->LI->LI->Int->Int->Int->Int->Int->Int->Int->Int->Int->Int->Int->Option J
 |0,_,_,_,_,_,_,_,_,_,_,_,_,_,_,_,_,_=>none
 |M+1,a,b,c,d,e,f,g,h,i,j,l,m,o,p,q,r,s=>Z52 N a b c d e f g h i j l m o p q r s (λa b c d e f g h i j l m o p q r s=>Z51L N k4 M a b c d e f g h i j l m o p q r s) k4
def Z51 N a b c d e f g h i j l m o p q r s k4:=(Z51L N k4 N a b c d e f g h i j l m o p q r s:Option J)
def Z50 N a b c d e f g h i j l m o p q r s kn:=(Z51 N a b c d e f g h i j l m o p q r s kn:Option J)
def Z48 N a b c d e f g h i j l m o p q r kn:=(Z49 N a b c d e f g h i j l m o p q r (λa b c d e f g h i j l m s o p q r=>Z50 N a b c d e f g h i j l m s o p q r kn):Option J)
def Z53{J:Type}(N:Nat)(d:LI)(e f:LL)(b g h:LI)(i a c p q r j l m o:Int)(kn:LI->LL->LL->LI->LI->LI->I7 (Option J))(kr:Bool->Option J):Option J :=
 cond (lk N (!(decide (q=r))))
 (
  kr false)
 (
  cond (lk N (!(decide (a=c))))
  (
   cond (lk N (!(decide (p=0))))
   (
    kr false)
   (
    cond (lk N (decide (a=c)))
    (
     cond (lk N (av a b.length)) (
      cond (lk N (!(decide (p=(b.getD a.toNat 0)))))
      (
       kr false)
      (
       kn d e f b g h i a c j l m o)) none)
    (
     kn d e f b g h i a c j l m o)))
  (
   cond (lk N (decide (a=c)))
   (
    cond (lk N (av a b.length)) (
     cond (lk N (!(decide (p=(b.getD a.toNat 0)))))
     (
      kr false)
     (
      kn d e f b g h i a c j l m o)) none)
   (
    kn d e f b g h i a c j l m o)))
def Z47 N a b c d e f g h i j l m o p q r kn kr:=(Z48 N a b c d e f g h i j l m o p q r (λa b c d e f g h i j l m o p q r=>Z53 N a b c d e f g h i j l m o p q r kn kr):Option J)
def Z45 N a b c d e f g h i j l m o p q kn kr:=(Z46 N a b c d e f g h i j l m o p q (λa b c d e f g h i j l r m o p q=>Z47 N a b c d e f g h i j l r m o p q kn kr):Option J)
def Z43 N a b c d e f g h i j l m o p kn kr:=(Z44 N a b c d e f g h i j l m o p (λa b c d e f g h i j q l m o p=>Z45 N a b c d e f g h i j q l m o p kn kr):Option J)
def Z41 N a b c d e f g h i j l m o kn kr:=(Z42 N a b c d e f g h i j l m o (λa b c d e f g h i p j l m o=>Z43 N a b c d e f g h i p j l m o kn kr):Option J)
def Z40 N a b c d e f g h i j l m o kn kr:=(Z41 N a b c d e f g h i j l m o kn kr:Option J)
def Z54{J:Type}(N:Nat)(a:LI)(b c:LL)(d e f:LI)(g h i j l m o:Int)(kn:LI->LL->LL->LI->LI->LI->I7 (Option J)):Option J :=
 kn a b c d e f g h (ab (i+1)) j l m o
def Z39 N a b c d e f g h i j l m o kn kr:=(Z40 N a b c d e f g h i j l m o (λa b c d e f g h i j l m o=>Z54 N a b c d e f g h i j l m o kn) kr:Option J)
def Z37 N a b c d e f g h i j l m o kn k2 kr:=(Z38 N a b c d e f g h i j l m o (λa b c d e f g h i j l m o=>Z39 N a b c d e f g h i j l m o kn kr) k2:Option J)
def Z36L{J:Type}(N:Nat)(k2:LI->LL->LL->LI->LI->LI->I6 (Option J))(kr:Bool->Option J):Nat->LI->LL->LL->LI->LI->LI->Int->Int->Int->Int->Int->Int->Int->Option J
 |0,_,_,_,_,_,_,_,_,_,_,_,_,_=>none
 |M+1,a,b,c,d,e,f,g,h,i,j,l,m,o=>Z37 N a b c d e f g h i j l m o (λa b c d e f g h i j l m o=>Z36L N k2 kr M a b c d e f g h i j l m o) k2 kr
def Z36 N a b c d e f g h i j l m o k2 kr:=(Z36L N k2 kr N a b c d e f g h i j l m o:Option J)
def Z35 N a b c d e f g h i j l m o kn kr:=(Z36 N a b c d e f g h i j l m o kn kr:Option J)
def Z33 N a b c d e f g h i j l m kn kr:=(Z34 N a b c d e f g h i j l m (λa b c d e f g h o i j l m=>Z35 N a b c d e f g h o i j l m kn kr):Option J)
def Z31 N a b c d e f g h i j l m kn kr:=(Z32 N a b c d e f g h i j l m (λa b c d e f g h i j l m=>Z33 N a b c d e f g h i j l m kn kr) kr:Option J)
def Z30 N a b c d e f g h i j l m kn kr:=(Z31 N a b c d e f g h i j l m kn kr:Option J)
def Z55{J:Type}(N:Nat)(a:LI)(b c:LL)(d e f:LI)(g h i j l m:Int)(kn:LI->LL->LL->LI->LI->LI->I6 (Option J)):Option J :=
 kn a b c d e f g (ab (h+1)) i j l m
def Z29 N a b c d e f g h i j l m kn kr:=(Z30 N a b c d e f g h i j l m (λa b c d e f g h i j l m=>Z55 N a b c d e f g h i j l m kn) kr:Option J)
def Z27 N a b c d e f g h i j l m kn k0 kr:=(Z28 N a b c d e f g h i j l m (λa b c d e f g h i j l m=>Z29 N a b c d e f g h i j l m kn kr) k0:Option J)
def Z26L{J:Type}(N:Nat)(k0:Option J)(kr:Bool->Option J):Nat->LI->LL->LL->LI->LI->LI->Int->Int->Int->Int->Int->Int->Option J
 |0,_,_,_,_,_,_,_,_,_,_,_,_=>none
 |M+1,a,b,c,d,e,f,g,h,i,j,l,m=>Z27 N a b c d e f g h i j l m (λa b c d e f g h i j l m=>Z26L N k0 kr M a b c d e f g h i j l m) k0 kr
def Z26 N a b c d e f g h i j l m k0 kr:=(Z26L N k0 kr N a b c d e f g h i j l m:Option J)
def Z25 N a b c d e f g h i j l m kn kr:=(Z26 N a b c d e f g h i j l m kn kr:Option J)
def Z23 N a b c d e f g h i j l kn kr:=(Z24 N a b c d e f g h i j l (λa b c d e f g m h i j l=>Z25 N a b c d e f g m h i j l kn kr):Option J)
def Z56{J:Type}(N:Nat) (kr:Bool->Option J):Option J :=
 kr true
def Z22 N a b c d e f g h i j l kr:=(Z23 N a b c d e f g h i j l (Z56 N kr) kr:Option J)
def Z20 N a b c d e f g m o h i j l kr:=(Z21 N a b c d e f g m o h i j l (λa b c d e f g h i j l=>Z22 N a b c d e f g h i j l kr) kr:Option J)
def Z18 N a b c d e f g h i j l kr:=(Z19 N a b c d e f g h i j l (λa b c d e f g m o h i j l=>Z20 N a b c d e f g m o h i j l kr):Option J)
def Z16 N a b c d e f m o p g h i j l kr:=(Z17 N a b c d e f m o p g h i j l (λa b c d e f g h i j l=>Z18 N a b c d e f g h i j l kr) kr:Option J)
def Z14 N a b c d e f g h i j l m o kr:=(Z15 N a b c d e f g h i j l m o (λa b c d e f g h i p j l m o=>Z16 N a b c d e f g h i p j l m o kr):Option J)
def Z12 N a b c d e f g h i j l m kr:=(Z13 N a b c d e f g h i j l m (λa b c o d e f g h i j l m=>Z14 N a b c o d e f g h i j l m kr):Option J)
def Z10 N a b c d e f g h kr:=(Z11 N a b c d e f g h (λa b c d i e f j g h l m=>Z12 N a b c d i e f j g h l m kr):Option J)
def Z8 N a b c d e f kr:=(Z9 N a b c d e f (λa b g c d h e f=>Z10 N a b g c d h e f kr):Option J)
def Z6 N a b c d kr:=(Z7 N a b c d (λa e b f c d=>Z8 N a e b f c d kr):Option J)
def Z4 N a kr:=(Z5 N a (λb c d e=>Z6 N b c d e kr):Option J)
def Z2 N a kr:=(Z3 N a (λa=>Z4 N a kr) kr:Option J)
def Z0 N a kr:=(Z1 N a (λa=>Z2 N a kr):Option J)
def Spec:Prop:=∀ (v0:List Int),Ty.bd (.sl 0 (.int .u8)) v0->∃N0,∀N,N0<=N->Z0 N v0 (λv2=>some ((),(v2,())))=some ((),((g v0),()))
def move{b:List Int}{s:bN.S}(h:gF s.2):gF (bN.moveS b s).2:=by
 obtain⟨n,S,n1,n4,hS,hX,hx⟩:=id h;have hx1:=hx.fit.2.1;have hr:=ao.range (b:=b) (r:=s.1) (n:=s.2.1) (by omega) (by omega);unfold bN.moveS;by_cases hc:(fb.g s.2 (ao.g b s.1 s.2.1).2).2=true;·rw[if_pos hc,bN.mut_step hc];exact⟨n,S,n1,n4,hS,hX,hx.mut hS (by omega)⟩
 ·rw[if_neg hc];exact h
def DF{b:List Int}:∀(c:Nat) {s:bN.S},gF s.2->gF (bN.walkS b c s).2
 |0,_,h=>h
 |c+1,s,h=>DF c (move h)
def moved{b:List Int}{r:Int×Int}{x:Int×Int×List Int}(h:gF x):gF (bN.g b r x).2:=by have hw:gF (bN.walked b r x).2:=DF _ h;obtain⟨n,S,n1,n4,hS,hX,hx⟩:=id hw;have hn:=cj.names (b:=b) (r:=(bN.walked b r x).1) n;have hx1:=hx.fit.2.1;show gF (b9 (bN.walked b r x).2 (cj.g b (bN.walked b r x).1 (bN.walked b r x).2.1).2);rw[hx1];exact⟨n,S,n1,n4,hS,hX,hx.ren hn⟩
def hf(p:Int×Int×List Int)(k:Nat)(hp:ig p)(hk:k<p.1.toNat):(bK.g p (k:Int)).2=aS (aI p k)/\((bK.g p (k:Int)).2=true->(bK.g p (k:Int)).1=aI p k):=by
 have hq:=L7 hp;have hin:bX (k:Int) 0 (p.1-1)=true:=cy.2 (by omega);unfold bK.g;rw[om,hq,hin,Int.toNat_natCast,CR hq hk,Bool.true_and,Bool.true_and];cases aS (aI p k);·exact⟨rfl,λh=>by cases h⟩
 ·exact⟨rfl,λ_=>rfl⟩
def yG{n:Nat}{e:Int×Int×List Int}(h1:e.1=(n:Int))(h2:e.2.1=2*(n:Int)){k j:Nat}(hk:k<n)(hj:j<n):(cT e).getD k []=dX e (n+k)/\(dX e (n+k)).getD j 0=cF n e k j/\(cT e).length=n/\(dX e (n+k)).length=n:=by
 have a1:e.1.toNat=n:=by omega
 have a2:e.2.1.toNat-e.1.toNat=n:=by omega
 refine⟨?_, ?_,by simp[cT,a2],by simp[dX,a1]⟩;·unfold cT;rw[a2,iI hk,a1]
 ·unfold dX;rw[a1,iI hj]
def DG{f h:Nat->Int}:∀n,(∀t,t<n->f t%18446744073709551616=h t%18446744073709551616)->aw f n%18446744073709551616=aw h n%18446744073709551616
 |0,_=>rfl
 |n+1,e=>by have a:=DG n λt ht=>e t (by omega);have b:=e n (by omega);rw[aw,aw];omega
def DH:∀(n:Nat) {A B:Nat->Nat->Int},(∀i j,i<n->j<n->A i j%18446744073709551616=B i j%18446744073709551616)->bR n A%18446744073709551616=bR n B%18446744073709551616
 |0,_,_,_=>rfl
 |n+1,A,B,h=>by
  rw[bR,bR];refine DG _ λj hj=>?_;have a:=h 0 j (by omega) hj;have b:=DH n (A:=gD A j) (B:=gD B j) λi t hi ht=>by
   unfold gD;split;·exact h _ _ (by omega) (by omega)
   ·exact h _ _ (by omega) (by omega)
  rw[Int.mul_assoc,Int.mul_assoc,Int.mul_emod,Int.mul_emod (A 0 j),a,b,<-Int.mul_emod (B 0 j),<-Int.mul_emod]
section
variable {n : Nat} {S : List (List (List Int))} {m0 : Nat → Nat → Int} {d : Nat → Int} {p : Int × Int × List Int} {gf : Nat → Nat → Int}
theorem MS(hS:ou n S)(h:iZ n S m0 d p gf){k:Nat}(hk:k<n):kZ (dI p k)*kZ (dI p k)=1:=by
 obtain⟨s,hs,hc⟩:=h.sgn hS hk;have e1:p.1.toNat=n:=by have:=h.p1;omega
 have e2:p.2.1.toNat-p.1.toNat=n:=by have:=h.p2;omega
 have hcol:dI p k=(List.range n).map λt=>cF n p t k:=by unfold dI;rw[e2,e1]
 have hne:∃t,t<n/\cF n p t k≠0:=by refine Classical.byContradiction λhno=>?_;have hz:∀t,t<n->cF n p t k=0:=λt ht=>Classical.byContradiction λe=>hno ⟨t,ht,e⟩;have:=h.dual.gdc k k hk hk;rw[if_pos rfl,dx n (h:=λ_=>0) (λt ht=>by rw[hz t ht,Int.mul_zero]),qv]at this;have:=h.dual.dpos k hk;omega
 obtain⟨t,ht,hnz⟩:=hne;have hct:=hc t ht;rcases hs with rfl|rfl
 ·have hu:((dI p k).any λx=>decide (0<x))=true:=by rw[List.any_eq_true,hcol];exact⟨_,List.mem_map_of_mem (List.mem_range.2 ht),dt (by omega)⟩
  have hd:((dI p k).any λx=>decide (x<0))=false:=by rw[List.any_eq_false,hcol];intro x hx;obtain⟨q,hq,rfl⟩:=List.mem_map.1 hx;have:=hc q (List.mem_range.1 hq);simp only[decide_eq_true_eq];omega
  rw[xP hu hd];rfl
 ·have hu:((dI p k).any λx=>decide (0<x))=false:=by rw[List.any_eq_false,hcol];intro x hx;obtain⟨q,hq,rfl⟩:=List.mem_map.1 hx;have:=hc q (List.mem_range.1 hq);simp only[decide_eq_true_eq];omega
  have hd:((dI p k).any λx=>decide (x<0))=true:=by rw[List.any_eq_true,hcol];exact⟨_,List.mem_map_of_mem (List.mem_range.2 ht),dt (by omega)⟩
  rw[xP hu hd];rfl
end
structure tV(n:Nat)(m p b:Int×Int×List Int)(gf:Nat->Nat->Int)(G:List (List Int))(d:List Int):Prop where
 n5:n<=5
 m1:m.1=(n:Int)
 m2:m.2.1=(n:Int)
 md:az m=true
 p1:p.1=(n:Int)
 p2:p.2.1=2*(n:Int)
 b1:b.1=(n:Int)
 b2:b.2.1=(n:Int)
 bd:az b=true
 gv:mO n gf G
 dl:d.length=n
 gb:∀i j,i<n->j<n->aw (λt=>gf i t*ae b t j) n=aw (λt=>ae m i t*cF n p t j) n
 gdc:∀i j,i<n->j<n->aw (λt=>gf t i*d.getD t 0*cF n p t j) n=if i=j then d.getD i 0 else 0
 db:∀i,i<n->0<d.getD i 0/\d.getD i 0<=3
section
variable {J : Type} {N : Nat} {n : Nat} {m p b : Int × Int × List Int} {gf : Nat → Nat → Int} {G : List (List Int)} {d ks : List Int}
theorem inner(h:tV n m p b gf G d)(k4:List Int->List (List Int)->List (List Int)->List Int->List Int->List Int->Int->Int->Int->Int->Int->Int->Int->Int->Int->Int->Option J){i j:Nat}(hi:i<n)(hj:j<n):∀(M k:Nat),k<=n->n-k<M ->
  Z51L N k4 M ks (cT p) G d m.2.2 b.2.2 (n:Int) (i:Int) (j:Int) (ab (aw (λt=>gf t i*d.getD t 0*cF n p t j) k)) (ab (aw (λt=>gf i t*ae b t j) k)) (ab (aw (λt=>ae m i t*cF n p t j) k)) (k:Int) m.1 m.2.1 b.1 b.2.1 =
   k4 ks (cT p) G d m.2.2 b.2.2 (n:Int) (i:Int) (j:Int) (ab (aw (λt=>gf t i*d.getD t 0*cF n p t j) n)) (ab (aw (λt=>gf i t*ae b t j) n)) (ab (aw (λt=>ae m i t*cF n p t j) n)) m.1 m.2.1 b.1 b.2.1:=by
 have hn5:=h.n5;intro M;induction M with
 |zero=>intro k _ h;omega
 |succ M ih =>
  intro k hk hM;simp only[Z51L,Z52];by_cases hl:k<n
  ·obtain⟨a1,a2,a3,a4⟩:=yG h.p1 h.p2 hl hj;have hG:=h.gv.sq.1;have g1:=h.gv.sq.2 k hl;have g2:=h.gv.sq.2 i hi;have v1:=h.gv.at_ k i hl hi;have v2:=h.gv.at_ i k hi hl;have m1:=h.m1;have m2:=h.m2;have b1:=h.b1;have b2:=h.b2;have z1:decide ((k:Int)<(n:Int))=true:=dt (by omega);have c1:av (k:Int) G.length=true:=aR (by omega);have c2:av (i:Int) G.length=true:=aR (by omega);have c3:av (i:Int) (G.getD k []).length=true:=aR (by omega);have c4:av (k:Int) (G.getD i []).length=true:=aR (by omega);have c5:av (k:Int) d.length=true:=aR (by rw[h.dl];exact hl);have c6:av (k:Int) (cT p).length=true:=aR (by omega);have c7:av (j:Int) (dX p (n+k)).length=true:=aR (by omega);have q1:dZ.P (b.1,(b.2.1,b.2.2)) (k:Int) (j:Int)=true:=by simp only[dZ.P,Bool.and_eq_true,cy];exact⟨h.bd,by omega,by omega⟩
   have q2:dZ.P (m.1,(m.2.1,m.2.2)) (i:Int) (k:Int)=true:=by simp only[dZ.P,Bool.and_eq_true,cy];exact⟨h.md,by omega,by omega⟩
   have r1:dZ.g (b.1,(b.2.1,b.2.2)) (k:Int) (j:Int)=ae b k j:=dZ.at_nat (by omega) k j;have r2:dZ.g (m.1,(m.2.1,m.2.2)) (i:Int) (k:Int)=ae m i k:=dZ.at_nat (by omega) i k;have w1:ab (ab (aw (λt=>gf t i*d.getD t 0*cF n p t j) k)+ab (ab (ab (gf k i)*d.getD k 0)*cF n p k j))=ab (aw (λt=>gf t i*d.getD t 0*cF n p t j) (k+1)):=by rw[tv (gf k i),tv (gf k i*d.getD k 0),qy,qz];rfl
   have w2:ab (ab (aw (λt=>gf i t*ae b t j) k)+ab (ab (gf i k)*ae b k j))=ab (aw (λt=>gf i t*ae b t j) (k+1)):=by rw[tv,qy,qz];rfl
   have w3:ab (ab (aw (λt=>ae m i t*cF n p t j) k)+ab (ae m i k*cF n p k j))=ab (aw (λt=>ae m i t*cF n p t j) (k+1)):=by rw[qy,qz];rfl
   have hw:ab ((k:Int)+1)=((k+1:Nat):Int):=bA (by rw[bD];omega);simp only[aC,z1,c1,c2,c3,c4,c5,c6,a1,c7,a2,q1,q2,r1,r2,v1,v2,Int.toNat_natCast,cond_true,w1,w2,w3,hw];exact ih (k+1) (by omega) (by omega)
  ·have:k=n:=by omega
   subst this;rw[dO (by rw[aC];exact df (by omega))]
theorem mid(hN:20<=N)(h:tV n m p b gf G d)(k2:List Int->List (List Int)->List (List Int)->List Int->List Int->List Int->Int->Int->Int->Int->Int->Int->Option J)(kr:Bool->Option J){i:Nat}(hi:i<n):∀(M j:Nat),j<=n->n-j<M ->
  Z36L N k2 kr M ks (cT p) G d m.2.2 b.2.2 (n:Int) (i:Int) (j:Int) m.1 m.2.1 b.1 b.2.1=k2 ks (cT p) G d m.2.2 b.2.2 (n:Int) (i:Int) m.1 m.2.1 b.1 b.2.1:=by
 have hn5:=h.n5;intro M;induction M with
 |zero=>intro j _ h;omega
 |succ M ih =>
  intro j hj hM;simp only[Z36L,Z37,Z38];by_cases hl:j<n
  ·rw[eI (by rw[aC];exact dt (by omega))];simp only[Z39,Z40,Z41,Z42,Z43,Z44,Z45,Z46,Z47,Z48,Z49,Z50,Z51];have hin:=inner (N:=N) (ks:=ks) h (λks5 c6 g8 d12 m3_2 b10_2 n13 i16 j17 sum18 left19 right20 m3_0 m3_1 b10_0 b10_1=>Z53 N ks5 c6 g8 d12 m3_2 b10_2 n13 i16 j17 sum18 left19 right20 m3_0 m3_1 b10_0 b10_1 (λks5 c6 g8 d12 m3_2 b10_2 n13 i16 j17 m3_0 m3_1 b10_0 b10_1=>Z54 N ks5 c6 g8 d12 m3_2 b10_2 n13 i16 j17 m3_0 m3_1 b10_0 b10_1 λks5 c6 g8 d12 m3_2 b10_2 n13 i16 j17 m3_0 m3_1 b10_0 b10_1=>Z36L N k2 kr M ks5 c6 g8 d12 m3_2 b10_2 n13 i16 j17 m3_0 m3_1 b10_0 b10_1) kr) hi hl N 0 (Nat.zero_le _) (by omega);have e0:ab (aw (λt=>gf t i*d.getD t 0*cF n p t j) 0)=0:=mF;have e1:ab (aw (λt=>gf i t*ae b t j) 0)=0:=mF;have e2:ab (aw (λt=>ae m i t*cF n p t j) 0)=0:=mF;rw[e0,e1,e2]at hin;refine hin.trans ?_;have hdb:=h.db i hi;have hw:ab ((j:Int)+1)=((j+1:Nat):Int):=bA (by rw[bD];omega);have nx:=ih (j+1) (by omega) (by omega);have c1:av (i:Int) d.length=true:=aR (by rw[h.dl];exact hi);rw[h.gb i j hi hl,h.gdc i j hi hl];simp only[Z53,aC,decide_true,Bool.not_true,cond_false];by_cases e:i=j;·subst e;have ew:ab (d.getD i 0)=d.getD i 0:=aL (by omega) (by omega);simp only[decide_true,Bool.not_true,cond_false,cond_true,c1,if_pos,Int.toNat_natCast,ew,Z54,hw];exact nx
   ·have z1:decide ((i:Int)=(j:Int))=false:=df (by omega);simp only[z1,Bool.not_false,cond_true,if_neg e,mF,decide_true,Bool.not_true,cond_false,Z54,hw];exact nx
  ·rw[dO (by rw[aC];exact df (by omega))]
theorem outer(hN:20<=N)(h:tV n m p b gf G d)(hcol:∀i:Nat,i<n->gc.g (m.1,(m.2.1,m.2.2)) ks (i:Int)*gc.g (m.1,(m.2.1,m.2.2)) ks (i:Int)=1)(k0:Option J)(kr:Bool->Option J):∀(M i:Nat),i<=n->n-i<M ->
  Z26L N k0 kr M ks (cT p) G d m.2.2 b.2.2 (n:Int) (i:Int) m.1 m.2.1 b.1 b.2.1=k0:=by
 have hn5:=h.n5;intro M;induction M with
 |zero=>intro i _ h;omega
 |succ M ih =>
  intro i hi hM;simp only[Z26L,Z27,Z28];by_cases hl:i<n;·rw[eI (by rw[aC];exact dt (by omega))];simp only[Z29,Z30,Z31,Z32,aC];rw[hcol i hl,show ab 1=1 from aL (by omega) (by omega)];simp only[decide_true,Bool.not_true,cond_false,Z33,Z34,Z35,Z36];refine(mid hN h _ kr hl N 0 (Nat.zero_le _) (by omega)).trans ?_;simp only[Z55];rw[bA (by rw[bD];omega)];exact ih (i+1) (by omega) (by omega)
  ·rw[dO (by rw[aC];exact df (by omega))]
end
def ok:Spec:=λbb hb=>⟨400,λN hN=>by
 simp only[Z0,Z1,Z2,Z3,aC];cases hbig:kw.g bb
 ·rw[cond_false];have h0:=fw.cur0 hb.1;have hK:gF (ck.g bb (bS.g bb) 4).2.1:=moved MA;have em:(fw.g bb).1=(ck.g bb (bS.g bb) 4).2.1:=rfl;have ek:(fw.g bb).2.2=(cH.g bb (ck.g bb (bS.g bb) 4).1 (ck.g bb (bS.g bb) 4).2.1.1 6).2:=rfl;obtain⟨n,S,n1,n4,hS,hX,hx⟩:=id hK;have hx1:=hx.fit.2.1;have hks:=cH.range (b:=bb) (r:=(ck.g bb (bS.g bb) 4).1) (n:=(ck.g bb (bS.g bb) 4).2.1.1) (most:=6) (by omega) (by omega) (by omega);simp only[Z4,Z5,Z6,Z7,Z8,Z9,Z10,Z11,Z12,Z13,Z14,Z15,aC];rw[em,ek];generalize(cH.g bb (ck.g bb (bS.g bb) 4).1 (ck.g bb (bS.g bb) 4).2.1.1 6).2=ks at hks;generalize(ck.g bb (bS.g bb) 4).2.1=m at hks hx hx1 hK;have hx2:=hx.fit.2.2;obtain⟨ds,hR,hsm⟩:=hx.sml;obtain⟨T,hT,hst⟩:=L6 (hX _ hx.mem);have hok:=hR.ok;have hne:be m≠[]:=by simp only[Bool.and_eq_true,Bool.not_eq_true',decide_eq_false_iff_not]at hok;exact hok.2
  obtain⟨d1,d2,d3⟩:=nZ hne;have en:m.1.toNat=n:=by omega
  obtain⟨i0,g0,t0⟩:=MC n1 n4 hx.fit d2 hst;obtain⟨p,gf,G,b,w1,w2,w3,w4,w5,w6,w7⟩:=Ds n1 n4 hT hx1 hf ks (cS m) m _ _ (λk hk=>by have:=hks.1 k hk;omega) i0 g0 t0;have e0:((m.1,(m.2.1,m.2.2)):Int×Int×List Int)=m:=rfl;have hP:bO.g m=(cS m,true):=by unfold bO.g;rw[om,hok,dt (show m.2.1=m.1 by omega),dt (show 2*m.1<=8 by omega)];rfl
  have hW:aZ.g m ks=cE bK.g (cS m) ks:=by unfold aZ.g;rw[hP,dt (by omega)];rfl
  have hC:iu.g m ks=(cT p,true):=by unfold iu.g;rw[hW,if_pos w1,w2]
  have hGv:aW.g m ks=(G,true):=by unfold aW.g;rw[hW,if_pos w1,en,w3]
  have hM:cJ.g m ks=(b,true):=by unfold cJ.g;rw[om,hok,dt (by omega),Bool.and_self,if_pos rfl,w4]
  have hD:jL.g m=be m:=by unfold jL.g;rw[if_pos hR.shaped]
  have hcol:∀i:Nat,i<n->gc.g m ks (i:Int)*gc.g m ks (i:Int)=1:=λi hi=>by unfold gc.g;rw[hW,w1,w2,cy.2 (⟨by omega,by omega⟩:(0:Int)<=(i:Int)/\(i:Int)<=m.1-1),Int.toNat_natCast];exact MS hT w5 hi
  have hFin:tV n m p b gf G (be m):=by
   refine⟨by omega,hx1,hx2,hx.fit.dim,w5.p1,w5.p2,w7.q1,w7.q2,cD (cR w7.ok.1),w6,by omega,λi j hi hj=>?_,λi j hi hj=>w5.dual.gdc i j hi hj,λi hi=>⟨(d2 i (by omega)).1, ?_⟩⟩;·rw[dx n (λt ht=>by rw[w7.up t j ht hj])];exact w5.dual.gb i j hi hj
   ·have h1:=xE d2 hR.good d3 (i:=i) (by omega);have h2:=(hR.good i (by omega)).1;have h3:=hsm i (by omega);exact Int.le_trans (Int.le_of_dvd h2 h1) h3
  obtain⟨e,he,de1,de2⟩:=w5.det;have l1:(cT p).length=n:=(yG w5.p1 w5.p2 (k:=0) (j:=0) (by omega) (by omega)).2.2.1;have lrow:∀r∈cT p,r.length=n:=λr hr=>by obtain⟨t,_,rfl⟩:=List.mem_map.1 hr;have:=w5.p1;simp[dX];omega
  have grow:∀r∈G,r.length=n:=λr hr=>by obtain⟨t,ht,rfl⟩:=List.getElem_of_mem hr;have:=w6.sq.2 t (by rw[<-w6.sq.1];exact ht);rwa [List.getD_eq_getElem?_getD,List.getElem?_eq_getElem ht]at this
  have s1:dz.g (cT p) m.1=true:=by unfold dz.g;rw[dt (by omega),Bool.true_and,List.all_eq_true];exact λr hr=>dt (by rw[lrow r hr,hx1])
  have s2:dz.g G m.1=true:=by unfold dz.g;rw[dt (by rw[w6.sq.1,hx1]),Bool.true_and,List.all_eq_true];exact λr hr=>dt (by rw[grow r hr,hx1])
  have pc:bn.P (cT p)=true:=by unfold bn.P;rw[dt (by omega),Bool.true_and,List.all_eq_true];exact λr hr=>dt (by rw[lrow r hr,l1])
  have pg:bn.P G=true:=by unfold bn.P;rw[dt (by rw[w6.sq.1];exact n4),Bool.true_and,List.all_eq_true];exact λr hr=>dt (by rw[grow r hr,w6.sq.1])
  have ee:ab e=e:=by rcases he with rfl|rfl<;>exact aL (by omega) (by omega)
  have x1:bn.g (cT p)=e:=by unfold bn.g;rw[l1,tu n (B:=cF n p) (λi j hi hj=>by obtain⟨a1,a2,_,_⟩:=yG w5.p1 w5.p2 hi hj;unfold bn.entL;rw[a1,a2]),de1,ee]
  have x2:bn.g G=e:=by unfold bn.g;rw[w6.sq.1,lf (DH n (B:=gf) λi j hi hj=>by unfold bn.entL;rw[w6.at_ i j hi hj,lh]),de2,ee]
  have x3:ab (e*e)=1:=by rcases he with rfl|rfl<;>exact aL (by omega) (by omega)
  have z0:decide (((be m).length:Int)=m.1)=true:=dt (by omega);simp only[e0,hC,hGv,hM,hD,Z16,Z17,Bool.not_true,cond_false,s1,s2,z0,aC,Z18,Z19,pc,pg,cond_true,x1,x2,Z20,Z21,x3,decide_true,Z22,Z23,Z24,Z25,Z26];have key:=outer (J:=Unit×(Bool×Unit)) (N:=N) (ks:=ks) (by omega) hFin hcol (Z56 N λt2=>some ((),(t2,()))) (λt2=>some ((),(t2,()))) N 0 (Nat.zero_le _) (by omega);rw[hx1]at key ⊢;refine key.trans ?_;rfl
 ·rfl⟩
end a9
end
end Go.Fw
