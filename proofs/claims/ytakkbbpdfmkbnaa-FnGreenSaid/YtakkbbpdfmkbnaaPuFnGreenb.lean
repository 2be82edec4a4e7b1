/- The plain part: what the functions compute, in lists and numbers. Nothing is assumed. -/
import Derived.Test.YtakkbbpdfmkbnaaFwd
import Derived.Test.YtakkbbpdfmkbnaaPuFnGreena
noncomputable section
set_option linter.defProp false
set_option linter.defProp false
set_option linter.unusedSectionVars false
set_option linter.unusedVariables false
set_option linter.unusedSimpArgs false
set_option maxRecDepth 100000
namespace Go.Fw
section
variable {J : Type}
namespace bq
def P(m:Int×Int×List Int)(k:Int):Bool:=bH m&&(decide (0<=k)&&decide (k<m.1))
def g(m:Int×Int×List Int)(k:Int):Int×Int×List Int:=aO m k.toNat
def Z1{J:Type}(N:Nat)(a:MT)(b:Int)(kn:I3 (LI->I2 (Option J))):Option J :=
 kn b a.1 a.2.1 a.2.2 0 0
def Z3{J:Type}(N:Nat)(d a b:Int)(c:LI)(e f:Int)(kn:LI->I3 (LI->I4 (Option J))):Option J :=
 cond (lk N (dj.P (a,(b,c)))) (
  kn (dj.g (a,(b,c))).2.2 d a b c e f (dj.g (a,(b,c))).1 (dj.g (a,(b,c))).2.1) none
def Z6{J:Type}(N:Nat)(a:LI)(b c d:Int)(e:LI)(f g h i:Int)(kn:LI->I4 (LI->I4 (Option J))):Option J :=
 kn a b 0 c d e f g h i
def Z10{J:Type}(N:Nat)(a:LI)(h b i c:Int)(j:LI)(d e f g:Int)(kn:LI->I4 (LI->I4 (Option J)))(k0:LI->I4 (Option J)):Option J :=
 cond (lk N (decide (b<c)))
 (
  kn a h b i c j d e f g)
 (
  k0 a d e f g)
def Z14{J:Type}(N:Nat)(a:LI)(b c d e:Int)(f:LI)(g h i j:Int)(kn:LI->I5 (LI->I4 (Option J))):Option J :=
 kn a b c 0 d e f g h i j
def Z18{J:Type}(N:Nat)(b:LI)(c d e a f:Int)(g:LI)(h i j l:Int)(kn:LI->I5 (LI->I4 (Option J)))(k2:LI->I4 (LI->I4 (Option J))):Option J :=
 cond (lk N (decide (e<a)))
 (
  kn b c d e a f g h i j l)
 (
  k2 b c d a f g h i j l)
def Z22{J:Type}(N:Nat)(f:LI)(a b h c d:Int)(e:LI)(i j l m:Int)(kn:LI->I6 (LI->I4 (Option J))):Option J :=
 cond (lk N (bn.P (c,(d,e)) b a)) (
  kn f a b h (bn.g (c,(d,e)) b a) c d e i j l m) none
def Z24{J:Type}(N:Nat)(f:LI)(a h b i c d:Int)(e:LI)(j l m o:Int)(kn:LI->I7 (LI->I4 (Option J))):Option J :=
 cond (lk N (bn.P (c,(d,e)) a b)) (
  kn f a h b i (bn.g (c,(d,e)) a b) c d e j l m o) none
def Z27{J:Type}(N:Nat)(d:LI)(a b c e f g h:Int)(i:LI)(j l m o:Int)(kn:LI->I5 (Bool->I2 (LI->I4 (Option J)))):Option J :=
 cond (lk N (decide (b=a)))
 (
  kn d a b c e f true g h i j l m o)
 (
  kn d a b c e f (lk N (decide (c=a))) g h i j l m o)
def Z28{J:Type}(N:Nat)(f:LI)(h a b o p:Int)(q:Bool)(c d:Int)(e:LI)(i j l m:Int)(kn:LI->I5 (LI->I4 (Option J))):Option J :=
 cond (q)
 (
  cond (lk N (bn.P (c,(d,e)) a b)) (
   cond (lk N (au (ab ((ab (a*c))+b)) f.length)) (
    kn (f.set (ab ((ab (a*c))+b)).toNat (ab (0-(bn.g (c,(d,e)) a b)))) h a b c d e i j l m) none) none)
 (
  cond (lk N (decide (0<o)))
  (
   cond (lk N (decide (0<p)))
   (
    cond (lk N (bn.P (c,(d,e)) a b)) (
     cond (lk N (au (ab ((ab (a*c))+b)) f.length)) (
      kn (f.set (ab ((ab (a*c))+b)).toNat (ab ((bn.g (c,(d,e)) a b)+(ab (o*p))))) h a b c d e i j l m) none) none)
   (
    cond (lk N (decide (o<0)))
    (
     cond (lk N (decide (p<0)))
     (
      cond (lk N (bn.P (c,(d,e)) a b)) (
       cond (lk N (au (ab ((ab (a*c))+b)) f.length)) (
        kn (f.set (ab ((ab (a*c))+b)).toNat (ab ((bn.g (c,(d,e)) a b)-(ab (o*p))))) h a b c d e i j l m) none) none)
     (
      kn f h a b c d e i j l m))
    (
     kn f h a b c d e i j l m)))
  (
   cond (lk N (decide (o<0)))
   (
    cond (lk N (decide (p<0)))
    (
     cond (lk N (bn.P (c,(d,e)) a b)) (
      cond (lk N (au (ab ((ab (a*c))+b)) f.length)) (
       kn (f.set (ab ((ab (a*c))+b)).toNat (ab ((bn.g (c,(d,e)) a b)-(ab (o*p))))) h a b c d e i j l m) none) none)
    (
     kn f h a b c d e i j l m))
   (
    kn f h a b c d e i j l m)))
def Z26 N a b c d e f g h i j l m o kn:=(Z27 N a b c d e f g h i j l m o (λa b c d e f p g h i j l m o=>Z28 N a b c d e f p g h i j l m o kn):Option J)
def Z25 N a b c d e f g h i j l m o kn:=(Z26 N a b c d e f g h i j l m o kn:Option J)
def Z23 N a b c d e f g h i j l m kn:=(Z24 N a b c d e f g h i j l m (λa b c d e o f g h i j l m=>Z25 N a b c d e o f g h i j l m kn):Option J)
def Z21 N a b c d e f g h i j l kn:=(Z22 N a b c d e f g h i j l (λa b c d m e f g h i j l=>Z23 N a b c d m e f g h i j l kn):Option J)
def Z20 N a b c d e f g h i j l kn:=(Z21 N a b c d e f g h i j l kn:Option J)
def Z29{J:Type}(N:Nat)(a:LI)(b c d e f:Int)(g:LI)(h i j l:Int)(kn:LI->I5 (LI->I4 (Option J))):Option J :=
 kn a b c (ab (d+1)) e f g h i j l
def Z19 N a b c d e f g h i j l kn:=(Z20 N a b c d e f g h i j l (λa b c d e f g h i j l=>Z29 N a b c d e f g h i j l kn):Option J)
def Z17 N a b c d e f g h i j l kn k2:=(Z18 N a b c d e f g h i j l (λa b c d e f g h i j l=>Z19 N a b c d e f g h i j l kn) k2:Option J)
def Z16L{J:Type}(N:Nat)(k2:LI->I4 (LI->I4 (Option J))):Nat->LI->Int->Int->Int->Int->Int->LI->Int->Int->Int->Int->Option J
 |0,_,_,_,_,_,_,_,_,_,_,_=>none
 |M+1,a,b,c,d,e,f,g,h,i,j,l=>Z17 N a b c d e f g h i j l (λa b c d e f g h i j l=>Z16L N k2 M a b c d e f g h i j l) k2
def Z16 N a b c d e f g h i j l k2:=(Z16L N k2 N a b c d e f g h i j l:Option J)
def Z15 N a b c d e f g h i j l kn:=(Z16 N a b c d e f g h i j l kn:Option J)
def Z13 N a b c d e f g h i j kn:=(Z14 N a b c d e f g h i j (λa b c l d e f g h i j=>Z15 N a b c l d e f g h i j kn):Option J)
def Z12 N a b c d e f g h i j kn:=(Z13 N a b c d e f g h i j kn:Option J)
def Z30{J:Type}(N:Nat)(a:LI)(b c d e:Int)(f:LI)(g h i j:Int)(kn:LI->I4 (LI->I4 (Option J))):Option J :=
 kn a b (ab (c+1)) d e f g h i j
def Z11 N a b c d e f g h i j kn:=(Z12 N a b c d e f g h i j (λa b c d e f g h i j=>Z30 N a b c d e f g h i j kn):Option J)
def Z9 N a b c d e f g h i j kn k0:=(Z10 N a b c d e f g h i j (λa b c d e f g h i j=>Z11 N a b c d e f g h i j kn) k0:Option J)
def Z8L{J:Type}(N:Nat)(k0:LI->I4 (Option J)):Nat->LI->Int->Int->Int->Int->LI->Int->Int->Int->Int->Option J
 |0,_,_,_,_,_,_,_,_,_,_=>none
 |M+1,a,b,c,d,e,f,g,h,i,j=>Z9 N a b c d e f g h i j (λa b c d e f g h i j=>Z8L N k0 M a b c d e f g h i j) k0
def Z8 N a b c d e f g h i j k0:=(Z8L N k0 N a b c d e f g h i j:Option J)
def Z7 N a b c d e f g h i j kn:=(Z8 N a b c d e f g h i j kn:Option J)
def Z5 N a b c d e f g h i kn:=(Z6 N a b c d e f g h i (λa b j c d e f g h i=>Z7 N a b j c d e f g h i kn):Option J)
def Z31{J:Type}(N:Nat)(a:LI)(d e b c:Int)(kr:LI->I2 (Option J)):Option J :=
 kr a b c
def Z4 N a f g h i b c d e kr:=(Z5 N a f g h i b c d e (λa b c d e=>Z31 N a b c d e kr):Option J)
def Z2 N a b c d e f kr:=(Z3 N a b c d e f (λg a b c d e f h i=>Z4 N g a b c d e f h i kr):Option J)
def Z0 N b a kr:=(Z1 N b a (λa c d e f g=>Z2 N a c d e f g kr):Option J)
def Spec:Prop:=∀ (v0:MT) (v1:Int),Ty.bd (.pair (.int .i64) (.pair (.int .i64) (.sl 0 (.int .i64)))) v0->P v0 v1=true->∃N0,∀N,N0<=N->Z0 N v0 v1 (λv4_2 v4_0 v4_1=>some ((),((v4_0,(v4_1,v4_2)),())))=some ((),((g v0 v1),()))
section
variable {J : Type} {N : Nat} {m : Int × Int × List Int} {k : Nat}
def at_g(hd:0<=m.1)(a b:Nat):bn.g (m.1,(m.2.1,m.2.2)) (a:Int) (b:Int)=af m a b:=it hd a b
def at_p(hd:aG m=true){a b:Nat}(ha:a<m.2.1.toNat)(hb:b<m.1.toNat):bn.P (m.1,(m.2.1,m.2.2)) (a:Int) (b:Int)=true:=iu hd ha hb
def cur(m:Int×Int×List Int)(k p:Nat):List Int:=eK m.2.2.length p (gX m k) (λp=>m.2.2.getD p 0)
def inner(hs:bH m=true)(hk:k<m.1.toNat)(k2:List Int->Int->Int->Int->Int->List Int->Int->Int->Int->Int->Option J)(t0 t1 o0 o1:Int){i:Nat}(hi:i<m.2.1.toNat):∀(M j:Nat),j<=m.1.toNat->m.1.toNat-j<M ->
  Z16L N k2 M (cur m k (i*m.1.toNat+j)) (k:Int) (i:Int) (j:Int) m.1 m.2.1 m.2.2 t0 t1 o0 o1=k2 (cur m k (i*m.1.toNat+m.1.toNat)) (k:Int) (i:Int) m.1 m.2.1 m.2.2 t0 t1 o0 o1:=by
 have hd:=cj hs;obtain⟨n,r,hn,hr,hn1,hn5,hnr,hr8,hl⟩:=a7 hd;intro M;induction M with
 |zero=>intro j _ h;omega
 |succ M ih =>
  intro j hj hM;simp only[Z16L,Z17,Z18];by_cases h:j<m.1.toNat
  ·have hlt:i*m.1.toNat+j<m.2.2.length:=by have:=gT (n:=n) (r:=r) (i:=i) (j:=j) (by omega) (by omega);rw[hl,hn];exact this
   have hidx:ab (ab ((i:Int)*m.1)+(j:Int))=((i*m.1.toNat+j:Nat):Int):=by
    have e:(i:Int)*m.1=((i*m.1.toNat:Nat):Int):=by rw[hn,Int.natCast_mul];simp
    have hb:i*m.1.toNat<=8*5:=Nat.mul_le_mul (by omega) (by omega);have e2:ab (((i*m.1.toNat:Nat):Int))=((i*m.1.toNat:Nat):Int):=aI (by omega) (by omega);rw[e,e2,aI (by omega) (by omega)];omega
   have b1:=fj hs i j;have b2:=fj hs i k;have b3:=fj hs k j;have hbc:=zI (f:=false) b1 b2 b3;have hF:=uM (m:=m) (k:=k) (i:=i) h;have hcl:(cur m k (i*m.1.toNat+j)).length=m.2.2.length:=nF;have hset:∀v,v=gX m k (i*m.1.toNat+j)->(cur m k (i*m.1.toNat+j)).set (i*m.1.toNat+j) v=cur m k (i*m.1.toNat+(j+1)):=λv hv=>by subst hv;exact zl hlt
   have hsame:gX m k (i*m.1.toNat+j)=af m i j->cur m k (i*m.1.toNat+j)=cur m k (i*m.1.toNat+(j+1)):=λhv=>(zK hv).symm;have iB:au (((i*m.1.toNat+j:Nat):Int)) (cur m k (i*m.1.toNat+j)).length=true:=aU (by rw[hcl];exact hlt);have pij:=at_p hd hi h;rw[ct (dt (by omega))];simp only[Z19,Z20,Z21,Z22,Z23,Z24,Z25];rw[ct (at_p hd hi hk),ct (at_p hd (show k<m.2.1.toNat by omega) h),at_g (by omega),at_g (by omega)];have fin:∀c,c=cur m k (i*m.1.toNat+(j+1))->Z29 N c (k:Int) (i:Int) (j:Int) m.1 m.2.1 m.2.2 t0 t1 o0 o1 (λout5_2 k1 i6 j7 m2_0 m2_1 m2_2 t4_0 t4_1 out5_0 out5_1=>Z16L N k2 M out5_2 k1 i6 j7 m2_0 m2_1 m2_2 t4_0 t4_1 out5_0 out5_1)=k2 (cur m k (i*m.1.toNat+m.1.toNat)) (k:Int) (i:Int) m.1 m.2.1 m.2.2 t0 t1 o0 o1:=by intro c hc;subst hc;simp only[Z29];rw[bm (by rw[bw];omega)];exact ih (j+1) h (by omega)
   simp only[Z26,Z27,Z28,hidx,Int.toNat_natCast,at_g (show 0<=m.1 by omega)];by_cases hik:i=k;·rw[ct (dt (by omega)),eV rfl,ct pij,ct iB,aI (by omega) (by omega)];refine fin _ (hset _ ?_);rw[hF,dt hik,Int.zero_sub];rfl
   ·rw[cf (df (by omega))];by_cases hjk:j=k;·rw[eV (by rw[ax];exact dt (by omega)),ct pij,ct iB,aI (by omega) (by omega)];refine fin _ (hset _ ?_);rw[hF,df hik,dt hjk,Int.zero_sub];rfl
    ·rw[dR (by rw[ax];exact df (by omega))];rw[df hik,df hjk]at hF;simp only[iw,Bool.or_self,Bool.false_eq_true,if_false]at hF;have wbc:ab (af m i k*af m k j)=af m i k*af m k j:=aI (by omega) (by omega);rw[wbc];by_cases a1:0<af m i k
     ·rw[ct (dt a1)];by_cases a2:0<af m k j;·rw[ct (dt a2),ct pij,ct iB,aI (by omega) (by omega)];refine fin _ (hset _ ?_);rw[hF,if_pos ⟨a1,a2⟩]
      ·rw[cf (df a2),cf (df (by omega))];refine fin _ (hsame ?_);rw[hF,if_neg (by omega),if_neg (by omega)]
     ·rw[cf (df a1)];by_cases a2:af m i k<0
      ·rw[ct (dt a2)];by_cases a3:af m k j<0;·rw[ct (dt a3),ct pij,ct iB,aI (by omega) (by omega)];refine fin _ (hset _ ?_);rw[hF,if_neg (by omega),if_pos ⟨a2,a3⟩]
       ·rw[cf (df a3)];refine fin _ (hsame ?_);rw[hF,if_neg (by omega),if_neg (by omega)]
      ·rw[cf (df a2)];refine fin _ (hsame ?_);rw[hF,if_neg (by omega),if_neg (by omega)]
  ·rw[cf (df (by omega)),show j=m.1.toNat by omega]
def outer(hN:10<=N)(hs:bH m=true)(hk:k<m.1.toNat)(k0:List Int->Int->Int->Int->Int->Option J)(t0 t1 o0 o1:Int):∀(M i:Nat),i<=m.2.1.toNat->m.2.1.toNat-i<M ->
  Z8L N k0 M (cur m k (i*m.1.toNat)) (k:Int) (i:Int) m.1 m.2.1 m.2.2 t0 t1 o0 o1=k0 (cur m k (m.2.1.toNat*m.1.toNat)) t0 t1 o0 o1:=by
 have hd:=cj hs;obtain⟨n,r,hn,hr,hn1,hn5,hnr,hr8,hl⟩:=a7 hd;intro M;induction M with
 |zero=>intro i _ h;omega
 |succ M ih =>
  intro i hi hM;simp only[Z8L,Z9,Z10];by_cases h:i<m.2.1.toNat;·rw[ct (dt (by omega))];simp only[Z11,Z12,Z13,Z14,Z15,Z16];have hin:=inner (J:=J) (N:=N) hs hk (λout5_2 k1 i6 m2_0 m2_1 m2_2 t4_0 t4_1 out5_0 out5_1=>Z30 N out5_2 k1 i6 m2_0 m2_1 m2_2 t4_0 t4_1 out5_0 out5_1 (λout5_2 k1 i6 m2_0 m2_1 m2_2 t4_0 t4_1 out5_0 out5_1=>Z8L N k0 M out5_2 k1 i6 m2_0 m2_1 m2_2 t4_0 t4_1 out5_0 out5_1)) t0 t1 o0 o1 h N 0 (by omega) (by omega);rw[show((0:Nat):Int)=0 from rfl,Nat.add_zero]at hin;rw[hin];simp only[Z30];rw[bm (by rw[bw];omega)];have:=ih (i+1) h (by omega);rw[Nat.add_mul,Nat.one_mul]at this;exact this
  ·rw[cf (df (by omega)),show i=m.2.1.toNat by omega]
end
def ok:Spec:=λm k hb hp=>⟨10,λN hN=>by
 simp only[P,Bool.and_eq_true,decide_eq_true_eq]at hp;obtain⟨hs,h0,h1⟩:=hp;obtain⟨x,rfl⟩:=Int.eq_ofNat_of_zero_le h0;have hd:=cj hs;obtain⟨n,r,hn,hr,hn1,hn5,hnr,hr8,hl⟩:=a7 hd;have hlen:m.2.2.length<=8*5:=by rw[hl];exact Nat.mul_le_mul hr8 hn5
 simp only[Z0,Z1,Z2,Z3];rw[ct (show dj.P (m.1,(m.2.1,m.2.2))=true from dt (show m.2.2.length<1099511627776 by omega))];simp only[Z4,Z5,Z6,Z7,Z8];have hstart:cur m x 0=m.2.2:=by unfold cur;rw[zm];exact qa 0 rfl
 have hend:cur m x (m.2.1.toNat*m.1.toNat)=(aO m x).2.2:=by
  have e:m.2.1.toNat*m.1.toNat=m.2.2.length:=by rw[hl,hn,hr];simp
  rw[e];exact zn
 have:=outer (J:=Unit×(Int×Int×List Int)×Unit) hN hs (show x<m.1.toNat by omega) (λout5_2 t4_0 t4_1 out5_0 out5_1=>Z31 N out5_2 t4_0 t4_1 out5_0 out5_1 (λt4_2 t4_0 t4_1=>some ((),((t4_0,(t4_1,t4_2)),())))) 0 0 m.1 m.2.1 N 0 (by omega) (by omega);rw[Nat.zero_mul,hstart,hend]at this;exact this⟩
end bq
namespace eA
def g(m:Int×Int×List Int)(k:Int):(Int×Int×List Int)×Bool :=
 if((aP m&&!decide (bc m=[]))&&(bR k 0 (m.1-1)&&aP (aO m k.toNat)))=true then(aO m k.toNat,true)else((0,0,[]),false)
def Z0{J:Type}(N:Nat)(a:MT)(b:Int)(kr:LI->Bool->I2 (Option J)):Option J :=
 cond (!(lk N ((gM.g a))))
 (
  kr ([]:List Int) false 0 0)
 (
  cond (!(lk N ((fp.g b 0 (ab (a.1-1))))))
  (
   kr ([]:List Int) false 0 0)
  (
   cond (lk N (bq.P a b)) (
    cond (!(lk N ((bO.g (bq.g a b)))))
    (
     kr ([]:List Int) false 0 0)
    (
     kr (bq.g a b).2.2 true (bq.g a b).1 (bq.g a b).2.1)) none))
def Spec:Prop:=∀ (v0:MT) (v1:Int),Ty.bd (.pair (.int .i64) (.pair (.int .i64) (.sl 0 (.int .i64)))) v0->∃N0,∀N,N0<=N->Z0 N v0 v1 (λv4_2 v5 v4_0 v4_1=>some ((),((v4_0,(v4_1,v4_2)),(v5,()))))=some ((),((g v0 v1).1,((g v0 v1).2,())))
def ok:Spec:=λm k hb=>⟨0,λN hN=>by
 simp only[Z0,ax,g,gM.g,fp.g,bO.g];cases h1:(aP m&&!decide (bc m=[]));·rfl
 have hs:aP m=true:=by simp only[Bool.and_eq_true]at h1;exact h1.1
 have hd:=cj (cK hs);obtain⟨n,r,hn,hr,hn1,hn5,hnr,hr8,hl⟩:=a7 hd;rw[aI (by omega) (by omega)];cases h2:bR k 0 (m.1-1);·rfl
 have h3:=cJ.1 h2;have hP:bq.P m k=true:=by simp only[bq.P,Bool.and_eq_true,decide_eq_true_eq];exact⟨cK hs,by omega,by omega⟩
 rw[hP];have hg:bq.g m k=aO m k.toNat:=rfl;rw[hg];cases aP (aO m k.toNat)<;>rfl⟩
end eA
namespace bY
def P(b:List Int)(r:Int×Int)(n:Int):Bool:=bL b r&&bR n 0 5
def stepN(b:List Int)(s:(Int×Int)×List Int)(k:Nat):(Int×Int)×List Int :=
 ((ao.g b s.1 ((s.2.length:Int)+1)).1,s.2.take (ao.g b s.1 ((s.2.length:Int)+1)).2.toNat++[(k:Int)]++s.2.drop (ao.g b s.1 ((s.2.length:Int)+1)).2.toNat)
def g(b:List Int)(r:Int×Int)(n:Int):(Int×Int)×List Int:=(List.range n.toNat).foldl (stepN b) (r,[])
def Z1{J:Type}(N:Nat)(b0:List Int)(r0:Int×Int)(a:Int)(kn:Int->List Int->I2 (Option J)):Option J :=
 kn a b0 r0.1 r0.2
def Z3{J:Type}(N:Nat)(a:Int)(b:List Int)(c d:Int)(kn:LI->Int->List Int->I2 (Option J)):Option J :=
 kn ([]:List Int) a b c d
def Z6{J:Type}(N:Nat)(a:LI)(b:Int)(c:List Int)(d e:Int)(kn:LI->I2 (List Int->I2 (Option J))):Option J :=
 kn a b 0 c d e
def Z9{J:Type}(N:Nat)(a:LI)(f b:Int)(c:List Int)(d e:Int)(kn:LI->I2 (List Int->I2 (Option J)))(k0:LI->List Int->I2 (Option J)):Option J :=
 let x1_:=(ao.g c (d,e) (ab ((a.length:Int)+1)));let x4_:=(lk N (bu 0 x1_.2&&bu x1_.2 a.length));let x7_:=(lk N (Nat.blt (([]:List Int).length+((a.drop 0).take x1_.2.toNat).length) 1099511627776));let x8_:=(([]:List Int)++((a.drop 0).take x1_.2.toNat));let x0_:=(
   cond (lk N (Nat.blt ((x8_++([b]:List Int)).length+((a.drop x1_.2.toNat).take (a.length-x1_.2).toNat).length) 1099511627776)) (
   kn ((x8_++([b]:List Int))++((a.drop x1_.2.toNat).take (a.length-x1_.2).toNat)) f (ab (b+1)) c x1_.1.1 x1_.1.2) none)
 let x5_:=(lk N (Nat.blt (x8_.length+([b]:List Int).length) 1099511627776));let x9_:=(
   bC (
   cond x5_ (
   cond x4_ x0_ none) none)
   (
   cond x4_ (
   cond x5_ x0_ none) none))
 let x2_:=(
   cond x7_ (
   cond x5_ x0_ none) none)
 let x3_:=(
   bC (
   cond x7_ x9_ none)
   (
   cond x4_ x2_ none))
 let x6_:=(
   bC (
   cond x7_ (
   bC x9_
   (
   cond x4_ (
   cond x5_ x0_ none) none)) none)
   (
   bC x3_
   (
   cond x4_ (
   bo x2_) none)))
 let x10_:=(
   bC (
   cond x4_ x3_ none)
   (
   cond x4_ (
   cond x4_ x2_ none) none))
 let x11_:=(
   bC (
   cond x4_ (
   bo x2_) none)
   (
   cond x4_ x2_ none))
 cond (lk N (decide (b<f)))
 (
 cond (lk N (ao.P c (d,e) (ab ((a.length:Int)+1)))) (
 bC (
 bC (
 cond x4_ x6_ none)
 (
 bC x10_
 (
 cond x4_ x11_ none)))
 (
 bC (
 cond x4_ (
 bC x6_
 (
 bC (
 bC x3_
 (
 cond x4_ x2_ none))
 (
 cond x4_ (
 bC (
 bo x2_)
 x2_) none))) none)
 (
 bC (
 bC x10_
 (
 bC (
 cond x4_ (
 bC x3_
 (
 cond x4_ x2_ none)) none)
 (
 cond x4_ (
 bo (
 cond x4_ x2_ none)) none)))
 (
 cond x4_ (
 bC x11_
 (
 bC (
 cond x4_ (
 bC (
 bo x2_)
 x2_) none)
 (
 bo (
 cond x4_ x2_ none)))) none)))) none)
 (
 k0 a c d e)
def Z8L{J:Type}(N:Nat)(k0:LI->List Int->I2 (Option J)):Nat->LI->Int->Int->List Int->Int->Int->Option J
 |0,_,_,_,_,_,_=>none
 |M+1,a,b,c,d,e,f=>Z9 N a b c d e f (λa b c d e f=>Z8L N k0 M a b c d e f) k0
def Z8 N a b c d e f k0:=(Z8L N k0 N a b c d e f:Option J)
def Z7 N a b c d e f kn:=(Z8 N a b c d e f kn:Option J)
def Z5 N a b c d e kn:=(Z6 N a b c d e (λa b f c d e=>Z7 N a b f c d e kn):Option J)
def Z10{J:Type}(N:Nat)(a:LI)(b:List Int)(c d:Int)(kr:LI->List Int->I2 (Option J)):Option J :=
 kr a b c d
def Z4 N a e b c d kr:=(Z5 N a e b c d (λa b c d=>Z10 N a b c d kr):Option J)
def Z2 N a b c d kr:=(Z3 N a b c d (λe a b c d=>Z4 N e a b c d kr):Option J)
def Z0 N b0 r0 a kr:=(Z1 N b0 r0 a (λa b c d=>Z2 N a b c d kr):Option J)
def Spec:Prop:=∀{U:Type} (u:U) (b0:List Int) (r0:Int×Int) (v1:Int),Ty.bd (.sl 0 (.int .u8)) b0->P b0 r0 v1=true->∃N0,∀N,N0<=N->Z0 N b0 r0 v1 (λv4 w0_0 w0_1 w0_2=>some (u,((w0_1,w0_2),((),(v4,())))))=some (u,((g b0 r0 v1).1,((),((g b0 r0 v1).2,()))))
def Ak(b:List Int)(s:(Int×Int)×List Int)(k:Nat):(stepN b s k).2.Perm ((k:Int)::s.2):=by unfold stepN;generalize(ao.g b s.1 ((s.2.length:Int)+1)).2.toNat=q;simp only;have h:(s.2.take q++[(k:Int)]++s.2.drop q).Perm ([(k:Int)]++s.2.take q++s.2.drop q):=List.Perm.append_right _ List.perm_append_comm;rw[List.append_assoc [(k:Int)],List.take_append_drop]at h;exact h
def Al(b:List Int):∀(l:List Nat) (s:(Int×Int)×List Int),(l.foldl (stepN b) s).2.Perm (aJ l++s.2)
 |[],s=>List.Perm.refl _
 |k::l,s=>by rw[List.foldl_cons];refine(Al b l (stepN b s k)).trans ?_;show(aJ l++(stepN b s k).2).Perm ((k:Int)::(aJ l++s.2));refine(List.Perm.append_left _ (Ak b s k)).trans ?_;exact List.perm_middle
def keeps(b:List Int):∀(l:List Nat) (s:(Int×Int)×List Int),bL b s.1=true->bL b (l.foldl (stepN b) s).1=true
 |[],_,h=>h
 |k::l,s,h=>keeps b l (stepN b s k) (ao.keep h)
def keep{b:List Int}{r:Int×Int}{n:Int}(h:bL b r=true):bL b (g b r n).1=true:=keeps b _ _ h
def IA{l:List Int}{n:Nat}(h:l.Perm (aJ (List.range n))):gF l (n:Int)=true:=by
 have hl:l.length=n:=by rw[h.length_eq,ci,List.length_range]
 have hnd:l.Nodup:=by refine h.nodup_iff.2 ?_;unfold aJ;refine List.Pairwise.map _ (λa b hab=>?_) (List.nodup_range (n:=n));show((a:Nat):Int)≠((b:Nat):Int);omega
 simp only[gF,Bool.and_eq_true,decide_eq_true_eq];refine⟨by omega,List.all_eq_true.2 λi hi=>?_⟩;have hi:=List.mem_range.1 hi;have hm:=b9 (l:=l) (j:=i) 0 hi;have hm2:=h.mem_iff.1 hm;unfold aJ at hm2;obtain⟨x,hx,hxe⟩:=List.mem_map.1 hm2;have hx:=List.mem_range.1 hx;simp only[uN,Bool.and_eq_true,cJ,Bool.not_eq_true',List.any_eq_false,decide_eq_true_eq];refine⟨by omega,λy hy e=>?_⟩;obtain⟨j,hj,hje⟩:=List.getElem_of_mem hy;rw[List.length_take]at hj;rw[List.getElem_take]at hje;have:l[j]'(by omega)=l[i]:=by rw[hje,e,List.getD_eq_getElem?_getD,List.getElem?_eq_getElem hi];rfl
 exact(List.pairwise_iff_getElem.1 hnd) j i (by omega) hi (by omega) this
def names{b:List Int}{r:Int×Int}(n:Nat):gF (g b r (n:Int)).2 (n:Int)=true:=by have:=Al b (List.range n) (r,[]);rw[List.append_nil]at this;refine IA ?_;unfold g;rw[Int.toNat_natCast];exact this
def loop{J:Type}{N:Nat}{b:List Int}(kk:List Int->List Int->Int->Int->Option J){n:Nat}(hn:n<=5):∀(M k:Nat) (s:(Int×Int)×List Int),k<=n->bL b s.1=true->s.2.length=k->n-k<M ->
  Z8L N kk M s.2 (n:Int) (k:Int) b s.1.1 s.1.2=kk (((List.range n).drop k).foldl (stepN b) s).2 b (((List.range n).drop k).foldl (stepN b) s).1.1 (((List.range n).drop k).foldl (stepN b) s).1.2:=by
 intro M;induction M with
 |zero=>intro k s _ _ _ h;omega
 |succ M ih =>
  intro k s hk hs hl hM;simp only[Z8L,Z9];by_cases h:k<n
  ·have es:((s.1.1,s.1.2):Int×Int)=s.1:=rfl;have w0:ab ((s.2.length:Int)+1)=(s.2.length:Int)+1:=aI (by omega) (by omega);have hr:=ao.range (b:=b) (r:=s.1) (n:=(s.2.length:Int)+1) (by omega) (by omega);have hP:ao.P b s.1 ((s.2.length:Int)+1)=true:=hs;have hst:stepN b s k=((ao.g b s.1 ((s.2.length:Int)+1)).1,s.2.take (ao.g b s.1 ((s.2.length:Int)+1)).2.toNat++[(k:Int)]++s.2.drop (ao.g b s.1 ((s.2.length:Int)+1)).2.toNat):=rfl;have hstl:(stepN b s k).2.length=k+1:=by have:=(Ak b s k).length_eq;rw[List.length_cons]at this;omega
   have hkeep:bL b (stepN b s k).1=true:=ao.keep hs;rw[ct (dt (by omega)),iv h,List.foldl_cons];have nxt:=ih (k+1) (stepN b s k) h hkeep hstl (by omega);rw[hst]at nxt ⊢;rw[<-nxt];simp only[es,w0];generalize hx:ao.g b s.1 ((s.2.length:Int)+1)=x at hr;obtain⟨q,hq⟩:=Int.eq_ofNat_of_zero_le hr.1;have hq1:q<=s.2.length:=by omega
   have c1:(bu 0 x.2&&bu x.2 s.2.length)=true:=by rw[hq,gC (by omega),gC (by omega)];rfl
   have c2:∀l:List Int,l.length<=20->∀m:List Int,m.length<=20->Nat.blt (l.length+m.length) 1099511627776=true:=λl h1 m h2=>Nat.ble_eq_true_of_le (by omega);have l1:((s.2.drop 0).take x.2.toNat).length<=6:=by rw[List.length_take,List.length_drop];omega
   have l2:((s.2.drop x.2.toNat).take ((s.2.length:Int)-x.2).toNat).length<=6:=by rw[List.length_take,List.length_drop];omega
   have e2:(s.2.drop x.2.toNat).take ((s.2.length:Int)-x.2).toNat=s.2.drop x.2.toNat:=List.take_of_length_le (by rw[List.length_drop];omega);have w1:ab ((k:Int)+1)=((k+1:Nat):Int):=bm (by rw[bw];omega);have l3:(s.2.take x.2.toNat).length<=6:=by rw[List.length_take];omega
   have l4:(s.2.drop x.2.toNat).length<=6:=by rw[List.length_drop];omega
   have d1:=c2 [] (by simp) (s.2.take x.2.toNat) (by omega);have d2:=c2 (s.2.take x.2.toNat) (by omega) [(k:Int)] (by simp);have d3:=c2 (s.2.take x.2.toNat++[(k:Int)]) (by rw[List.length_append,List.length_singleton];omega) (s.2.drop x.2.toNat) (by omega);simp only[ax,hP,c1,d1,d2,d3,cond_true,eE,w1,e2,List.nil_append,List.drop_zero,hx]
  ·rw[cf (df (by omega)),List.drop_of_length_le (by rw[List.length_range];omega)];rfl
def ok:Spec:=λu b r n hb hp=>⟨10,λN hN=>by simp only[P,Bool.and_eq_true,cJ]at hp;obtain⟨h,h0,h5⟩:=hp;obtain⟨k,rfl⟩:=Int.eq_ofNat_of_zero_le h0;simp only[Z0,Z1,Z2,Z3,Z4,Z5,Z6,Z7,Z8];refine(loop _ (by omega) N 0 (r,[]) (Nat.zero_le _) h rfl (by omega)).trans ?_;rw[List.drop_zero];rfl⟩
end bY
namespace bP
def P(m:Int×Int×List Int)(names:List Int):Bool:=aG m&&gF names m.1
def g(m:Int×Int×List Int)(names:List Int):Int×Int×List Int:=jl m names
def Z1{J:Type}(N:Nat)(a:MT)(b:LI)(kn:LI->I2 (LI->I2 (Option J))):Option J :=
 kn b a.1 a.2.1 a.2.2 0 0
def Z3{J:Type}(N:Nat)(d:LI)(a b:Int)(c:LI)(e f:Int)(kn:LI->LI->I2 (LI->I4 (Option J))):Option J :=
 cond (lk N (dj.P (a,(b,c)))) (
  kn (dj.g (a,(b,c))).2.2 d a b c e f (dj.g (a,(b,c))).1 (dj.g (a,(b,c))).2.1) none
def Z6{J:Type}(N:Nat)(a b:LI)(c d:Int)(e:LI)(f g h i:Int)(kn:LI->LI->I3 (LI->I4 (Option J))):Option J :=
 kn a b 0 c d e f g h i
def Z10{J:Type}(N:Nat)(a h:LI)(b i c:Int)(j:LI)(d e f g:Int)(kn:LI->LI->I3 (LI->I4 (Option J)))(k0:LI->I4 (Option J)):Option J :=
 cond (lk N (decide (b<c)))
 (
  kn a h b i c j d e f g)
 (
  k0 a d e f g)
def Z14{J:Type}(N:Nat)(b c:LI)(a d e:Int)(f:LI)(g h i j:Int)(kn:LI->LI->I4 (LI->I4 (Option J))):Option J :=
 kn b c a a d e f g h i j
def Z16{J:Type}(N:Nat)(d b:LI)(a l c e:Int)(f:LI)(g h i j:Int)(kn:LI->LI->I4 (LI->I4 (Option J))):Option J :=
 cond (lk N (decide (a<c)))
 (
  cond (lk N (au a b.length)) (
   kn d b a (b.getD a.toNat 0) c e f g h i j) none)
 (
  kn d b a l c e f g h i j)
def Z18{J:Type}(N:Nat)(a b:LI)(c d e f:Int)(g:LI)(h i j l:Int)(kn:LI->LI->I5 (LI->I4 (Option J))):Option J :=
 kn a b c d 0 e f g h i j l
def Z21{J:Type}(N:Nat)(h c:LI)(d i a b e:Int)(f:LI)(j l m o:Int)(kn:LI->LI->I5 (LI->I4 (Option J)))(k2:LI->LI->I3 (LI->I4 (Option J))):Option J :=
 cond (lk N (decide (a<b)))
 (
  cond (lk N (au a c.length)) (
   cond (lk N (bn.P (b,(e,f)) d a)) (
    cond (lk N (au (ab ((ab (i*b))+(c.getD a.toNat 0))) h.length)) (
     kn (h.set (ab ((ab (i*b))+(c.getD a.toNat 0))).toNat (bn.g (b,(e,f)) d a)) c d i (ab (a+1)) b e f j l m o) none) none) none)
 (
  k2 h c d b e f j l m o)
def Z20L{J:Type}(N:Nat)(k2:LI->LI->I3 (LI->I4 (Option J))):Nat->LI->LI->Int->Int->Int->Int->Int->LI->Int->Int->Int->Int->Option J
 |0,_,_,_,_,_,_,_,_,_,_,_,_=>none
 |M+1,a,b,c,d,e,f,g,h,i,j,l,m=>Z21 N a b c d e f g h i j l m (λa b c d e f g h i j l m=>Z20L N k2 M a b c d e f g h i j l m) k2
def Z20 N a b c d e f g h i j l m k2:=(Z20L N k2 N a b c d e f g h i j l m:Option J)
def Z19 N a b c d e f g h i j l m kn:=(Z20 N a b c d e f g h i j l m kn:Option J)
def Z17 N a b c d e f g h i j l kn:=(Z18 N a b c d e f g h i j l (λa b c d m e f g h i j l=>Z19 N a b c d m e f g h i j l kn):Option J)
def Z15 N a b c d e f g h i j l kn:=(Z16 N a b c d e f g h i j l (λa b c d e f g h i j l=>Z17 N a b c d e f g h i j l kn):Option J)
def Z13 N a b c d e f g h i j kn:=(Z14 N a b c d e f g h i j (λa b c l d e f g h i j=>Z15 N a b c l d e f g h i j kn):Option J)
def Z12 N a b c d e f g h i j kn:=(Z13 N a b c d e f g h i j kn:Option J)
def Z22{J:Type}(N:Nat)(a b:LI)(c d e:Int)(f:LI)(g h i j:Int)(kn:LI->LI->I3 (LI->I4 (Option J))):Option J :=
 kn a b (ab (c+1)) d e f g h i j
def Z11 N a b c d e f g h i j kn:=(Z12 N a b c d e f g h i j (λa b c d e f g h i j=>Z22 N a b c d e f g h i j kn):Option J)
def Z9 N a b c d e f g h i j kn k0:=(Z10 N a b c d e f g h i j (λa b c d e f g h i j=>Z11 N a b c d e f g h i j kn) k0:Option J)
def Z8L{J:Type}(N:Nat)(k0:LI->I4 (Option J)):Nat->LI->LI->Int->Int->Int->LI->Int->Int->Int->Int->Option J
 |0,_,_,_,_,_,_,_,_,_,_=>none
 |M+1,a,b,c,d,e,f,g,h,i,j=>Z9 N a b c d e f g h i j (λa b c d e f g h i j=>Z8L N k0 M a b c d e f g h i j) k0
def Z8 N a b c d e f g h i j k0:=(Z8L N k0 N a b c d e f g h i j:Option J)
def Z7 N a b c d e f g h i j kn:=(Z8 N a b c d e f g h i j kn:Option J)
def Z5 N a b c d e f g h i kn:=(Z6 N a b c d e f g h i (λa b j c d e f g h i=>Z7 N a b j c d e f g h i kn):Option J)
def Z23{J:Type}(N:Nat)(a:LI)(d e b c:Int)(kr:LI->I2 (Option J)):Option J :=
 kr a b c
def Z4 N a f g h i b c d e kr:=(Z5 N a f g h i b c d e (λa b c d e=>Z23 N a b c d e kr):Option J)
def Z2 N a b c d e f kr:=(Z3 N a b c d e f (λg a b c d e f h i=>Z4 N g a b c d e f h i kr):Option J)
def Z0 N b a kr:=(Z1 N b a (λa c d e f g=>Z2 N a c d e f g kr):Option J)
def Spec:Prop:=∀ (v0:MT) (v1:LI),Ty.bd (.pair (.int .i64) (.pair (.int .i64) (.sl 0 (.int .i64)))) v0->Ty.bd (.sl 0 (.int .i64)) v1->P v0 v1=true->∃N0,∀N,N0<=N->Z0 N v0 v1 (λv4_2 v4_0 v4_1=>some ((),((v4_0,(v4_1,v4_2)),())))=some ((),((g v0 v1),()))
section
variable {J : Type} {N : Nat} {m : Int × Int × List Int} {L : List Nat}
def at_g(hd:0<=m.1)(a b:Nat):bn.g (m.1,(m.2.1,m.2.2)) (a:Int) (b:Int)=af m a b:=it hd a b
def at_p(hd:aG m=true){a b:Nat}(ha:a<m.2.1.toNat)(hb:b<m.1.toNat):bn.P (m.1,(m.2.1,m.2.2)) (a:Int) (b:Int)=true:=iu hd ha hb
def cur(m:Int×Int×List Int)(L:List Nat)(st:List Int)(t:Nat):List Int:=gG m.2.2.length t (gY m.1.toNat L) (λp=>m.2.2.getD (gY m.1.toNat L p) 0) (λp=>st.getD p 0)
def inner(hd:aG m=true)(h1:L.Nodup)(h2:∀x∈L,x<m.1.toNat)(h3:L.length=m.1.toNat)(st:List Int)(k2:List Int->List Int->Int->Int->Int->List Int->Int->Int->Int->Int->Option J)(t0 t1 o0 o1:Int){i:Nat}(hi:i<m.2.1.toNat):∀(M j:Nat),j<=m.1.toNat->m.1.toNat-j<M ->
  Z20L N k2 M (cur m L st (i*m.1.toNat+j)) (aJ L) (i:Int) ((dh m.1.toNat L i:Nat):Int) (j:Int) m.1 m.2.1 m.2.2 t0 t1 o0 o1=k2 (cur m L st (i*m.1.toNat+m.1.toNat)) (aJ L) (i:Int) m.1 m.2.1 m.2.2 t0 t1 o0 o1:=by
 obtain⟨n,r,hn,hr,hn1,hn5,hnr,hr8,hl⟩:=a7 hd;have hnr':m.1.toNat<=m.2.1.toNat:=by omega
 intro M;induction M with
 |zero=>intro j _ h;omega
 |succ M ih =>
  intro j hj hM;simp only[Z20L,Z21];by_cases h:j<m.1.toNat
  ·have hx:=h2 _ (b9 (l:=L) (j:=j) 0 (by omega));have hrow:=HC h1 h2 h3 hnr' hi;have hlt:dh m.1.toNat L i*m.1.toNat+L.getD j 0<m.2.2.length:=by
    have:=gT (n:=m.1.toNat) (r:=m.2.1.toNat) hrow hx;rw[hl];have e:m.2.1.toNat*m.1.toNat=r*n:=by rw[hn,hr];rfl
    omega
   have hidx:ab (ab (((dh m.1.toNat L i:Nat):Int)*m.1)+((L.getD j 0:Nat):Int))=((dh m.1.toNat L i*m.1.toNat+L.getD j 0:Nat):Int):=by
    have e:((dh m.1.toNat L i:Nat):Int)*m.1=((dh m.1.toNat L i*m.1.toNat:Nat):Int):=by rw[hn,Int.natCast_mul];simp
    have hb:dh m.1.toNat L i*m.1.toNat<=8*5:=Nat.mul_le_mul (by omega) (by omega);have e2:ab (((dh m.1.toNat L i*m.1.toNat:Nat):Int))=((dh m.1.toNat L i*m.1.toNat:Nat):Int):=aI (by omega) (by omega);rw[e,e2,aI (by omega) (by omega)];omega
   have hset:(cur m L st (i*m.1.toNat+j)).set (dh m.1.toNat L i*m.1.toNat+L.getD j 0) (af m i j)=cur m L st (i*m.1.toNat+(j+1)):=by have e:=Hx (total:=m.2.2.length) (t:=i*m.1.toNat+j) (p:=dh m.1.toNat L i*m.1.toNat+L.getD j 0) (back:=gY m.1.toNat L) (F:=λp=>m.2.2.getD (gY m.1.toNat L p) 0) (G:=λp=>st.getD p 0) hlt (zN h1 h2 h3 hnr' h) (λq _ hq=>HE h1 h2 h3 hnr' h hq);simp only[zN h1 h2 h3 hnr' h]at e;exact e
   rw[ct (dt (by omega)),ct (aU (by rw[ci];omega)),ct (at_p hd hi h)];simp only[Int.toNat_natCast,f8,hidx];rw[ct (aU (by rw[cur,qk];exact hlt)),at_g (by omega),hset,bm (by rw[bw];omega)];exact ih (j+1) h (by omega)
  ·rw[cf (df (by omega)),show j=m.1.toNat by omega]
def outer(hN:10<=N)(hd:aG m=true)(h1:L.Nodup)(h2:∀x∈L,x<m.1.toNat)(h3:L.length=m.1.toNat)(st:List Int)(k0:List Int->Int->Int->Int->Int->Option J)(t0 t1 o0 o1:Int):∀(M i:Nat),i<=m.2.1.toNat->m.2.1.toNat-i<M ->
  Z8L N k0 M (cur m L st (i*m.1.toNat)) (aJ L) (i:Int) m.1 m.2.1 m.2.2 t0 t1 o0 o1=k0 (cur m L st (m.2.1.toNat*m.1.toNat)) t0 t1 o0 o1:=by
 obtain⟨n,r,hn,hr,hn1,hn5,hnr,hr8,hl⟩:=a7 hd;intro M;induction M with
 |zero=>intro i _ h;omega
 |succ M ih =>
  intro i hi hM;simp only[Z8L,Z9,Z10];by_cases h:i<m.2.1.toNat
  ·have hin:=inner (J:=J) (N:=N) hd h1 h2 h3 st (λout5_2 names1 i6 m2_0 m2_1 m2_2 t4_0 t4_1 out5_0 out5_1=>Z22 N out5_2 names1 i6 m2_0 m2_1 m2_2 t4_0 t4_1 out5_0 out5_1 (λout5_2 names1 i6 m2_0 m2_1 m2_2 t4_0 t4_1 out5_0 out5_1=>Z8L N k0 M out5_2 names1 i6 m2_0 m2_1 m2_2 t4_0 t4_1 out5_0 out5_1)) t0 t1 o0 o1 h N 0 (by omega) (by omega);rw[show((0:Nat):Int)=0 from rfl,Nat.add_zero]at hin;have hnext:=ih (i+1) h (by omega);rw[Nat.add_mul,Nat.one_mul]at hnext;rw[ct (dt (by omega))];simp only[Z11,Z12,Z13,Z14,Z15,Z16];by_cases hin':i<m.1.toNat;·rw[ct (dt (by omega)),ct (aU (by rw[ci];omega)),Int.toNat_natCast,f8];rw[dh,if_pos hin']at hin;simp only[Z17,Z18,Z19,Z20];rw[hin];simp only[Z22];rw[bm (by rw[bw];omega)];exact hnext
   ·rw[cf (df (by omega))];rw[dh,if_neg hin']at hin;simp only[Z17,Z18,Z19,Z20];rw[hin];simp only[Z22];rw[bm (by rw[bw];omega)];exact hnext
  ·rw[cf (df (by omega)),show i=m.2.1.toNat by omega]
def IB(L:List Nat):cur m L m.2.2 0=m.2.2:=by unfold cur;rw[Hy];exact qa 0 rfl
def IC(hd:aG m=true)(h1:L.Nodup)(h2:∀x∈L,x<m.1.toNat)(h3:L.length=m.1.toNat)(st:List Int):cur m L st (m.2.1.toNat*m.1.toNat)=(jl m (aJ L)).2.2:=by
 obtain⟨n,r,hn,hr,hn1,hn5,hnr,hr8,hl⟩:=a7 hd;have e:m.2.1.toNat*m.1.toNat=m.2.2.length:=by rw[hl,hn,hr];simp
 rw[e];unfold cur jl;rw[Hw];exact Hz (λp hp=>by have:=HF h1 h2 h3 (r:=m.2.1.toNat) (by omega) (by omega) (q:=p) (by omega);omega)
end
def ok:Spec:=λm names hb hv hp=>⟨10,λN hN=>by
 simp only[P,Bool.and_eq_true]at hp;obtain⟨hd,hnm⟩:=hp;obtain⟨L,rfl,h1,h2,h3⟩:=zL hnm;obtain⟨n,r,hn,hr,hn1,hn5,hnr,hr8,hl⟩:=a7 hd;have hlen:m.2.2.length<=8*5:=by rw[hl];exact Nat.mul_le_mul hr8 hn5
 simp only[Z0,Z1,Z2,Z3];rw[ct (show dj.P (m.1,(m.2.1,m.2.2))=true from dt (show m.2.2.length<1099511627776 by omega))];simp only[Z4,Z5,Z6,Z7,Z8];have:=outer (J:=Unit×(Int×Int×List Int)×Unit) hN hd h1 h2 h3 m.2.2 (λout5_2 t4_0 t4_1 out5_0 out5_1=>Z23 N out5_2 t4_0 t4_1 out5_0 out5_1 (λt4_2 t4_0 t4_1=>some ((),((t4_0,(t4_1,t4_2)),())))) 0 0 m.1 m.2.1 N 0 (by omega) (by omega);rw[Nat.zero_mul,IB,IC hd h1 h2 h3]at this;exact this⟩
end bP
namespace bG
def P(b:List Int)(r:Int×Int)(m:Int×Int×List Int):Bool:=bL b r&&aG m
abbrev S:=(Int×Int)×(Int×Int×List Int)
def moveS(b:List Int)(s:S):S :=
 ((ao.g b s.1 s.2.1).1,if(eA.g s.2 (ao.g b s.1 s.2.1).2).2=true then(eA.g s.2 (ao.g b s.1 s.2.1).2).1 else s.2)
def walkS(b:List Int):Nat->S->S
 |0,s=>s
 |n+1,s=>walkS b n (moveS b s)
def walked(b:List Int)(r:Int×Int)(m:Int×Int×List Int):S:=walkS b (ao.g b r 4).2.toNat ((ao.g b r 4).1,m)
def g(b:List Int)(r:Int×Int)(m:Int×Int×List Int):(Int×Int)×(Int×Int×List Int) :=
 ((bY.g b (walked b r m).1 (walked b r m).2.1).1,bP.g (walked b r m).2 (bY.g b (walked b r m).1 (walked b r m).2.1).2)
def Z1{J:Type}(N:Nat)(b0:List Int)(r0:Int×Int)(a:MT)(kn:List Int->I4 (LI->I2 (Option J))):Option J :=
 kn b0 r0.1 r0.2 a.1 a.2.1 a.2.2 0 0
def Z3{J:Type}(N:Nat)(a:List Int)(b c d e:Int)(f:LI)(h i:Int)(kn:Int->List Int->I4 (LI->I2 (Option J))):Option J :=
 cond (lk N (ao.P a (b,c) 4)) (
  kn (ao.g a (b,c) 4).2 a (ao.g a (b,c) 4).1.1 (ao.g a (b,c) 4).1.2 d e f h i) none
def Z6{J:Type}(N:Nat)(a:Int)(b:List Int)(c d e f:Int)(g:LI)(h i:Int)(kn:I2 (List Int->I4 (LI->I2 (Option J)))):Option J :=
 kn a 0 b c d e f g h i
def Z9{J:Type}(N:Nat)(c d:Int)(a:List Int)(e f b h:Int)(i:LI)(j l:Int)(kn:I2 (List Int->I4 (LI->I2 (Option J))))(k0:List Int->I4 (LI->I2 (Option J))):Option J :=
 let x1_:=(ao.g a (e,f) b);let x2_:=(eA.g (b,(h,i)) x1_.2);let x3_:=(lk N (ao.P a (e,f) b));let x0_:=(
   cond (lk N (x2_.2))
   (
   kn c (ab (d+1)) a x1_.1.1 x1_.1.2 x2_.1.1 x2_.1.2.1 x2_.1.2.2 j l)
   (
   kn c (ab (d+1)) a x1_.1.1 x1_.1.2 b h i j l))
 cond (lk N (decide (d<c)))
 (
 bC (
 bC (
 cond x3_ (
 bo x0_) none)
 (
 cond x3_ x0_ none))
 (
 bC (
 cond x3_ (
 bC (
 bo x0_)
 x0_) none)
 (
 bo (
 cond x3_ x0_ none))))
 (
 k0 a e f b h i j l)
def Z8L{J:Type}(N:Nat)(k0:List Int->I4 (LI->I2 (Option J))):Nat->Int->Int->List Int->Int->Int->Int->Int->LI->Int->Int->Option J
 |0,_,_,_,_,_,_,_,_,_,_=>none
 |M+1,a,b,c,d,e,f,g,h,i,j=>Z9 N a b c d e f g h i j (λa b c d e f g h i j=>Z8L N k0 M a b c d e f g h i j) k0
def Z8 N a b c d e f g h i j k0:=(Z8L N k0 N a b c d e f g h i j:Option J)
def Z7 N a b c d e f g h i j kn:=(Z8 N a b c d e f g h i j kn:Option J)
def Z5 N a b c d e f g h i kn:=(Z6 N a b c d e f g h i (λa j b c d e f g h i=>Z7 N a j b c d e f g h i kn):Option J)
def Z10{J:Type}(N:Nat)(b:List Int)(c d a e:Int)(f:LI)(h i:Int)(kr:LI->I2 (List Int->I2 (Option J))):Option J :=
 bo (
  cond (lk N (bY.P b (c,d) a)) (
   cond (lk N (bP.P (a,(e,f)) (bY.g b (c,d) a).2)) (
    kr (bP.g (a,(e,f)) (bY.g b (c,d) a).2).2.2 (bP.g (a,(e,f)) (bY.g b (c,d) a).2).1 (bP.g (a,(e,f)) (bY.g b (c,d) a).2).2.1 b (bY.g b (c,d) a).1.1 (bY.g b (c,d) a).1.2) none) none)
def Z4 N i a b c d e f g h kr:=(Z5 N i a b c d e f g h (λa b c d e f g h=>Z10 N a b c d e f g h kr):Option J)
def Z2 N a b c d e f g h kr:=(Z3 N a b c d e f g h (λi a b c d e f g h=>Z4 N i a b c d e f g h kr):Option J)
def Z0 N b0 r0 a kr:=(Z1 N b0 r0 a (λb c d e f g h i=>Z2 N b c d e f g h i kr):Option J)
def Spec:Prop:=∀{U:Type} (u:U) (b0:List Int) (r0:Int×Int) (v1:MT),Ty.bd (.sl 0 (.int .u8)) b0->Ty.bd (.pair (.int .i64) (.pair (.int .i64) (.sl 0 (.int .i64)))) v1->P b0 r0 v1=true->∃N0,∀N,N0<=N->Z0 N b0 r0 v1 (λv4_2 v4_0 v4_1 w0_0 w0_1 w0_2=>some (u,((w0_1,w0_2),((),((v4_0,(v4_1,v4_2)),())))))=some (u,((g b0 r0 v1).1,((),((g b0 r0 v1).2,()))))
def mut_step{m:Int×Int×List Int}{k:Int}(h:(eA.g m k).2=true):(eA.g m k).1=aO m k.toNat:=by
 unfold eA.g at h ⊢;split at h;·rename_i hc;rw[if_pos hc]
 ·cases h
structure Jd(b:List Int)(n q:Int)(s:S):Prop where
 cur:bL b s.1=true
 dim:aG s.2=true
 hn:s.2.1=n
 hr:s.2.2.1=q
def Jd.move{b:List Int}{n q:Int}{s:S}(h:Jd b n q s):Jd b n q (moveS b s):=by
 unfold moveS;by_cases hc:(eA.g s.2 (ao.g b s.1 s.2.1).2).2=true;·rw[if_pos hc,mut_step hc];exact⟨ao.keep h.cur,kH h.dim _,h.hn,h.hr⟩
 ·rw[if_neg hc];exact⟨ao.keep h.cur,h.dim,h.hn,h.hr⟩
def Jd.walk{b:List Int}{n q:Int}:∀(c:Nat) {s:S},Jd b n q s->Jd b n q (walkS b c s)
 |0,_,h=>h
 |c+1,s,h=>Jd.walk c h.move
def vh{b:List Int}{r:Int×Int}{m:Int×Int×List Int}(h:bL b r=true)(hd:aG m=true):Jd b m.1 m.2.1 (walked b r m) :=
 Jd.walk _ ⟨ao.keep h,hd,rfl,rfl⟩
def keep{b:List Int}{r:Int×Int}{m:Int×Int×List Int}(h:bL b r=true)(hd:aG m=true):bL b (g b r m).1=true:=bY.keep (vh h hd).cur
def dim{b:List Int}{r:Int×Int}{m:Int×Int×List Int}(h:bL b r=true)(hd:aG m=true):aG (g b r m).2=true/\(g b r m).2.1=m.1/\(g b r m).2.2.1=m.2.1:=by have hj:=vh h hd;refine⟨?_,hj.hn,hj.hr⟩;have:=hj.dim;simpa[aG,g,bP.g,jl]using this
def loop{J:Type}{N:Nat}{b:List Int}(kk:List Int->Int->Int->Int->Int->List Int->Int->Int->Option J)(t0 t1 n0 q0:Int){c:Nat}(hc:c<=5):∀(M i:Nat) (s:S),i<=c->Jd b n0 q0 s->c-i<M ->
  Z8L N kk M (c:Int) (i:Int) b s.1.1 s.1.2 s.2.1 s.2.2.1 s.2.2.2 t0 t1=kk b (walkS b (c-i) s).1.1 (walkS b (c-i) s).1.2 (walkS b (c-i) s).2.1 (walkS b (c-i) s).2.2.1 (walkS b (c-i) s).2.2.2 t0 t1:=by
 intro M;induction M with
 |zero=>intro i s _ _ h;omega
 |succ M ih =>
  intro i s hi hs hM;simp only[Z8L,Z9];by_cases h:i<c
  ·have es:((s.1.1,s.1.2):Int×Int)=s.1:=rfl;have em:((s.2.1,(s.2.2.1,s.2.2.2)):Int×Int×List Int)=s.2:=rfl;have hP:ao.P b s.1 s.2.1=true:=hs.cur;have w1:ab ((i:Int)+1)=((i+1:Nat):Int):=bm (by rw[bw];omega);rw[ct (dt (by omega))];have nxt:=ih (i+1) (moveS b s) h hs.move (by omega);have ec:c-i=(c-(i+1))+1:=by omega
   rw[ec];show _=kk b (walkS b (c-(i+1)) (moveS b s)).1.1 (walkS b (c-(i+1)) (moveS b s)).1.2 (walkS b (c-(i+1)) (moveS b s)).2.1 (walkS b (c-(i+1)) (moveS b s)).2.2.1 (walkS b (c-(i+1)) (moveS b s)).2.2.2 t0 t1;rw[<-nxt];simp only[ax,es,em,hP,cond_true,eE,w1];unfold moveS;cases hq:(eA.g s.2 (ao.g b s.1 s.2.1).2).2;·rw[if_neg (by simp)];rfl
   ·rw[if_pos rfl];rfl
  ·rw[cf (df (by omega)),show c-i=0 by omega];rfl
def ok:Spec:=λu b r m hb hbm hp=>⟨10,λN hN=>by
 simp only[P,Bool.and_eq_true]at hp;obtain⟨h,hd⟩:=hp;have h0:=ao.keep (n:=4) h;have p0:ao.P b r 4=true:=h;have er:((r.1,r.2):Int×Int)=r:=rfl;have hr:=ao.range (b:=b) (r:=r) (n:=4) (by omega) (by omega);simp only[Z0,Z1,Z2,Z3,ax,er,p0,cond_true,Z4,Z5,Z6,Z7,Z8];have hj:=vh h hd;obtain⟨c,hc⟩:=Int.eq_ofNat_of_zero_le hr.1;have hw:walked b r m=walkS b (c-0) ((ao.g b r 4).1,m):=by unfold walked;rw[hc];rfl
 rw[hc];refine(loop _ 0 0 m.1 m.2.1 (by omega) N 0 ((ao.g b r 4).1,m) (Nat.zero_le _) ⟨h0,hd,rfl,rfl⟩ (by omega)).trans ?_;simp only[g];rw[<-hw];have es:(((walked b r m).1.1,(walked b r m).1.2):Int×Int)=(walked b r m).1:=rfl;have em:(((walked b r m).2.1,((walked b r m).2.2.1,(walked b r m).2.2.2)):Int×Int×List Int)=(walked b r m).2:=rfl;obtain⟨n,q,hn,_,hn1,hn5,_⟩:=a7 hj.dim;have pn:bY.P b (walked b r m).1 (walked b r m).2.1=true:=by simp only[bY.P,Bool.and_eq_true,cJ];exact⟨hj.cur,by omega,by omega⟩
 have hnm:gF (bY.g b (walked b r m).1 (walked b r m).2.1).2 (walked b r m).2.1=true:=by rw[hn];exact bY.names n
 have pr:bP.P (walked b r m).2 (bY.g b (walked b r m).1 (walked b r m).2.1).2=true:=by simp only[bP.P,Bool.and_eq_true];exact⟨hj.dim,hnm⟩
 simp only[Z10,ax,es,em,pn,pr,cond_true,eE]⟩
end bG
namespace cF
def P(b:List Int)(r:Int×Int)(most:Int):Bool:=bL b r&&bR most 1 4
def g(b:List Int)(r:Int×Int)(most:Int):(Int×Int)×(Int×Int×List Int)×ByteArray :=
 ((bG.g b (spec_dTree.g b r most).1 (spec_dTree.g b r most).2.1).1,(bG.g b (spec_dTree.g b r most).1 (spec_dTree.g b r most).2.1).2,(spec_dTree.g b r most).2.2)
def Z0{J:Type}(N:Nat)(b0:List Int)(r0:Int×Int)(a:Int)(kr:LI->ByteArray->I2 (List Int->I2 (Option J))):Option J :=
 cond (lk N (spec_dTree.P b0 r0 a)) (
  cond (lk N (bG.P b0 (spec_dTree.g b0 r0 a).1 (spec_dTree.g b0 r0 a).2.1)) (
   kr (bG.g b0 (spec_dTree.g b0 r0 a).1 (spec_dTree.g b0 r0 a).2.1).2.2.2 (spec_dTree.g b0 r0 a).2.2 (bG.g b0 (spec_dTree.g b0 r0 a).1 (spec_dTree.g b0 r0 a).2.1).2.1 (bG.g b0 (spec_dTree.g b0 r0 a).1 (spec_dTree.g b0 r0 a).2.1).2.2.1 b0 (bG.g b0 (spec_dTree.g b0 r0 a).1 (spec_dTree.g b0 r0 a).2.1).1.1 (bG.g b0 (spec_dTree.g b0 r0 a).1 (spec_dTree.g b0 r0 a).2.1).1.2) none) none
def Spec:Prop:=∀{U:Type} (u:U) (b0:List Int) (r0:Int×Int) (v1:Int),Ty.bd (.sl 0 (.int .u8)) b0->P b0 r0 v1=true->∃N0,∀N,N0<=N->Z0 N b0 r0 v1 (λv4_2 v5 v4_0 v4_1 w0_0 w0_1 w0_2=>some (u,((w0_1,w0_2),((),((v4_0,(v4_1,v4_2)),(v5,()))))))=some (u,((g b0 r0 v1).1,((),((g b0 r0 v1).2.1,((g b0 r0 v1).2.2,())))))
def facts{b:List Int}{r:Int×Int}{most:Int}(h:bL b r=true)(h1:1<=most)(h4:most<=4):bL b (g b r most).1=true/\aG (g b r most).2.1=true/\(g b r most).2.1.1<=4/\(g b r most).2.1.2.1=(g b r most).2.1.1:=by obtain⟨q,q1,q4,hj⟩:=spec_dTree.facts h h1 h4;obtain⟨d1,d2,d3⟩:=bG.dim hj.cur hj.dim;have e1:=hj.hn;have e2:=hj.hr;exact⟨bG.keep hj.cur hj.dim,d1,by show(bG.g b _ _).2.1<=4;rw[d2,e1];exact q4,by show(bG.g b _ _).2.2.1=(bG.g b _ _).2.1;rw[d2,d3,e1,e2]⟩
def ok:Spec:=λu b r most hb hp=>⟨0,λN hN=>by
 simp only[P,Bool.and_eq_true,cJ]at hp;obtain⟨q,q1,q4,hj⟩:=spec_dTree.facts hp.1 hp.2.1 hp.2.2;have p1:spec_dTree.P b r most=true:=by simp only[spec_dTree.P,Bool.and_eq_true,cJ];exact⟨hp.1,hp.2⟩
 have p2:bG.P b (spec_dTree.g b r most).1 (spec_dTree.g b r most).2.1=true:=by simp only[bG.P,Bool.and_eq_true];exact⟨hj.cur,hj.dim⟩
 simp only[Z0,ax,p1,p2,cond_true];rfl⟩
end cF
namespace cL
def P(b:List Int)(r:Int×Int)(n most:Int):Bool:=bL b r&&bR most 0 100
def lX(b:List Int)(n:Int)(s:(Int×Int)×List Int):(Int×Int)×List Int:=((ao.g b s.1 n).1,s.2++[(ao.g b s.1 n).2])
def jq(b:List Int)(n:Int):Nat->(Int×Int)×List Int->(Int×Int)×List Int
 |0,s=>s
 |c+1,s=>jq b n c (lX b n s)
def g(b:List Int)(r:Int×Int)(n most:Int):(Int×Int)×List Int:=jq b n (ao.g b r (most+1)).2.toNat ((ao.g b r (most+1)).1,[])
def Z1{J:Type}(N:Nat)(b0:List Int)(r0:Int×Int)(a b:Int)(kn:I2 (List Int->I2 (Option J))):Option J :=
 kn a b b0 r0.1 r0.2
def Z3{J:Type}(N:Nat)(a b:Int)(c:List Int)(d e:Int)(kn:LI->I2 (List Int->I2 (Option J))):Option J :=
 kn ([]:List Int) a b c d e
def Z5{J:Type}(N:Nat)(e:LI)(f b:Int)(a:List Int)(c d:Int)(kn:LI->I2 (List Int->I2 (Option J))):Option J :=
 cond (lk N (ao.P a (c,d) (ab (b+1)))) (
  kn e f (ao.g a (c,d) (ab (b+1))).2 a (ao.g a (c,d) (ab (b+1))).1.1 (ao.g a (c,d) (ab (b+1))).1.2) none
def Z8{J:Type}(N:Nat)(a:LI)(b c:Int)(d:List Int)(e f:Int)(kn:LI->I3 (List Int->I2 (Option J))):Option J :=
 kn a b c 0 d e f
def Z11{J:Type}(N:Nat)(e:LI)(b f h:Int)(a:List Int)(c d:Int)(kn:LI->I3 (List Int->I2 (Option J)))(k0:LI->List Int->I2 (Option J)):Option J :=
 cond (lk N (decide (h<f)))
 (
  cond (lk N (ao.P a (c,d) b)) (
   cond (lk N (Nat.blt (e.length+([(ao.g a (c,d) b).2]:List Int).length) 1099511627776)) (
    kn (e++([(ao.g a (c,d) b).2]:List Int)) b f (ab (h+1)) a (ao.g a (c,d) b).1.1 (ao.g a (c,d) b).1.2) none) none)
 (
  k0 e a c d)
def Z10L{J:Type}(N:Nat)(k0:LI->List Int->I2 (Option J)):Nat->LI->Int->Int->Int->List Int->Int->Int->Option J
 |0,_,_,_,_,_,_,_=>none
 |M+1,a,b,c,d,e,f,g=>Z11 N a b c d e f g (λa b c d e f g=>Z10L N k0 M a b c d e f g) k0
def Z10 N a b c d e f g k0:=(Z10L N k0 N a b c d e f g:Option J)
def Z9 N a b c d e f g kn:=(Z10 N a b c d e f g kn:Option J)
def Z7 N a b c d e f kn:=(Z8 N a b c d e f (λa b c g d e f=>Z9 N a b c g d e f kn):Option J)
def Z12{J:Type}(N:Nat)(a:LI)(b:List Int)(c d:Int)(kr:LI->List Int->I2 (Option J)):Option J :=
 kr a b c d
def Z6 N a e f b c d kr:=(Z7 N a e f b c d (λa b c d=>Z12 N a b c d kr):Option J)
def Z4 N a b f c d e kr:=(Z5 N a b f c d e (λa b g c d e=>Z6 N a b g c d e kr):Option J)
def Z2 N a b c d e kr:=(Z3 N a b c d e (λf a b c d e=>Z4 N f a b c d e kr):Option J)
def Z0 N b0 r0 a b kr:=(Z1 N b0 r0 a b (λa b c d e=>Z2 N a b c d e kr):Option J)
def Spec:Prop:=∀{U:Type} (u:U) (b0:List Int) (r0:Int×Int) (v1 v2:Int),Ty.bd (.sl 0 (.int .u8)) b0->P b0 r0 v1 v2=true->∃N0,∀N,N0<=N->Z0 N b0 r0 v1 v2 (λv6 w0_0 w0_1 w0_2=>some (u,((w0_1,w0_2),((),(v6,())))))=some (u,((g b0 r0 v1 v2).1,((),((g b0 r0 v1 v2).2,()))))
def loop{J:Type}{N:Nat}{b:List Int}(n:Int)(k0:List Int->List Int->Int->Int->Option J){c:Nat}(hc:c<=101):∀(M i:Nat) (s:(Int×Int)×List Int),i<=c->bL b s.1=true->s.2.length+(c-i)<=1000->c-i<M ->
  Z10L N k0 M s.2 n (c:Int) (i:Int) b s.1.1 s.1.2=k0 (jq b n (c-i) s).2 b (jq b n (c-i) s).1.1 (jq b n (c-i) s).1.2:=by
 intro M;induction M with
 |zero=>intro i s _ _ _ h;omega
 |succ M ih =>
  intro i s hi hs hl hM;simp only[Z10L,Z11];by_cases h:i<c;·have es:((s.1.1,s.1.2):Int×Int)=s.1:=rfl;have hP:ao.P b s.1 n=true:=hs;have w1:ab ((i:Int)+1)=((i+1:Nat):Int):=bm (by rw[bw];omega);have c1:Nat.blt (s.2.length+([(ao.g b s.1 n).2]:List Int).length) 1099511627776=true:=Nat.ble_eq_true_of_le (by rw[List.length_singleton];omega);rw[ct (dt (by omega)),es,ct hP,ct c1,w1,show c-i=(c-(i+1))+1 by omega];exact ih (i+1) (lX b n s) h (ao.keep hs) (by simp[lX];omega) (by omega)
  ·rw[cf (df (by omega)),show c-i=0 by omega];rfl
def ok:Spec:=λu b r n most hb hp=>⟨200,λN hN=>by simp only[P,Bool.and_eq_true,cJ]at hp;obtain⟨h,hm⟩:=hp;have h0:=ao.keep (n:=most+1) h;have hr:=ao.range (b:=b) (r:=r) (n:=most+1) (by omega) (by omega);have er:((r.1,r.2):Int×Int)=r:=rfl;have p0:ao.P b r (most+1)=true:=h;simp only[Z1,Z3,Z5,Z8,Z11,Z10,Z9,Z7,Z12,Z6,Z4,Z2,Z0];rw[er,aI (n:=most+1) (by omega) (by omega),ct p0];obtain⟨c,hc⟩:=Int.eq_ofNat_of_zero_le hr.1;have key:=λ{J:Type} (k0:List Int->List Int->Int->Int->Option J)=>loop (J:=J) (N:=N) n k0 (c:=c) (by omega) N 0 ((ao.g b r (most+1)).1,[]) (Nat.zero_le _) h0 (by simp;omega) (by omega);rw[hc];refine(key _).trans ?_;unfold g;rw[hc];rfl⟩
end cL
namespace fq
def g(b:List Int):(Int×Int×List Int)×ByteArray×List Int:=((cF.g b (cd.g b) 3).2.1,(cF.g b (cd.g b) 3).2.2,(cL.g b (cF.g b (cd.g b) 3).1 (cF.g b (cd.g b) 3).2.1.1 7).2)
def Z0{J:Type}(N:Nat)(a:List Int)(kr:LI->LI->ByteArray->I2 (Option J)):Option J :=
 cond (lk N (cF.P a (cd.g a) 3)) (
  bo (
   cond (lk N (cL.P a (cF.g a (cd.g a) 3).1 (cF.g a (cd.g a) 3).2.1.1 7)) (
    kr (cL.g a (cF.g a (cd.g a) 3).1 (cF.g a (cd.g a) 3).2.1.1 7).2 (cF.g a (cd.g a) 3).2.1.2.2 (cF.g a (cd.g a) 3).2.2 (cF.g a (cd.g a) 3).2.1.1 (cF.g a (cd.g a) 3).2.1.2.1) none)) none
def Spec:Prop:=∀ (v0:List Int),Ty.bd (.sl 0 (.int .u8)) v0->∃N0,∀N,N0<=N->Z0 N v0 (λv4 v2_2 v3 v2_0 v2_1=>some ((),((v2_0,(v2_1,v2_2)),(v3,(v4,())))))=some ((),((g v0).1,((g v0).2.1,((g v0).2.2,()))))
def ID{b:List Int}(h:b.length<=maxLen):bL b (cd.g b)=true:=by rw[uH];exact⟨Int.le_refl 0,by show(0:Int)<=_;omega,h⟩
def ok:Spec:=λb hb=>⟨0,λN hN=>by
 have h0:=ID hb.1;obtain⟨h1,d1,n4,hsq⟩:=cF.facts (most:=3) h0 (by omega) (by omega);have p1:cF.P b (cd.g b) 3=true:=by simp only[cF.P,Bool.and_eq_true,cJ];exact⟨h0,by omega,by omega⟩
 have p2:cL.P b (cF.g b (cd.g b) 3).1 (cF.g b (cd.g b) 3).2.1.1 7=true:=by simp only[cL.P,Bool.and_eq_true,cJ];exact⟨h1,by omega,by omega⟩
 simp only[Z0,ax,p1,p2,cond_true,bo,eE];rfl⟩
end fq
namespace eQ
def g(n low high:Int):Bool:=bR n low high
def Z0{J:Type}(N:Nat)(a b c:Int)(kr:Bool->Option J):Option J :=
 cond (lk N (decide (b<=a)))
 (
  kr (lk N (decide (a<=c))))
 (
  kr false)
def Spec:Prop:=∀ (v0 v1 v2:Int),∃N0,∀N,N0<=N->Z0 N v0 v1 v2 (λv6=>some ((),(v6,())))=some ((),((g v0 v1 v2),()))
def ok:Spec:=λn low high=>⟨0,λN hN=>by simp only[Z0,ax,g,bR];cases decide (low<=n)<;>rfl⟩
end eQ
namespace eR
def g(x:Int):Bool:=!bR x (-99) 99
def Z0{J:Type}(N:Nat)(a:Int)(kr:Bool->Option J):Option J :=
 kr (!(lk N ((eQ.g a (-99) 99))))
def Spec:Prop:=∀ (v0:Int),∃N0,∀N,N0<=N->Z0 N v0 (λv2=>some ((),(v2,())))=some ((),((g v0),()))
def ok:Spec:=λn=>⟨0,λN hN=>by simp only[Z0,g,ax,eQ.g]⟩
end eR
namespace dW
def go(p:Int->Bool):List Int->Nat->Int
 |[],_=>-1
 |x::xs,j=>if p x=true then(j:Int)else go p xs (j+1)
def g(s:List Int)(_:Unit):Int:=go eR.g s 0
def Z1{J:Type}(N:Nat)(a:LI)(b:Unit)(kn:LI->Option J):Option J :=
 kn a
def Z4{J:Type}(N:Nat)(a:LI)(kn:LI->I2 (Option J)):Option J :=
 kn a (a.length:Int) 0
def Z7{J:Type}(N:Nat)(b:LI)(c a:Int)(kn:LI->I2 (Option J))(k0:Option J)(kr:Int->Option J):Option J :=
 cond (lk N (decide (a<c)))
 (
  cond (lk N (au a b.length)) (
   cond (lk N ((eR.g (b.getD a.toNat 0))))
   (
    kr a)
   (
    kn b c (ab (a+1)))) none)
 (
  k0)
def Z6L{J:Type}(N:Nat)(k0:Option J)(kr:Int->Option J):Nat->LI->Int->Int->Option J
 |0,_,_,_=>none
 |M+1,a,b,c=>Z7 N a b c (λa b c=>Z6L N k0 kr M a b c) k0 kr
def Z6 N a b c k0 kr:=(Z6L N k0 kr N a b c:Option J)
def Z5 N a b c kn kr:=(Z6 N a b c kn kr:Option J)
def Z3 N a kn kr:=(Z4 N a (λa b c=>Z5 N a b c kn kr):Option J)
def Z8{J:Type}(N:Nat) (kr:Int->Option J):Option J :=
 kr (-1)
def Z2 N a kr:=(Z3 N a (Z8 N kr) kr:Option J)
def Z0 N a b kr:=(Z1 N a b (λa=>Z2 N a kr):Option J)
def Spec:Prop:=∀ (v0:LI) (v1:Unit),Ty.bd (.sl 0 (.int .i64)) v0->∃N0,∀N,N0<=N->Z0 N v0 v1 (λv4=>some ((),(v4,())))=some ((),((g v0 v1),()))
def loop{J:Type}(N:Nat)(kr:Int->Option J)(a:List Int)(ha:a.length<=maxLen):∀(M j:Nat),j<=a.length->a.length-j<M ->
  Z6L N (kr (-1)) kr M a (a.length:Int) (j:Int)=kr (go eR.g (a.drop j) j):=by
 intro M;induction M with
 |zero=>intro j _ h;omega
 |succ M ih =>
  intro j hj hM;simp only[Z6L,Z7];by_cases h:j<a.length
  ·rw[ct (dt (by omega)),ct (aU h),Int.toNat_natCast,bm (by omega),ih (j+1) h (by omega),f5 0 h,go];cases e:eR.g (a.getD j 0);·rw[cf rfl,if_neg (by simp)]
   ·rw[ct rfl,if_pos rfl]
  ·rw[cf (df (by omega)),List.drop_of_length_le (by omega),go]
def ok:Spec:=λa _ ha=>⟨a.length+1,λN hN=>by simp only[Z1,Z4,Z7,Z6,Z5,Z3,Z8,Z2,Z0];exact(loop N (λt=>some ((),(t,()))) a ha.1 N 0 (by omega) (by omega)).trans rfl⟩
def go_pos(p:Int->Bool):∀(l:List Int) (j:Nat),0<=go p l j↔∃x∈l,p x=true
 |[],j=>by simp[go]
 |x::xs,j=>by
  rw[go];by_cases h:p x=true;·rw[if_pos h];simp[h]
  ·rw[if_neg h,go_pos p xs];simp[h]
end dW
namespace iI
def g(s:List Int)(_:Unit):Bool:=s.any eR.g
def Z0{J:Type}(N:Nat)(a:LI)(b:Unit)(kr:Bool->Option J):Option J :=
 kr (lk N (decide (0<=(dW.g a ()))))
def Spec:Prop:=∀ (v0:LI) (v1:Unit),Ty.bd (.sl 0 (.int .i64)) v0->∃N0,∀N,N0<=N->Z0 N v0 v1 (λv4=>some ((),(v4,())))=some ((),((g v0 v1),()))
def ok:Spec:=λa _ ha=>⟨0,λN hN=>by
 simp only[Z0,ax,g];have:=(show 0<=dW.g a ()↔∃x∈a,eR.g x=true from dW.go_pos eR.g a 0);cases e:a.any eR.g;·rw[df (λh=>by have:=this.1 h;rw[<-List.any_eq_true,e]at this;cases this)]
 ·rw[dt (this.2 (List.any_eq_true.1 e))]⟩
end iI
namespace iJ
def g(m:Int×Int×List Int):Bool:=bH m
def Z0{J:Type}(N:Nat)(a:MT)(kr:Bool->Option J):Option J :=
 cond (lk N ((eQ.g a.1 1 5)))
 (
  cond (lk N ((eQ.g a.2.1 a.1 8)))
  (
   cond (lk N (decide ((a.2.2.length:Int)=(ab (a.1*a.2.1)))))
   (
    kr (!(lk N ((iI.g a.2.2 ())))))
   (
    kr false))
  (
   kr false))
 (
  kr false)
def Spec:Prop:=∀ (v0:MT),Ty.bd (.pair (.int .i64) (.pair (.int .i64) (.sl 0 (.int .i64)))) v0->∃N0,∀N,N0<=N->Z0 N v0 (λv2=>some ((),(v2,())))=some ((),((g v0),()))
def ok:Spec:=λm hb=>⟨0,λN hN=>by
 simp only[Z0,g,ax,eQ.g,bH,aG,iI.g,List.not_any_eq_all_not,fL];cases h1:bR m.1 1 5;·rfl
 cases h2:bR m.2.1 m.1 8;·rfl
 have e1:=cJ.1 h1;have e2:=cJ.1 h2;have e3:0<=m.1*m.2.1:=Int.mul_nonneg (by omega) (by omega);have e4:m.1*m.2.1<=5*8:=Int.mul_le_mul (by omega) (by omega) (by omega) (by omega);rw[aI (by omega) (by omega)];cases h3:decide ((m.2.2.length:Int)=m.1*m.2.1);·rfl
 simp[eR.g]⟩
end iJ
namespace cn
def P(m:Int×Int×List Int)(i j:Int):Bool:=lM m i j
def g(m:Int×Int×List Int)(i j:Int):Int:=lN m i j
def Z0{J:Type}(N:Nat)(a:MT)(b c:Int)(kr:Int->Option J):Option J :=
 cond (lk N (au (ab ((ab (b*a.1))+c)) a.2.2.length)) (
  kr (a.2.2.getD (ab ((ab (b*a.1))+c)).toNat 0)) none
def Spec:Prop:=∀ (v0:MT) (v1 v2:Int),Ty.bd (.pair (.int .i64) (.pair (.int .i64) (.sl 0 (.int .i64)))) v0->P v0 v1 v2=true->∃N0,∀N,N0<=N->Z0 N v0 v1 v2 (λv6=>some ((),(v6,())))=some ((),((g v0 v1 v2),()))
def ok:Spec:=λm i j hb hp=>⟨0,λN hN=>by obtain⟨h1,h2,h3⟩:=zp hb.2.2.1 hp;simp only[Z0,g,lN,h1];rw[ct (zf h2 h3)]⟩
end cn
namespace cx
def P(a b:Int):Bool:=decide (0<=a)&&(decide (a<9223372036854775808)&&(decide (0<=b)&&decide (b<9223372036854775808)))
def g(a b:Int):Int:=(Int.gcd a b:Int)
def Z1{J:Type}(N:Nat)(a b:Int)(kn:I2 (Option J)):Option J :=
 kn a b
def Z5{J:Type}(N:Nat)(b a:Int)(kn:I2 (Option J))(k0:Int->Option J):Option J :=
 cond (lk N (!(decide (a=0))))
 (
  cond (lk N (!(decide (a=0)))) (
   kn a (Int.tmod b a)) none)
 (
  k0 b)
def Z4L{J:Type}(N:Nat)(k0:Int->Option J):Nat->Int->Int->Option J
 |0,_,_=>none
 |M+1,a,b=>Z5 N a b (λa b=>Z4L N k0 M a b) k0
def Z4 N a b k0:=(Z4L N k0 N a b:Option J)
def Z3 N a b kn:=(Z4 N a b kn:Option J)
def Z6{J:Type}(N:Nat)(a:Int)(kr:Int->Option J):Option J :=
 kr (mx a (ab (0-a)))
def Z2 N a b kr:=(Z3 N a b (λa=>Z6 N a kr):Option J)
def Z0 N a b kr:=(Z1 N a b (λa b=>Z2 N a b kr):Option J)
def Spec:Prop:=∀ (v0 v1:Int),P v0 v1=true->∃N0,∀N,N0<=N->Z0 N v0 v1 (λv4=>some ((),(v4,())))=some ((),((g v0 v1),()))
def loop{J:Type}(N:Nat)(k0:Int->Option J):∀(M:Nat) (a b:Nat),b<M->Z4L N k0 M (a:Int) (b:Int)=k0 (Nat.gcd b a:Nat):=by
 intro M;induction M with
 |zero=>intro a b h;omega
 |succ M ih =>
  intro a b hM;simp only[Z4L,Z5];by_cases h:b=0;·subst h;rw[cf (by simp),Nat.gcd_zero_left]
  ·rw[ct (nt (by omega)),ct (nt (by omega)),show Int.tmod (a:Int) (b:Int)=((a%b:Nat):Int)from rfl,ih _ _ (by have:=Nat.mod_lt a (Nat.pos_of_ne_zero h);omega),<-Nat.gcd_rec]
def ok:Spec:=λa b hp=>⟨b.toNat+1,λN hN=>by
 simp only[P,Bool.and_eq_true,decide_eq_true_eq]at hp;obtain⟨h1,h2,h3,h4⟩:=hp;obtain⟨x,rfl⟩:=Int.eq_ofNat_of_zero_le h1;obtain⟨y,rfl⟩:=Int.eq_ofNat_of_zero_le h3;simp only[Z1,Z5,Z4,Z3,Z6,Z2,Z0,g];rw[loop N _ N x y (by omega),Nat.gcd_comm];have hl:Nat.gcd x y<=max x y:=by
  rcases Nat.eq_zero_or_pos x with h|h;·subst h;rw[Nat.gcd_zero_left];omega
  ·have:=Nat.gcd_le_left y h;omega
 show some ((),(mx ((Nat.gcd x y:Nat):Int) (ab (0-((Nat.gcd x y:Nat):Int))),()))=some ((),(((Nat.gcd x y:Nat):Int),()));rw[aI (by omega) (by omega),uE];congr 3;omega⟩
end cx
namespace aD
def P(m:Int×Int×List Int):Bool:=bH m
abbrev g(m:Int×Int×List Int):List Int:=bc m
def Z1{J:Type}(N:Nat)(a:MT)(kn:I2 (LI->Option J)):Option J :=
 kn a.1 a.2.1 a.2.2
def Z3{J:Type}(N:Nat)(a b:Int)(c:LI)(kn:LI->LI->I2 (LI->Option J)):Option J :=
 bo (
  cond (lk N (bu 0 a&&decide (a<1099511627776))) (
   cond (lk N (bu 0 a&&decide (a<1099511627776))) (
    kn (List.replicate a.toNat (0:Int)) (List.replicate a.toNat (0:Int)) a b c) none) none)
def Z5{J:Type}(N:Nat)(b c:LI)(a d:Int)(e:LI)(kn:LI->LI->LI->I2 (LI->Option J)):Option J :=
 cond (lk N (bu 0 a&&decide (a<1099511627776))) (
  kn b c (List.replicate a.toNat (0:Int)) a d e) none
def Z8{J:Type}(N:Nat)(a b c:LI)(d e:Int)(f:LI)(kn:LI->LI->LI->I4 (LI->Option J)):Option J :=
 kn a b c (a.length:Int) 0 d e f
def Z12{J:Type}(N:Nat)(c d e:LI)(a b f g:Int)(h:LI)(kn:LI->LI->LI->I2 (Bool->I2 (LI->Option J))):Option J :=
 kn c d e a b (lk N (decide (b<a))) f g h
def Z14{J:Type}(N:Nat)(b c a:LI)(d e:Int)(f:Bool)(g h:Int)(i:LI)(kn:LI->LI->LI->I4 (LI->Option J))(k0:LI->Option J):Option J :=
 cond (f)
 (
  kn b c a d e g h i)
 (
  k0 a)
def Z18{J:Type}(N:Nat)(b c d:LI)(e a f g:Int)(h:LI)(kn:LI->LI->LI->I5 (LI->Option J)):Option J :=
 kn b c d a e a f g h
def Z20{J:Type}(N:Nat)(a c d:LI)(b e f g h:Int)(i:LI)(kn:LI->LI->LI->I5 (LI->Option J))(k1:LI->LI->LI->I4 (LI->Option J)):Option J :=
 cond (lk N (au b a.length)) (
  cond (lk N (!(decide ((a.getD b.toNat 0)=0))))
  (
   k1 a c d e f g h i)
  (
   kn a c d b e f g h i)) none
def Z22{J:Type}(N:Nat)(b c d:LI)(a e f g h:Int)(i:LI)(kn:LI->LI->LI->I5 (LI->Option J)):Option J :=
 cond (lk N (au a b.length)) (
  cond (lk N (au a c.length)) (
   kn (b.set a.toNat 1) (c.set a.toNat 1) d a e f g h i) none) none
def Z24{J:Type}(N:Nat)(a b c:LI)(d e f g h:Int)(i:LI)(kn:LI->LI->LI->LI->I4 (LI->Option J)):Option J :=
 kn a b c ([d]:List Int) e f g h i
def Z27{J:Type}(N:Nat)(a b c d:LI)(e f g h:Int)(i:LI)(kn:LI->LI->LI->LI->I5 (LI->Option J)):Option J :=
 kn a b c d 0 e f g h i
def Z31{J:Type}(N:Nat)(b c d a:LI)(e f g h i:Int)(j:LI)(kn:LI->LI->LI->LI->I5 (LI->Option J))(k2:LI->LI->LI->LI->I4 (LI->Option J)):Option J :=
 cond (lk N (decide (e<(a.length:Int))))
 (
  kn b c d a e f g h i j)
 (
  k2 b c d a f g h i j)
def Z35{J:Type}(N:Nat)(c d e a:LI)(b f g h i:Int)(j:LI)(kn:LI->LI->LI->LI->I6 (LI->Option J)):Option J :=
 cond (lk N (au b a.length)) (
  kn c d e a b (a.getD b.toNat 0) f g h i j) none
def Z37{J:Type}(N:Nat)(a b c d:LI)(e f g h i j:Int)(l:LI)(kn:LI->LI->LI->LI->I8 (LI->Option J)):Option J :=
 kn a b c d e f g h (a.length:Int) 0 i j l
def Z41{J:Type}(N:Nat)(c d e f:LI)(g h i j a b l m:Int)(o:LI)(kn:LI->LI->LI->LI->I6 (Bool->I2 (LI->Option J))):Option J :=
 kn c d e f g h i j a b (lk N (decide (b<a))) l m o
def Z43{J:Type}(N:Nat)(a b c d:LI)(e l f g m o:Int)(p:Bool)(h i:Int)(j:LI)(kn:LI->LI->LI->LI->I8 (LI->Option J))(k4:LI->LI->LI->LI->I5 (LI->Option J)):Option J :=
 cond (p)
 (
  kn a b c d e l f g m o h i j)
 (
  k4 a b c d e f g h i j)
def Z47{J:Type}(N:Nat)(b c d e:LI)(f g h i j a l m:Int)(o:LI)(kn:LI->LI->LI->LI->Int->I8 (LI->Option J)):Option J :=
 kn b c d e f g a h i j a l m o
def Z49{J:Type}(N:Nat)(f h i j:LI)(l a b m o p q c d:Int)(e:LI)(kn:LI->LI->LI->LI->I3 (I8 (LI->Option J))):Option J :=
 cond (lk N (cn.P (c,(d,e)) a b)) (
  cond (lk N (cn.P (c,(d,e)) b a)) (
   kn f h i j l a b (cn.g (c,(d,e)) a b) (ab (0-(cn.g (c,(d,e)) b a))) m o p q c d e) none) none
def Z51{J:Type}(N:Nat)(a b c d:LI)(e f r g h i j l m o p:Int)(q:LI)(kn:LI->LI->LI->LI->I3 (I8 (LI->Option J)))(k5:LI->LI->LI->LI->I8 (LI->Option J)):Option J :=
 cond (lk N (decide (g=0)))
 (
  cond (lk N (decide (h=0)))
  (
   k5 a b c d e f i j l m o p q)
  (
   kn a b c d e f r g h i j l m o p q))
 (
  kn a b c d e f r g h i j l m o p q)
def Z52{J:Type}(N:Nat)(b c i h:LI)(j d a e f l m o p q r:Int)(s:LI)(kn:LI->LI->LI->LI->I8 (LI->Option J))(kr:LI->Option J):Option J :=
 let x1_:=(ab ((b.getD d.toNat 0)*(mx e (ab (0-e)))));let x2_:=(ab ((c.getD d.toNat 0)*(mx f (ab (0-f)))));let x0_:=(cx.g x1_ x2_);cond (lk N (decide (e=0)))
 (
 kr ([]:List Int))
 (
 cond (lk N (decide (f=0)))
 (
 kr ([]:List Int))
 (
 cond (lk N (!(((lk N (decide (0<e))) == (lk N (decide (0<f)))))))
 (
 kr ([]:List Int))
 (
 cond (lk N (decide (d=a)))
 (
 kr ([]:List Int))
 (
 cond (lk N (au d b.length)) (
 cond (lk N (au d c.length)) (
 cond (lk N (cx.P x1_ x2_)) (
 cond (lk N (!(decide (x0_=0)))) (
 cond (lk N (!(decide (x0_=0)))) (
 cond (lk N (au a b.length)) (
 cond (lk N (decide ((b.getD a.toNat 0)=0)))
 (
 cond (lk N (au a b.length)) (
 cond (lk N (au a c.length)) (
 cond (lk N (Nat.blt (h.length+([a]:List Int).length) 1099511627776)) (
 kn (b.set a.toNat (ab (Int.tdiv x1_ x0_))) (c.set a.toNat (ab (Int.tdiv x2_ x0_))) i (h++([a]:List Int)) j d l m o p q r s) none) none) none)
 (
 cond (lk N (au a b.length)) (
 cond (lk N (!(decide ((b.getD a.toNat 0)=(ab (Int.tdiv x1_ x0_))))))
 (
 kr ([]:List Int))
 (
 cond (lk N (au a c.length)) (
 cond (lk N (!(decide ((c.getD a.toNat 0)=(ab (Int.tdiv x2_ x0_))))))
 (
 kr ([]:List Int))
 (
 kn b c i h j d l m o p q r s)) none)) none)) none) none) none) none) none) none))))
def Z50 N a b c d e f g h i j l m o p q r kn k5 kr:=(Z51 N a b c d e f g h i j l m o p q r (λa b c d e f g h i j l m o p q r=>Z52 N a b c d e f g h i j l m o p q r kn kr) k5:Option J)
def Z48 N a b c d e f g h i j l m o p kn k5 kr:=(Z49 N a b c d e f g h i j l m o p (λa b c d e f g q r h i j l m o p=>Z50 N a b c d e f g q r h i j l m o p kn k5 kr):Option J)
def Z46 N a b c d e f g h i j l m o kn k5 kr:=(Z47 N a b c d e f g h i j l m o (λa b c d e f p g h i j l m o=>Z48 N a b c d e f p g h i j l m o kn k5 kr):Option J)
def Z45 N a b c d e f g h i j l m o kn kr:=(Z46 N a b c d e f g h i j l m o kn kn kr:Option J)
def Z53{J:Type}(N:Nat)(a b c d:LI)(e f g h i j l m:Int)(o:LI)(kn:LI->LI->LI->LI->I8 (LI->Option J)):Option J :=
 kn a b c d e f g h i (ab (j+1)) l m o
def Z44 N a b c d e f g h i j l m o kn kr:=(Z45 N a b c d e f g h i j l m o (λa b c d e f g h i j l m o=>Z53 N a b c d e f g h i j l m o kn) kr:Option J)
def Z42 N a b c d e f g h i j p l m o kn k4 kr:=(Z43 N a b c d e f g h i j p l m o (λa b c d e f g h i j l m o=>Z44 N a b c d e f g h i j l m o kn kr) k4:Option J)
def Z40 N a b c d e f g h i j l m o kn k4 kr:=(Z41 N a b c d e f g h i j l m o (λa b c d e f g h i j p l m o=>Z42 N a b c d e f g h i j p l m o kn k4 kr):Option J)
def Z39L{J:Type}(N:Nat)(k4:LI->LI->LI->LI->I5 (LI->Option J))(kr:LI->Option J):Nat->LI->LI->LI->LI->Int->Int->Int->Int->Int->Int->Int->Int->LI->Option J
 |0,_,_,_,_,_,_,_,_,_,_,_,_,_=>none
 |M+1,a,b,c,d,e,f,g,h,i,j,l,m,o=>Z40 N a b c d e f g h i j l m o (λa b c d e f g h i j l m o=>Z39L N k4 kr M a b c d e f g h i j l m o) k4 kr
def Z39 N a b c d e f g h i j l m o k4 kr:=(Z39L N k4 kr N a b c d e f g h i j l m o:Option J)
def Z38 N a b c d e f g h i j l m o kn kr:=(Z39 N a b c d e f g h i j l m o kn kr:Option J)
def Z36 N a b c d e f g h i j l kn kr:=(Z37 N a b c d e f g h i j l (λa b c d e f g h m o i j l=>Z38 N a b c d e f g h m o i j l kn kr):Option J)
def Z34 N a b c d e f g h i j kn kr:=(Z35 N a b c d e f g h i j (λa b c d e l f g h i j=>Z36 N a b c d e l f g h i j kn kr):Option J)
def Z33 N a b c d e f g h i j kn kr:=(Z34 N a b c d e f g h i j kn kr:Option J)
def Z54{J:Type}(N:Nat)(a b c d:LI)(e f g h i:Int)(j:LI)(kn:LI->LI->LI->LI->I5 (LI->Option J)):Option J :=
 kn a b c d (ab (e+1)) f g h i j
def Z32 N a b c d e f g h i j kn kr:=(Z33 N a b c d e f g h i j (λa b c d e f g h i j=>Z54 N a b c d e f g h i j kn) kr:Option J)
def Z30 N a b c d e f g h i j kn k2 kr:=(Z31 N a b c d e f g h i j (λa b c d e f g h i j=>Z32 N a b c d e f g h i j kn kr) k2:Option J)
def Z29L{J:Type}(N:Nat)(k2:LI->LI->LI->LI->I4 (LI->Option J))(kr:LI->Option J):Nat->LI->LI->LI->LI->Int->Int->Int->Int->Int->LI->Option J
 |0,_,_,_,_,_,_,_,_,_,_=>none
 |M+1,a,b,c,d,e,f,g,h,i,j=>Z30 N a b c d e f g h i j (λa b c d e f g h i j=>Z29L N k2 kr M a b c d e f g h i j) k2 kr
def Z29 N a b c d e f g h i j k2 kr:=(Z29L N k2 kr N a b c d e f g h i j:Option J)
def Z28 N a b c d e f g h i j kn kr:=(Z29 N a b c d e f g h i j kn kr:Option J)
def Z26 N a b c d e f g h i kn kr:=(Z27 N a b c d e f g h i (λa b c d j e f g h i=>Z28 N a b c d j e f g h i kn kr):Option J)
def Z56{J:Type}(N:Nat)(a b c d:LI)(e f g h:Int)(i:LI)(kn:LI->LI->LI->LI->I5 (LI->Option J)):Option J :=
 kn a b c d 1 e f g h i
def Z59{J:Type}(N:Nat)(b c d a:LI)(e f g h i:Int)(j:LI)(kn:LI->LI->LI->LI->I7 (LI->Option J)):Option J :=
 kn b c d a e f g (a.length:Int) 0 h i j
def Z62{J:Type}(N:Nat)(e c f a:LI)(d h i j b l m:Int)(o:LI)(kn:LI->LI->LI->LI->I7 (LI->Option J))(k6:LI->LI->LI->LI->I5 (LI->Option J)):Option J :=
 cond (lk N (decide (b<j)))
 (
  cond (lk N (au b a.length)) (
   cond (lk N (au (a.getD b.toNat 0) c.length)) (
    cond (lk N (au (a.getD b.toNat 0) c.length)) (
     cond (lk N (cx.P d (c.getD (a.getD b.toNat 0).toNat 0))) (
      cond (lk N (!(decide ((cx.g d (c.getD (a.getD b.toNat 0).toNat 0))=0)))) (
       kn e c f a (ab ((ab (Int.tdiv d (cx.g d (c.getD (a.getD b.toNat 0).toNat 0))))*(c.getD (a.getD b.toNat 0).toNat 0))) h i j (ab (b+1)) l m o) none) none) none) none) none)
 (
  k6 e c f a d h i l m o)
def Z61L{J:Type}(N:Nat)(k6:LI->LI->LI->LI->I5 (LI->Option J)):Nat->LI->LI->LI->LI->Int->Int->Int->Int->Int->Int->Int->LI->Option J
 |0,_,_,_,_,_,_,_,_,_,_,_,_=>none
 |M+1,a,b,c,d,e,f,g,h,i,j,l,m=>Z62 N a b c d e f g h i j l m (λa b c d e f g h i j l m=>Z61L N k6 M a b c d e f g h i j l m) k6
def An N a b c d e f g h i j l m k6:=(Z61L N k6 N a b c d e f g h i j l m:Option J)
def Z60 N a b c d e f g h i j l m kn:=(An N a b c d e f g h i j l m kn:Option J)
def Z58 N a b c d e f g h i j kn:=(Z59 N a b c d e f g h i j (λa b c d e f g l m h i j=>Z60 N a b c d e f g l m h i j kn):Option J)
def Z64{J:Type}(N:Nat)(a b c d:LI)(e f g h i:Int)(j:LI)(kn:LI->LI->LI->LI->I6 (LI->Option J)):Option J :=
 kn a b c d e 0 f g h i j
def Z67{J:Type}(N:Nat)(b c d a:LI)(e f g h i j:Int)(l:LI)(kn:LI->LI->LI->LI->I8 (LI->Option J)):Option J :=
 kn b c d a e f g h (a.length:Int) 0 i j l
def Z70{J:Type}(N:Nat)(d c e a:LI)(f h i j l b m o:Int)(p:LI)(kn:LI->LI->LI->LI->I8 (LI->Option J))(k8:LI->LI->LI->LI->I5 (LI->Option J)):Option J :=
 cond (lk N (decide (b<l)))
 (
  cond (lk N (au b a.length)) (
   cond (lk N (au (a.getD b.toNat 0) c.length)) (
    cond (lk N (!(decide ((c.getD (a.getD b.toNat 0).toNat 0)=0)))) (
     cond (lk N (au (a.getD b.toNat 0) d.length)) (
      cond (lk N (au (a.getD b.toNat 0) e.length)) (
       cond (lk N (au (a.getD b.toNat 0) (e.set (a.getD b.toNat 0).toNat (ab ((ab (Int.tdiv f (c.getD (a.getD b.toNat 0).toNat 0)))*(d.getD (a.getD b.toNat 0).toNat 0)))).length)) (
        cond (lk N (cx.P h ((e.set (a.getD b.toNat 0).toNat (ab ((ab (Int.tdiv f (c.getD (a.getD b.toNat 0).toNat 0)))*(d.getD (a.getD b.toNat 0).toNat 0)))).getD (a.getD b.toNat 0).toNat 0))) (
         kn d c (e.set (a.getD b.toNat 0).toNat (ab ((ab (Int.tdiv f (c.getD (a.getD b.toNat 0).toNat 0)))*(d.getD (a.getD b.toNat 0).toNat 0)))) a f (cx.g h ((e.set (a.getD b.toNat 0).toNat (ab ((ab (Int.tdiv f (c.getD (a.getD b.toNat 0).toNat 0)))*(d.getD (a.getD b.toNat 0).toNat 0)))).getD (a.getD b.toNat 0).toNat 0)) i j l (ab (b+1)) m o p) none) none) none) none) none) none) none)
 (
  k8 d c e a h i j m o p)
def Z69L{J:Type}(N:Nat)(k8:LI->LI->LI->LI->I5 (LI->Option J)):Nat->LI->LI->LI->LI->Int->Int->Int->Int->Int->Int->Int->Int->LI->Option J
 |0,_,_,_,_,_,_,_,_,_,_,_,_,_=>none
 |M+1,a,b,c,d,e,f,g,h,i,j,l,m,o=>Z70 N a b c d e f g h i j l m o (λa b c d e f g h i j l m o=>Z69L N k8 M a b c d e f g h i j l m o) k8
def Ao N a b c d e f g h i j l m o k8:=(Z69L N k8 N a b c d e f g h i j l m o:Option J)
def Z68 N a b c d e f g h i j l m o kn:=(Ao N a b c d e f g h i j l m o kn:Option J)
def Z66 N a b c d e f g h i j l kn:=(Z67 N a b c d e f g h i j l (λa b c d e f g h m o i j l=>Z68 N a b c d e f g h m o i j l kn):Option J)
def Z72{J:Type}(N:Nat)(b c d a:LI)(e f g h i:Int)(j:LI)(kn:LI->LI->LI->LI->I7 (LI->Option J)):Option J :=
 kn b c d a e f g (a.length:Int) 0 h i j
def Z75{J:Type}(N:Nat)(e f c b:LI)(d g h i a j l:Int)(m:LI)(kn:LI->LI->LI->LI->I7 (LI->Option J))(k10:LI->LI->LI->I4 (LI->Option J)):Option J :=
 cond (lk N (decide (a<i)))
 (
  cond (lk N (au a b.length)) (
   cond (lk N (au (b.getD a.toNat 0) c.length)) (
    cond (lk N (!(decide (d=0)))) (
     cond (lk N (au (b.getD a.toNat 0) c.length)) (
      kn e f (c.set (b.getD a.toNat 0).toNat (ab (Int.tdiv (c.getD (b.getD a.toNat 0).toNat 0) d))) b d g h i (ab (a+1)) j l m) none) none) none) none)
 (
  k10 e f c g h j l m)
def Z74L{J:Type}(N:Nat)(k10:LI->LI->LI->I4 (LI->Option J)):Nat->LI->LI->LI->LI->Int->Int->Int->Int->Int->Int->Int->LI->Option J
 |0,_,_,_,_,_,_,_,_,_,_,_,_=>none
 |M+1,a,b,c,d,e,f,g,h,i,j,l,m=>Z75 N a b c d e f g h i j l m (λa b c d e f g h i j l m=>Z74L N k10 M a b c d e f g h i j l m) k10
def Ap N a b c d e f g h i j l m k10:=(Z74L N k10 N a b c d e f g h i j l m:Option J)
def Z73 N a b c d e f g h i j l m kn:=(Ap N a b c d e f g h i j l m kn:Option J)
def vj N a b c j d e f g h i kn:=(Z72 N a b c j d e f g h i (λa b c l d e f m o g h i=>Z73 N a b c l d e f m o g h i kn):Option J)
def Aq N a b c d l e f g h i j kn:=(Z66 N a b c d l e f g h i j (λa b c d e f g h i j=>vj N a b c d e f g h i j kn):Option J)
def vk N a b c d e f g h i j kn:=(Z64 N a b c d e f g h i j (λa b c d e l f g h i j=>Aq N a b c d e l f g h i j kn):Option J)
def Ar N a b c d e f g h i j kn:=(Z58 N a b c d e f g h i j (λa b c d e f g h i j=>vk N a b c d e f g h i j kn):Option J)
def Z55 N a b c d e f g h i kn:=(Z56 N a b c d e f g h i (λa b c d j e f g h i=>Ar N a b c d j e f g h i kn):Option J)
def Z25 N a b c d e f g h i kn kr:=(Z26 N a b c d e f g h i (λa b c d e f g h i=>Z55 N a b c d e f g h i kn) kr:Option J)
def Z23 N a b c i d e f g h kn kr:=(Z24 N a b c i d e f g h (λa b c j d e f g h=>Z25 N a b c j d e f g h kn kr):Option J)
def Z21 N a b c d e f g h i kn kr:=(Z22 N a b c d e f g h i (λa b c d e f g h i=>Z23 N a b c d e f g h i kn kr):Option J)
def Z19 N a b c d e f g h i kn k1 kr:=(Z20 N a b c d e f g h i (λa b c d e f g h i=>Z21 N a b c d e f g h i kn kr) k1:Option J)
def Z17 N a b c d e f g h kn k1 kr:=(Z18 N a b c d e f g h (λa b c i d e f g h=>Z19 N a b c i d e f g h kn k1 kr):Option J)
def Z16 N a b c d e f g h kn kr:=(Z17 N a b c d e f g h kn kn kr:Option J)
def Z76{J:Type}(N:Nat)(a b c:LI)(d e f g:Int)(h:LI)(kn:LI->LI->LI->I4 (LI->Option J)):Option J :=
 kn a b c d (ab (e+1)) f g h
def Z15 N a b c d e f g h kn kr:=(Z16 N a b c d e f g h (λa b c d e f g h=>Z76 N a b c d e f g h kn) kr:Option J)
def Z13 N a b c d e i f g h kn k0 kr:=(Z14 N a b c d e i f g h (λa b c d e f g h=>Z15 N a b c d e f g h kn kr) k0:Option J)
def Z11 N a b c d e f g h kn k0 kr:=(Z12 N a b c d e f g h (λa b c d e i f g h=>Z13 N a b c d e i f g h kn k0 kr):Option J)
def Z10L{J:Type}(N:Nat)(k0 kr:LI->Option J):Nat->LI->LI->LI->Int->Int->Int->Int->LI->Option J
 |0,_,_,_,_,_,_,_,_=>none
 |M+1,a,b,c,d,e,f,g,h=>Z11 N a b c d e f g h (λa b c d e f g h=>Z10L N k0 kr M a b c d e f g h) k0 kr
def Z10 N a b c d e f g h k0 kr:=(Z10L N k0 kr N a b c d e f g h:Option J)
def Z9 N a b c d e f g h kn kr:=(Z10 N a b c d e f g h kn kr:Option J)
def Z7 N a b c d e f kn kr:=(Z8 N a b c d e f (λa b c g h d e f=>Z9 N a b c g h d e f kn kr):Option J)
def Z77{J:Type}(N:Nat)(a:LI)(kr:LI->Option J):Option J :=
 cond (Nat.blt 0 a.length) (
  kr a) none
def Z6 N b c a d e f kr:=(Z7 N b c a d e f (λa=>Z77 N a kr) kr:Option J)
def Z4 N a b c d e kr:=(Z5 N a b c d e (λa b f c d e=>Z6 N a b f c d e kr):Option J)
def Z2 N a b c kr:=(Z3 N a b c (λd e a b c=>Z4 N d e a b c kr):Option J)
def Z0 N a kr:=(Z1 N a (λb c d=>Z2 N b c d kr):Option J)
def Spec:Prop:=∀ (v0:MT),Ty.bd (.pair (.int .i64) (.pair (.int .i64) (.sl 0 (.int .i64)))) v0->P v0=true->∃N0,∀N,N0<=N->Z0 N v0 (λv2=>some ((),(v2,())))=some ((),((g v0),()))
def As{a:Int}(h:-99<=a/\a<=99):mx a (ab (0-a))=bA a:=by rw[aI (by omega) (by omega),uE];unfold bA;omega
def IE(a:Int):bA (-a)=bA a:=by unfold bA;omega
def Au{k:Nat}(h:k<=4):(99:Int) ^ k<=96059601:=by
 have h1:99 ^ k<=99 ^ 4:=Nat.pow_le_pow_right (by omega) h;have h2:(99:Int) ^ k=((99 ^ k:Nat):Int):=by rw[Int.natCast_pow];rfl
 rw[h2];omega
def Av{n:Nat}{A:Nat->Nat->Int}{x j:Nat}(hx:x<n)(hj:j<n)(h:¬ (A x j=0/\A j x=0))(h':A x j=0\/A j x=0):¬ ∃e,cv n A e:=by
 rintro ⟨e,he⟩
 rcases h' with z|z;·exact h ⟨z,qd he hx hj z⟩
 ·exact h ⟨qd he hj hx z,z⟩
section
variable {J : Type} {N : Nat} {m : Int × Int × List Int} {s p x j : Nat} {num0 num den out : List Int} {L : List Nat}
def IF(hm:bH m=true)(hn:m.1.toNat<=5)(hcl:qn m.1.toNat (af m) num0)(hf:d9 m.1.toNat (af m) s num0 L num den)(hp:p<L.length)(hx:L.getD p 0=x)(hj:j<m.1.toNat)(h0:¬ (af m x j=0/\af m j x=0))
  (kn:List Int->List Int->List Int->List Int->Int->Int->Int->Int->Int->Int->Int->Int->List Int->Option J) (kr:List Int->Option J) (t34 t35 t62 t63:Int) :
  (Z52 N num den out (aJ L) (p:Int) (x:Int) (j:Int) (af m x j) (-(af m j x)) t34 t35 t62 t63 m.1 m.2.1 m.2.2 kn kr=kr []/\¬ ∃e,cv m.1.toNat (af m) e) \/
  (∃L' num' den',d9 m.1.toNat (af m) s num0 L' num' den'/\(∃u,L'=L++u)/\(∀y∈L,∀k,eM (af m) L num den y k->eM (af m) L' num' den' y k)/\eM (af m) L' num' den' x j /\
   Z52 N num den out (aJ L) (p:Int) (x:Int) (j:Int) (af m x j) (-(af m j x)) t34 t35 t62 t63 m.1 m.2.1 m.2.2 kn kr=kn num' den' out (aJ L') (p:Int) (x:Int) t34 t35 t62 t63 m.1 m.2.1 m.2.2):=by
 have hxm:x∈L:=by rw[<-hx];exact b9 0 hp
 have hxn:=hf.lt x hxm;have hle:=hf.le;simp only[Z52];by_cases z1:af m x j=0;·rw[ct (dt z1)];exact Or.inl ⟨rfl,Av hxn hj h0 (Or.inl z1)⟩
 rw[cf (df z1)];by_cases z2:af m j x=0;·rw[ct (dt (by omega))];exact Or.inl ⟨rfl,Av hxn hj h0 (Or.inr z2)⟩
 rw[cf (df (by omega))];by_cases sg:(0<af m x j↔0 < -(af m j x))
 ·have sgb:(!(((lk N (decide (0<af m x j))) == (lk N (decide (0 < -(af m j x)))))))=false:=by
   rw[ax,ax];by_cases h1:0<af m x j;·rw[dt h1,dt (sg.1 h1)];rfl
   ·rw[df h1,df (λh=>h1 (sg.2 h))];rfl
  rw[cf sgb];have hne:¬ ((x:Int)=(j:Int)):=λe=>by
   have e':x=j:=by omega
   subst e';omega
  rw[cf (df hne)];obtain⟨Q,q1,q2,q3⟩:=hf.frac;obtain⟨c1,c2,c3,c4,c5⟩:=q3 x hxm;have st:=stepN (A:=af m) (num:=num) (den:=den) x j c1 c3 z1 z2;have sk:=HH z1 z2 sg;have hb:=fj hm;have e1:=As (hb x j);have e2:mx (-(af m j x)) (ab (0 - -(af m j x)))=bA (af m j x):=by rw[As (by have:=hb j x;omega),IE]
  have pw:=Au (k:=L.length-1) (by omega);have hdQ:=Int.le_of_dvd q1 c4;have a1:=nJ (hb x j);have a2:=nJ (hb j x);have a1':=lO z1;have a2':=lO z2;have b1:num.getD x 0*bA (af m x j)<=96059601*99:=Int.mul_le_mul (by omega) a1 (by omega) (by omega);have b2:den.getD x 0*bA (af m j x)<=96059601*99:=Int.mul_le_mul (by omega) a2 (by omega) (by omega);have hA:=st.a0p;have hB:=st.b0p;simp only[e1,e2,Int.toNat_natCast,aI (show -9223372036854775808<=num.getD x 0*bA (af m x j) by omega) (by omega),aI (show -9223372036854775808<=den.getD x 0*bA (af m j x) by omega) (by omega),cx.g];generalize hA0:num.getD x 0*bA (af m x j)=A0 at *
  generalize hB0:den.getD x 0*bA (af m j x)=B0 at *
  generalize hG:(Int.gcd A0 B0:Int)=G at *
  generalize ha:Int.tdiv A0 G=a at *
  generalize hb':Int.tdiv B0 G=b at *
  have gp:=st.gp;have ap:=st.ap;have bp:=st.bp;have al:a<=A0:=by have h1:=Int.mul_le_mul_of_nonneg_left (show(1:Int)<=G by omega) (Int.le_of_lt ap);have h2:=st.ea;omega
  have bl:b<=B0:=by have h1:=Int.mul_le_mul_of_nonneg_left (show(1:Int)<=G by omega) (Int.le_of_lt bp);have h2:=st.eb;omega
  have i1:au (x:Int) num.length=true:=aU (by rw[hf.nl];exact hxn);have i2:au (x:Int) den.length=true:=aU (by rw[hf.dl];exact hxn);have i3:au (j:Int) num.length=true:=aU (by rw[hf.nl];exact hj);have i4:au (j:Int) den.length=true:=aU (by rw[hf.dl];exact hj);have hP:cx.P A0 B0=true:=by simp only[cx.P,Bool.and_eq_true,decide_eq_true_eq];omega
  rw[ct i1,ct i2,ct hP,ct (nt (by omega)),ct (nt (by omega)),ct i3];simp only[aI (show -9223372036854775808<=a by omega) (by omega),aI (show -9223372036854775808<=b by omega) (by omega)];by_cases hz:num.getD j 0=0
  ·obtain⟨hg,hnj⟩:=hf.grow hp hj hz (by rw[hx];exact st) (λy k=>nJ (hb y k));have hxj:∀y∈L,j≠y:=λy hy e=>hnj (e▸hy);have hnl:j<num.length:=by rw[hf.nl];exact hj
   have hdl:j<den.length:=by rw[hf.dl];exact hj
   rw[ct (dt hz),ct i3,ct i4,ct (show Nat.blt ((aJ L).length+([(j:Int)]).length) 1099511627776=true by simp[ci,Nat.blt_eq];omega),uK];refine Or.inr ⟨L++[j],num.set j a,den.set j b,hg,⟨_,rfl⟩,λy hy k he=>he.grow hxj hnl hdl hy,Or.inr ⟨by simp, ?_⟩,rfl⟩;have:=zQ st sk;rw[cp hnl,if_neg (hxj x hxm),cp hdl,if_pos rfl,cp hnl,if_pos rfl,cp hdl,if_neg (hxj x hxm)];exact this
  ·have hjm:j∈L:=Classical.byContradiction λhc=>by
    have h1:num0.getD j 0≠0:=by rw[<-hf.out j hj hc];exact hz
    exact hcl j hj h1 x hxn (Or.inr z1) (hf.new x hxm)
   obtain⟨d1,d2,d3,d4,d5⟩:=q3 j hjm;have hgood:(∃e,cv m.1.toNat (af m) e)->num.getD j 0=a/\den.getD j 0=b:=by
    rintro ⟨e,he⟩
    have g1:=zO st hxn hj he (hf.good e he x hxm);have g2:=hf.good e he j hjm;have p1:=(he j hj).1;have p2:0<e s:=(he s (by rw[<-hf.hd];exact hf.lt _ (b9 0 hf.pos))).1;have g3:(e s*e j)*(num.getD j 0*b)=(e s*e j)*(a*den.getD j 0):=by grind
    have p3:=Int.mul_pos p2 p1;exact HG d1 d3 ap bp d5 st.co (Int.eq_of_mul_eq_mul_left (by omega) g3)
   rw[cf (df hz),ct i3];by_cases ea:num.getD j 0=a
   ·rw[cf (nf ea),ct i4];by_cases eb:den.getD j 0=b;·rw[cf (nf eb)];refine Or.inr ⟨L,num,den,hf,⟨[],by simp⟩,λ_ _ _ h=>h,Or.inr ⟨hjm, ?_⟩,rfl⟩;rw[ea,eb];exact zQ st sk
    ·rw[ct (nt eb)];exact Or.inl ⟨rfl,λh=>eb (hgood h).2⟩
   ·rw[ct (nt ea)];exact Or.inl ⟨rfl,λh=>ea (hgood h).1⟩
 ·have sgb:(!(((lk N (decide (0<af m x j))) == (lk N (decide (0 < -(af m j x)))))))=true:=by
   rw[ax,ax];by_cases h1:0<af m x j;·rw[dt h1,df (λh2=>sg ⟨λ_=>h2,λ_=>h1⟩)];rfl
   ·rw[df h1,dt (Classical.byContradiction λh2=>sg ⟨λh=>absurd h h1,λh=>absurd h h2⟩)];rfl
  rw[ct sgb];refine Or.inl ⟨rfl, ?_⟩;rintro ⟨e,he⟩
  have h1:=nH he hxn hj;rw[f7,Bool.and_eq_true,beq_iff_eq,decide_eq_decide]at h1;have:=h1.1;omega
def at_g(hd:0<=m.1)(a b:Nat):cn.g (m.1,(m.2.1,m.2.2)) (a:Int) (b:Int)=af m a b:=it hd a b
def at_p(hd:aG m=true){a b:Nat}(ha:a<m.1.toNat)(hb:b<m.1.toNat):cn.P (m.1,(m.2.1,m.2.2)) (a:Int) (b:Int)=true:=by obtain⟨n,r,hn,hr,hn1,hn5,hnr,hr8,hl⟩:=a7 hd;exact iu hd (by omega) hb
def inner(hm:bH m=true)(hcl:qn m.1.toNat (af m) num0)(k4:List Int->List Int->List Int->List Int->Int->Int->Int->Int->Int->List Int->Option J)(kr:List Int->Option J)(t34 t35:Int):∀(M j:Nat) (L:List Nat) (num den:List Int),d9 m.1.toNat (af m) s num0 L num den->p<L.length->L.getD p 0=x->j<=m.1.toNat->m.1.toNat-j<M ->
  (∀k',k'<p->∀k,k<m.1.toNat->eM (af m) L num den (L.getD k' 0) k)->(∀k,k<j->eM (af m) L num den x k) ->
  (Z39L N k4 kr M num den out (aJ L) (p:Int) (x:Int) t34 t35 (m.1.toNat:Int) (j:Int) m.1 m.2.1 m.2.2=kr []/\¬ ∃e,cv m.1.toNat (af m) e) \/
  (∃L' num' den',d9 m.1.toNat (af m) s num0 L' num' den'/\p<L'.length/\(∀k',k'<p+1->∀k,k<m.1.toNat->eM (af m) L' num' den' (L'.getD k' 0) k) /\
   Z39L N k4 kr M num den out (aJ L) (p:Int) (x:Int) t34 t35 (m.1.toNat:Int) (j:Int) m.1 m.2.1 m.2.2=k4 num' den' out (aJ L') (p:Int) t34 t35 m.1 m.2.1 m.2.2):=by
 have hdim:=cj hm;obtain⟨n,r,hn,hr,hn1,hn5,hnr,hr8,hl⟩:=a7 hdim;intro M;induction M with
 |zero=>intro j _ _ _ _ _ _ _ h;omega
 |succ M ih =>
  intro j L num den hf hp hx hj hM hE1 hE2;have hxm:x∈L:=by rw[<-hx];exact b9 0 hp
  have hxn:=hf.lt x hxm;simp only[Z39L,Z40,Z41,Z42,Z43];by_cases hlt:j<m.1.toNat
  ·rw[eV (by rw[ax];exact dt (by omega))];simp only[Z44,Z45,Z46,Z47,Z48,Z49];rw[ct (at_p hdim hxn hlt),ct (at_p hdim hlt hxn),at_g (by omega),at_g (by omega)];have hb:=fj hm j x;rw[show ab (0-af m j x)=-(af m j x) by rw[aI (by omega) (by omega)];omega];simp only[Z50,Z51];have next:∀(L':List Nat) (num' den':List Int),d9 m.1.toNat (af m) s num0 L' num' den'->(∃u,L'=L++u)->(∀y∈L,∀k,eM (af m) L num den y k->eM (af m) L' num' den' y k)->eM (af m) L' num' den' x j ->
     (Z39L N k4 kr M num' den' out (aJ L') (p:Int) (x:Int) t34 t35 (m.1.toNat:Int) ((j+1:Nat):Int) m.1 m.2.1 m.2.2=kr []/\¬ ∃e,cv m.1.toNat (af m) e) \/
     (∃L'' num'' den'',d9 m.1.toNat (af m) s num0 L'' num'' den''/\p<L''.length/\(∀k',k'<p+1->∀k,k<m.1.toNat->eM (af m) L'' num'' den'' (L''.getD k' 0) k) /\
      Z39L N k4 kr M num' den' out (aJ L') (p:Int) (x:Int) t34 t35 (m.1.toNat:Int) ((j+1:Nat):Int) m.1 m.2.1 m.2.2=k4 num'' den'' out (aJ L'') (p:Int) t34 t35 m.1 m.2.1 m.2.2):=by
    intro L' num' den' hf' hu hk he;obtain⟨u,hu⟩:=hu;have hget:∀k',k'<L.length->L'.getD k' 0=L.getD k' 0:=λk' hk'=>by rw[hu,gE hk']
    refine ih (j+1) L' num' den' hf' (by rw[hu];simp;omega) (by rw[hget p hp];exact hx) hlt (by omega) (λk' hk' k hkn=>?_) (λk hk'=>?_);·rw[hget k' (by omega)];exact hk _ (b9 0 (by omega)) k (hE1 k' hk' k hkn)
    ·by_cases e:k=j;·subst e;exact he
     ·exact hk x hxm k (hE2 k (by omega))
   by_cases h0:af m x j=0/\af m j x=0;·rw[ct (dt h0.1),ct (dt (by omega))];simp only[Z53];rw[bm (by rw[bw];omega)];exact next L num den hf ⟨[],by simp⟩ (λ_ _ _ h=>h) (Or.inl h0)
   ·have hz:∀(X Y:Option J),(cond (lk N (decide (af m x j=0))) (cond (lk N (decide (-(af m j x)=0))) X Y) Y)=Y:=by
     intro X Y;by_cases z1:af m x j=0;·rw[ct (dt z1),cf (df (λz2=>h0 ⟨z1,by omega⟩))]
     ·rw[cf (df z1)]
    rw[hz];rcases IF (N:=N) (out:=out) hm (by omega) hcl hf hp hx hlt h0 (λnum3 den4 out5 piece7 at8 i9 t34 t35 t62 t63 m1_0 m1_1 m1_2=>Z53 N num3 den4 out5 piece7 at8 i9 t34 t35 t62 t63 m1_0 m1_1 m1_2 (λnum3 den4 out5 piece7 at8 i9 t34 t35 t62 t63 m1_0 m1_1 m1_2=>Z39L N k4 kr M num3 den4 out5 piece7 at8 i9 t34 t35 t62 t63 m1_0 m1_1 m1_2)) kr t34 t35 (m.1.toNat:Int) (j:Int)with hc|⟨L',num',den',h1,h2,h3,h4,h5⟩;·exact Or.inl hc
    ·rw[h5];simp only[Z53];rw[bm (by rw[bw];omega)];exact next L' num' den' h1 h2 h3 h4
  ·rw[dR (by rw[ax];exact df (by omega))];refine Or.inr ⟨L,num,den,hf,hp,λk' hk' k hk=>?_,rfl⟩;by_cases e:k'=p;·subst e;rw[hx];exact hE2 k (by omega)
   ·exact hE1 k' (by omega) k hk
def IG(hN:10<=N)(hm:bH m=true)(hcl:qn m.1.toNat (af m) num0)(k2:List Int->List Int->List Int->List Int->Int->Int->Int->Int->List Int->Option J)(kr:List Int->Option J)(t34 t35:Int):∀(M p:Nat) (L:List Nat) (num den:List Int),d9 m.1.toNat (af m) s num0 L num den->p<=L.length->m.1.toNat-p<M ->
  (∀k',k'<p->∀k,k<m.1.toNat->eM (af m) L num den (L.getD k' 0) k) ->
  (Z29L N k2 kr M num den out (aJ L) (p:Int) t34 t35 m.1 m.2.1 m.2.2=kr []/\¬ ∃e,cv m.1.toNat (af m) e) \/
  (∃L' num' den',d9 m.1.toNat (af m) s num0 L' num' den'/\(∀x∈L',∀k,k<m.1.toNat->eM (af m) L' num' den' x k) /\
   Z29L N k2 kr M num den out (aJ L) (p:Int) t34 t35 m.1 m.2.1 m.2.2=k2 num' den' out (aJ L') t34 t35 m.1 m.2.1 m.2.2):=by
 have hdim:=cj hm;obtain⟨n,r,hn,hr,hn1,hn5,hnr,hr8,hl⟩:=a7 hdim;intro M;induction M with
 |zero=>intro p _ _ _ _ _ h;omega
 |succ M ih =>
  intro p L num den hf hp hM hE;have hle:=hf.le;simp only[Z29L,Z30,Z31];by_cases hlt:p<L.length
  ·rw[ct (dt (by rw[ci];omega))];simp only[Z32,Z33,Z34,Z35];rw[ct (aU (by rw[ci];exact hlt))];simp only[Z36,Z37,Z38,Z39,Int.toNat_natCast,f8,hf.nl];have hin:=inner (J:=J) (N:=N) (out:=out) hm hcl (λnum3 den4 out5 piece7 at8 t34 t35 m1_0 m1_1 m1_2=>Z54 N num3 den4 out5 piece7 at8 t34 t35 m1_0 m1_1 m1_2 (λnum3 den4 out5 piece7 at8 t34 t35 m1_0 m1_1 m1_2=>Z29L N k2 kr M num3 den4 out5 piece7 at8 t34 t35 m1_0 m1_1 m1_2)) kr t34 t35 N 0 L num den hf hlt rfl (by omega) (by omega) hE (λk hk=>by omega);rw[show((0:Nat):Int)=0 from rfl]at hin;rcases hin with hc|⟨L',num',den',h1,h2,h3,h4⟩;·exact Or.inl hc
   ·rw[h4];simp only[Z54];rw[bm (by rw[bw];omega)];exact ih (p+1) L' num' den' h1 h2 (by omega) h3
  ·rw[cf (df (by rw[ci];omega))];refine Or.inr ⟨L,num,den,hf,λx hx k hk=>?_,rfl⟩;obtain⟨k',hk',e⟩:=kG hx;rw[<-e];exact hE k' (by omega) k hk
def IH(hf:d9 m.1.toNat (af m) s num0 L num den)(h5:m.1.toNat<=5){Q:Int}(q1:0<Q)(q2:Q<=96059601)(q3:∀x∈L,0<den.getD x 0/\den.getD x 0∣Q)(k6:List Int->List Int->List Int->List Int->Int->Int->Int->Int->Int->List Int->Option J)(t34 t35:Int):∀(M k:Nat) (c:Int),k<=L.length->L.length-k<M->0<c->c∣Q->(∀k',k'<k->den.getD (L.getD k' 0) 0∣c) ->
  ∃c',0<c'/\c'∣Q/\(∀x∈L,den.getD x 0∣c') /\
   Z61L N k6 M num den out (aJ L) c t34 t35 ((aJ L).length:Int) (k:Int) m.1 m.2.1 m.2.2=k6 num den out (aJ L) c' t34 t35 m.1 m.2.1 m.2.2:=by
 have hle:=hf.le;intro M;induction M with
 |zero=>intro k _ _ h;omega
 |succ M ih =>
  intro k c hk hM hc hcQ hd;simp only[Z61L,Z62];by_cases hlt:k<L.length
  ·have hxm:L.getD k 0∈L:=b9 0 hlt;obtain⟨d1,d2⟩:=q3 _ hxm;have i1:au (k:Int) (aJ L).length=true:=aU (by rw[ci];exact hlt);have i2:au ((L.getD k 0:Nat):Int) den.length=true:=aU (by rw[hf.dl];exact hf.lt _ hxm);obtain⟨g1,g2,g3,g4,g5,g6,g7⟩:=HI hc d1 hcQ d2 q1;have b1:=Int.le_of_dvd q1 hcQ;have b2:=Int.le_of_dvd q1 d2;have b3:=Int.le_of_dvd q1 g5;rw[ct (dt (by rw[ci];omega)),ct i1];simp only[Int.toNat_natCast,f8];rw[ct i2,ct i2,ct (show cx.P c (den.getD (L.getD k 0) 0)=true by simp only[cx.P,Bool.and_eq_true,decide_eq_true_eq];omega)];have eg:cx.g c (den.getD (L.getD k 0) 0)=(Int.gcd c (den.getD (L.getD k 0) 0):Int):=rfl;rw[ct (nt (by rw[eg];omega)),eg,aI (n:=Int.tdiv c _) (by omega) (by omega),aI (by omega) (by omega),bm (by rw[bw];omega)];refine ih (k+1) _ hlt (by omega) g4 g5 (λk' hk'=>?_);by_cases e:k'=k;·subst e;exact g7
   ·exact Int.dvd_trans (hd k' (by omega)) g6
  ·rw[cf (df (by rw[ci];omega))];refine⟨c,hc,hcQ,λx hx=>?_,rfl⟩;obtain⟨k',hk',e⟩:=kG hx;rw[<-e];exact hd k' (by omega)
structure O2(n:Nat)(L:List Nat)(num den out0:List Int)(c:Int)(k:Nat)(out:List Int)(g:Int):Prop where
 len:out.length=n
 old:∀x,x<n->(∀k',k'<k->x≠L.getD k' 0)->out.getD x 0=out0.getD x 0
 val:∀k',k'<k->out.getD (L.getD k' 0) 0*den.getD (L.getD k' 0) 0=c*num.getD (L.getD k' 0) 0/\0<out.getD (L.getD k' 0) 0/\out.getD (L.getD k' 0) 0<=9227446944279201
 gcd:g=((bU ((List.range k).map λt=>out.getD (L.getD t 0) 0):Nat):Int)
def O2.g_range{n:Nat}{out0:List Int}{c g:Int}{k:Nat}(h:O2 n L num den out0 c k out g):0<=g/\g<=9227446944279201/\(0<k->0<g):=by
 have h0:0<=g:=by rw[h.gcd];omega
 by_cases e:k=0;·subst e;have:=h.gcd;simp[bU]at this;omega
 ·obtain⟨_,a1,a2⟩:=h.val 0 (by omega);have hd:g∣out.getD (L.getD 0 0) 0:=by rw[h.gcd];exact qc (List.mem_map.2 ⟨0,List.mem_range.2 (by omega),rfl⟩)
  have:=Int.le_of_dvd a1 hd;refine⟨h0,by omega,λ_=>?_⟩;rcases Int.lt_or_le 0 g with h'|h';·exact h'
  ·have e:g=0:=by omega
   rw[e]at hd;have:=Int.zero_dvd.1 hd;omega
def II(hf:d9 m.1.toNat (af m) s num0 L num den)(h5:m.1.toNat<=5){c:Int}(c1:0<c)(c2:c<=96059601)(q3:∀x∈L,0<num.getD x 0/\num.getD x 0<=96059601/\0<den.getD x 0/\den.getD x 0∣c)(out0:List Int)(k8:List Int->List Int->List Int->List Int->Int->Int->Int->Int->Int->List Int->Option J)(t34 t35:Int):∀(M k:Nat) (out:List Int) (g:Int),k<=L.length->L.length-k<M->O2 m.1.toNat L num den out0 c k out g ->
  ∃out' g',O2 m.1.toNat L num den out0 c L.length out' g' /\
   Z69L N k8 M num den out (aJ L) c g t34 t35 ((aJ L).length:Int) (k:Int) m.1 m.2.1 m.2.2=k8 num den out' (aJ L) g' t34 t35 m.1 m.2.1 m.2.2:=by
 have hle:=hf.le;intro M;induction M with
 |zero=>intro k _ _ _ h;omega
 |succ M ih =>
  intro k out g hk hM ho;simp only[Z69L,Z70];by_cases hlt:k<L.length
  ·have hxm:L.getD k 0∈L:=b9 0 hlt;have hxn:=hf.lt _ hxm;obtain⟨d1,d2,d3,d4⟩:=q3 _ hxm;have i1:au (k:Int) (aJ L).length=true:=aU (by rw[ci];exact hlt);have i2:au ((L.getD k 0:Nat):Int) den.length=true:=aU (by rw[hf.dl];exact hxn);have i3:au ((L.getD k 0:Nat):Int) num.length=true:=aU (by rw[hf.nl];exact hxn);have i4:au ((L.getD k 0:Nat):Int) out.length=true:=aU (by rw[ho.len];exact hxn);have hxo:L.getD k 0<out.length:=by rw[ho.len];exact hxn
   have hg:=ho.g_range;have t1:Int.tdiv c (den.getD (L.getD k 0) 0)*den.getD (L.getD k 0) 0=c:=Int.tdiv_mul_cancel d4;have t2:0<Int.tdiv c (den.getD (L.getD k 0) 0)/\Int.tdiv c (den.getD (L.getD k 0) 0)<=c:=by
    generalize Int.tdiv c (den.getD (L.getD k 0) 0)=t at t1 ⊢;have:0<t:=by
     rcases Int.lt_or_le 0 t with h'|h';·exact h'
     ·have:=Int.mul_nonpos_of_nonpos_of_nonneg h' (Int.le_of_lt d3);omega
    have:=Int.mul_le_mul_of_nonneg_left (show(1:Int)<=den.getD (L.getD k 0) 0 by omega) (Int.le_of_lt this);exact⟨by omega,by omega⟩
   have t3:0<Int.tdiv c (den.getD (L.getD k 0) 0)*num.getD (L.getD k 0) 0:=Int.mul_pos t2.1 d1;have t4:Int.tdiv c (den.getD (L.getD k 0) 0)*num.getD (L.getD k 0) 0<=96059601*96059601:=Int.mul_le_mul (by omega) d2 (by omega) (by omega);rw[ct (dt (by rw[ci];omega)),ct i1];simp only[Int.toNat_natCast,f8];rw[ct i2,ct (nt (by omega)),ct i3,ct i4];simp only[aI (show -9223372036854775808<=Int.tdiv c (den.getD (L.getD k 0) 0) by omega) (by omega)];simp only[aI (show -9223372036854775808<=Int.tdiv c (den.getD (L.getD k 0) 0)*num.getD (L.getD k 0) 0 by omega) (by omega)];generalize hv:Int.tdiv c (den.getD (L.getD k 0) 0)*num.getD (L.getD k 0) 0=v at t3 t4 ⊢;have hself:(out.set (L.getD k 0) v).getD (L.getD k 0) 0=v:=by rw[cp hxo,if_pos rfl]
   have hget:∀t,t<k->(out.set (L.getD k 0) v).getD (L.getD t 0) 0=out.getD (L.getD t 0) 0:=λt ht'=>by rw[cp hxo,if_neg (λe=>by have:=nI hf.nd hlt (by omega) e;omega)]
   rw[ct (aU (by rw[List.length_set];exact hxo)),hself,ct (show cx.P g v=true by simp only[cx.P,Bool.and_eq_true,decide_eq_true_eq];omega),bm (by rw[bw];omega)];refine ih (k+1) _ _ hlt (by omega) ⟨by rw[List.length_set];exact ho.len, ?_, ?_, ?_⟩;·intro x hx hall;rw[cp hxo,if_neg (λe=>hall k (by omega) e.symm)];exact ho.old x hx (λt ht'=>hall t (by omega))
   ·intro t ht';by_cases e:t=k;·subst e;rw[hself];refine⟨?_,t3,by omega⟩;rw[<-hv];have e1:=t1;grind
    ·rw[hget t (by omega)];exact ho.val t (by omega)
   ·rw[List.range_succ,List.map_append,List.map_cons,List.map_nil,hself];rw[show(List.range k).map (λt=>(out.set (L.getD k 0) v).getD (L.getD t 0) 0)=(List.range k).map (λt=>out.getD (L.getD t 0) 0)from List.map_congr_left (λt ht'=>hget t (List.mem_range.1 ht'))];rw[ho.gcd];exact zG _ _ v (by omega) rfl
  ·have e:k=L.length:=by omega
   subst e;exact⟨out,g,ho,by rw[cf (df (by rw[ci];omega))]⟩
def IJ(hf:d9 m.1.toNat (af m) s num0 L num den)(h5:m.1.toNat<=5){out2:List Int}{g:Int}(hg:0<g)(hv:∀x∈L,0<out2.getD x 0/\out2.getD x 0<=9227446944279201)(k10:List Int->List Int->List Int->Int->Int->Int->Int->List Int->Option J)(t34 t35:Int):∀(M k:Nat) (d:List Int),k<=L.length->L.length-k<M->T3 m (L,[]) out2 g k d ->
  ∃d',T3 m (L,[]) out2 g L.length d'/\Z74L N k10 M num den d (aJ L) g t34 t35 ((aJ L).length:Int) (k:Int) m.1 m.2.1 m.2.2=k10 num den d' t34 t35 m.1 m.2.1 m.2.2:=by
 have hle:=hf.le;intro M;induction M with
 |zero=>intro k _ _ h;omega
 |succ M ih =>
  intro k d hk hM ht;simp only[Z74L,Z75];by_cases hlt:k<L.length
  ·have hxm:L.getD k 0∈L:=b9 0 hlt;have hxn:=hf.lt _ hxm;obtain⟨v1,v2⟩:=hv _ hxm;have hcur:=ht.cur hf.nd hf.lt hlt;have hdv:0<=Int.tdiv (out2.getD (L.getD k 0) 0) g/\Int.tdiv (out2.getD (L.getD k 0) 0) g<=9227446944279201:=by rw[Int.tdiv_eq_ediv_of_nonneg (by omega)];refine⟨Int.ediv_nonneg (by omega) (by omega), ?_⟩;have:=Int.ediv_le_self (a:=out2.getD (L.getD k 0) 0) g (by omega);omega
   have i4:au ((L.getD k 0:Nat):Int) d.length=true:=aU (by rw[ht.len];exact hxn);have hcur':d.getD (L.getD k 0) 0=out2.getD (L.getD k 0) 0:=hcur;rw[ct (dt (by rw[ci];omega)),ct (aU (by rw[ci];exact hlt))];simp only[Int.toNat_natCast,f8];rw[ct i4,ct (nt (by omega)),ct i4,hcur',aI (by omega) (by omega),bm (by rw[bw];omega)];exact ih (k+1) _ hlt (by omega) (ht.step hf.nd hf.lt hlt)
  ·have e:k=L.length:=by omega
   subst e;exact⟨d,ht,by rw[cf (df (by rw[ci];omega))]⟩
def outer(hN:10<=N)(hm:bH m=true)(kr:List Int->Option J):∀(M i:Nat) (num den out:List Int),lR m.1.toNat (af m) num out->den.length=m.1.toNat->i<=m.1.toNat->(∀x,x<i->num.getD x 0≠0)->m.1.toNat-i<M ->
  Z10L N (λout5=>Z77 N out5 kr) kr M num den out (m.1.toNat:Int) (i:Int) m.1 m.2.1 m.2.2=kr (bc m):=by
 have hdim:=cj hm;obtain⟨n,r,hn,hr,hn1,hn5,hnr,hr8,hl⟩:=a7 hdim;intro M;induction M with
 |zero=>intro i _ _ _ _ _ _ _ h;omega
 |succ M ih =>
  intro i num den out hO hdl hi hpos hM;simp only[Z10L,Z11,Z12,Z13,Z14];by_cases hlt:i<m.1.toNat
  ·rw[eV (by rw[ax];exact dt (by omega))];simp only[Z15,Z16,Z17,Z18,Z19,Z20];rw[ct (aU (by rw[hO.nl];exact hlt)),Int.toNat_natCast];by_cases hz:num.getD i 0=0
   ·rw[cf (nf hz)];simp only[Z21,Z22];rw[ct (aU (by rw[hO.nl];exact hlt)),ct (aU (by rw[hdl];exact hlt)),Int.toNat_natCast];simp only[Z23,Z24,Z25,Z26,Z27,Z28,Z29];have hnl:i<num.length:=by rw[hO.nl];exact hlt
    have hdl':i<den.length:=by rw[hdl];exact hlt
    have f0:d9 m.1.toNat (af m) i num [i] (num.set i 1) (den.set i 1):=by
     refine⟨by rw[List.length_set];exact hO.nl,by rw[List.length_set];exact hdl,by simp,λx hx=>by rw[List.mem_singleton]at hx;omega,rfl,by simp, ?_, ?_, ?_, ?_⟩;·intro x hx hni;rw[cp hnl,if_neg (λe=>hni (by simp[e]))]
     ·intro x hx;rw[List.mem_singleton]at hx;subst hx;exact hz
     ·refine⟨1,by omega,by simp,λx hx=>?_⟩;rw[List.mem_singleton]at hx;subst hx;rw[cp hnl,if_pos rfl,cp hdl',if_pos rfl];exact⟨by omega,by simp,by omega,Int.dvd_refl _,by decide⟩
     ·intro e he x hx;rw[List.mem_singleton]at hx;subst hx;rw[cp hnl,if_pos rfl,cp hdl',if_pos rfl]
    have hmid:=IG (J:=J) (out:=out) hN hm hO.closed (λnum3 den4 out5 piece7 t34 t35 m1_0 m1_1 m1_2=>Z55 N num3 den4 out5 piece7 t34 t35 m1_0 m1_1 m1_2 (λnum3 den4 out5 t34 t35 m1_0 m1_1 m1_2=>Z76 N num3 den4 out5 t34 t35 m1_0 m1_1 m1_2 (λnum3 den4 out5 t34 t35 m1_0 m1_1 m1_2=>Z10L N (λout5=>Z77 N out5 kr) kr M num3 den4 out5 t34 t35 m1_0 m1_1 m1_2))) kr (m.1.toNat:Int) (i:Int) N 0 [i] (num.set i 1) (den.set i 1) f0 (by omega) (by omega) (λk' hk'=>by omega);rw[show((0:Nat):Int)=0 from rfl,show aJ [i]=[(i:Int)]from rfl]at hmid;rcases hmid with⟨h1,h2⟩|⟨L,num',den',hf,hE,h1⟩;·rw[h1,zB h2]
    ·rw[h1];have hle:=hf.le;obtain⟨Q,q1,q2,q3⟩:=hf.frac;have pw:=Au (k:=L.length-1) (by omega);simp only[Z55,Z56,Ar,Z58,Z59,Z60,An];obtain⟨c,c1,c2,c3,c4⟩:=IH (J:=J) (N:=N) (out:=out) (num:=num') (m:=m) hf (by omega) q1 (by omega) (λx hx=>⟨(q3 x hx).2.2.1,(q3 x hx).2.2.2.1⟩) (λnum3 den4 out5 piece7 common16 t34 t35 m1_0 m1_1 m1_2=>vk N num3 den4 out5 piece7 common16 t34 t35 m1_0 m1_1 m1_2 (λnum3 den4 out5 t34 t35 m1_0 m1_1 m1_2=>Z76 N num3 den4 out5 t34 t35 m1_0 m1_1 m1_2 (λnum3 den4 out5 t34 t35 m1_0 m1_1 m1_2=>Z10L N (λout5=>Z77 N out5 kr) kr M num3 den4 out5 t34 t35 m1_0 m1_1 m1_2))) (m.1.toNat:Int) (i:Int) N 0 1 (by omega) (by omega) (by omega) (Int.one_dvd _) (λk' hk'=>by omega);rw[show((0:Nat):Int)=0 from rfl]at c4;rw[c4];have cQ:=Int.le_of_dvd q1 c2;simp only[vk,Z64,Aq,Z66,Z67,Z68,Ao];obtain⟨out2,g2,o1,o2⟩:=II (J:=J) (N:=N) (num:=num') (m:=m) hf (by omega) c1 (by omega) (λx hx=>⟨(q3 x hx).1,by have:=(q3 x hx).2.1;omega,(q3 x hx).2.2.1,c3 x hx⟩) out (λnum3 den4 out5 piece7 g19 t34 t35 m1_0 m1_1 m1_2=>vj N num3 den4 out5 piece7 g19 t34 t35 m1_0 m1_1 m1_2 (λnum3 den4 out5 t34 t35 m1_0 m1_1 m1_2=>Z76 N num3 den4 out5 t34 t35 m1_0 m1_1 m1_2 (λnum3 den4 out5 t34 t35 m1_0 m1_1 m1_2=>Z10L N (λout5=>Z77 N out5 kr) kr M num3 den4 out5 t34 t35 m1_0 m1_1 m1_2))) (m.1.toNat:Int) (i:Int) N 0 out 0 (by omega) (by omega) ⟨hO.ol,λ_ _ _=>rfl,λk hk=>by omega,rfl⟩;rw[show((0:Nat):Int)=0 from rfl]at o2;rw[o2];have hg2:=o1.g_range.2.2 hf.pos;have hval:∀x∈L,out2.getD x 0*den'.getD x 0=c*num'.getD x 0/\0<out2.getD x 0/\out2.getD x 0<=9227446944279201:=by intro x hx;obtain⟨k,hk,e⟩:=kG hx;rw[<-e];exact o1.val k hk
     simp only[vj,Z72,Z73,Ap];obtain⟨out3,p1,p2⟩:=IJ (J:=J) (N:=N) (num:=num') (m:=m) hf (by omega) hg2 (λx hx=>(hval x hx).2) (λnum3 den4 out5 t34 t35 m1_0 m1_1 m1_2=>Z76 N num3 den4 out5 t34 t35 m1_0 m1_1 m1_2 (λnum3 den4 out5 t34 t35 m1_0 m1_1 m1_2=>Z10L N (λout5=>Z77 N out5 kr) kr M num3 den4 out5 t34 t35 m1_0 m1_1 m1_2)) (m.1.toNat:Int) (i:Int) N 0 out2 (by omega) (by omega) ⟨o1.len,λ_ _ _=>rfl,λk hk=>by omega⟩;rw[show((0:Nat):Int)=0 from rfl]at p2;rw[p2];have hgl:g2=((bU (L.map λx=>out2.getD x 0):Nat):Int):=by rw[<-zE L (λx=>out2.getD x 0)];exact o1.gcd
     obtain⟨r1,r2,r3⟩:=hO.piece (out3:=out3) hf hE c1 hg2 (λx hx=>(hval x hx).1) hgl (λx hx=>by
      obtain⟨k,hk,e⟩:=kG hx;have:=p1.val k hk;rw[<-e];rw[show out3.getD (L.getD k 0) 0=_ from this];refine Int.tdiv_mul_cancel ?_;rw[hgl];exact qc (List.mem_map.2 ⟨L.getD k 0,b9 0 hk,rfl⟩)) (λx hx hni=>by
      have hne:∀k',k'<L.length->x≠L.getD k' 0:=λk' hk' e=>hni (by rw[e];exact b9 0 hk');rw[p1.out x hx hne,o1.old x hx hne]) p1.len
     simp only[Z76];rw[bm (by rw[bw];omega)];exact ih (i+1) num' den' out3 r1 hf.dl hlt (λx hx=>by
      by_cases e:x=i;·subst e;exact r2
      ·exact r3 x (by omega) (hpos x (by omega))) (by omega)
   ·rw[ct (nt hz)];simp only[Z76];rw[bm (by rw[bw];omega)];exact ih (i+1) num den out hO hdl hlt (λx hx=>by
     by_cases e:x=i;·subst e;exact hz
     ·exact hpos x (by omega)) (by omega)
  ·rw[dR (by rw[ax];exact df (by omega))];simp only[Z77];rw[hO.fac (λx hx=>hpos x (by omega)),eV (by rw[hO.ol,Nat.blt_eq];omega)]
end
def ok:Spec:=λm hb hp=>⟨10,λN hN=>by
 have hm:bH m=true:=hp;have hdim:=cj hm;obtain⟨n,r,hn,hr,hn1,hn5,hnr,hr8,hl⟩:=a7 hdim;have hz:∀x,(List.replicate m.1.toNat (0:Int)).getD x 0=0:=λx=>by rw[List.getD_eq_getElem?_getD,List.getElem?_replicate];split<;>rfl
 have hc:(bu 0 m.1&&decide (m.1<1099511627776))=true:=by rw[gC (by omega),dt (by omega)];rfl
 simp only[Z0,Z1,Z2,Z3];rw[ct hc,ct hc];have key:Z4 N (List.replicate m.1.toNat 0) (List.replicate m.1.toNat 0) m.1 m.2.1 m.2.2 (λt2=>some ((),(t2,())))=some ((),(g m,())):=by simp only[Z4,Z5];rw[ct hc];simp only[Z6,Z7,Z8,Z9,Z10,List.length_replicate];have:=outer (J:=Unit×List Int×Unit) hN hm (λt2=>some ((),(t2,()))) N 0 (List.replicate m.1.toNat 0) (List.replicate m.1.toNat 0) (List.replicate m.1.toNat 0) ⟨by simp,by simp,λy hy h=>absurd (hz y) h,λj hj h=>absurd (hz j) h⟩ (by simp) (by omega) (λx hx=>by omega) (by omega);exact this
 rw[key];simp only[bo,eE]⟩
end aD
namespace gj
def g(m:Int×Int×List Int):Bool:=bH m&&!decide (bc m=[])
def Z0{J:Type}(N:Nat)(a:MT)(kr:Bool->Option J):Option J :=
 cond (lk N ((iJ.g a)))
 (
  cond (lk N (aD.P a)) (
   kr (lk N (!(decide ((aD.g a).length=0))))) none)
 (
  kr false)
def Spec:Prop:=∀ (v0:MT),Ty.bd (.pair (.int .i64) (.pair (.int .i64) (.sl 0 (.int .i64)))) v0->∃N0,∀N,N0<=N->Z0 N v0 (λv2=>some ((),(v2,())))=some ((),((g v0),()))
def ok:Spec:=λm hb=>⟨0,λN hN=>by
 simp only[Z0,ax,g,iJ.g,aD.P,aD.g];cases bH m;·rfl
 ·by_cases h:bc m=[];·rw[dt h,dt (by rw[h];rfl)];rfl
  ·rw[df h,df (λe=>h (List.length_eq_zero_iff.1 e))];rfl⟩
end gj
namespace dJ
def P(a:List Int):Bool:=decide (a.length<1099511627776)
abbrev g(a:List Int):List Int:=a
def Z0{J:Type}(N:Nat)(a:LI)(kr:LI->Option J):Option J :=
 cond (lk N (decide (0<a.length)))
 (
  cond (lk N (Nat.blt (([]:List Int).length+a.length) 1099511627776)) (
   kr (([]:List Int)++a)) none)
 (
  bC (
   kr ([]:List Int))
  (
   cond (lk N (Nat.blt (([]:List Int).length+a.length) 1099511627776)) (
    kr (([]:List Int)++a)) none))
def Spec:Prop:=∀ (v0:LI),Ty.bd (.sl 0 (.int .i64)) v0->P v0=true->∃N0,∀N,N0<=N->Z0 N v0 (λv2=>some ((),(v2,())))=some ((),((g v0),()))
def ok:Spec:=λa hb hp=>⟨0,λN hN=>by
 have hl:a.length<1099511627776:=by simpa[P]using hp
 have hc:Nat.blt (([]:List Int).length+a.length) 1099511627776=true:=by simpa using hl
 simp only[Z0,ax,g,hc,cond_true,List.nil_append];by_cases h:0<a.length;·simp[h]
 ·have:a=[]:=List.eq_nil_of_length_eq_zero (by omega);subst this;simp[eE]⟩
end dJ
namespace a8
def g(m:Int×Int×List Int):(Int×Int×List Int)×Bool :=
 if((bH m&&!decide (bc m=[]))&&(decide (m.2.1=m.1)&&decide (2*m.1<=8)))=true then(ck m,true)else((0,0,[]),false)
def Z1{J:Type}(N:Nat)(a:MT)(kn:I2 (LI->I2 (Option J))):Option J :=
 kn a.1 a.2.1 a.2.2 0 0
def Z3{J:Type}(N:Nat)(a b:Int)(c:LI)(d e:Int)(kn:I2 (LI->I2 (Option J)))(kr:LI->Bool->I2 (Option J)):Option J :=
 cond (!(lk N ((gj.g (a,(b,c))))))
 (
  kr ([]:List Int) false 0 0)
 (
  cond (lk N (!(decide (b=a))))
  (
   kr ([]:List Int) false 0 0)
  (
   cond (lk N (decide (8<(ab (2*a)))))
   (
    kr ([]:List Int) false 0 0)
   (
    kn a b c d e)))
def Z5{J:Type}(N:Nat)(a c:Int)(b:LI)(d e:Int)(kn:LI->I2 (LI->I4 (Option J))):Option J :=
 bC (
  cond (lk N (dJ.P b)) (
   bo (
    kn (dJ.g b) a c b d e a (ab (2*a)))) none)
 (
  cond (lk N (dJ.P b)) (
   kn (dJ.g b) a c b d e a (ab (2*a))) none)
def Z8{J:Type}(N:Nat)(a:LI)(b c:Int)(d:LI)(e f g h:Int)(kn:LI->I3 (LI->I4 (Option J))):Option J :=
 kn a 0 b c d e f g h
def Z12{J:Type}(N:Nat)(a:LI)(b c h:Int)(i:LI)(d e f g:Int)(kn:LI->I3 (LI->I4 (Option J)))(k0:LI->I4 (Option J)):Option J :=
 cond (lk N (decide (b<c)))
 (
  kn a b c h i d e f g)
 (
  k0 a d e f g)
def Z16{J:Type}(N:Nat)(a:LI)(b c d:Int)(e:LI)(f g h i:Int)(kn:LI->I4 (LI->I4 (Option J))):Option J :=
 kn a b 0 c d e f g h i
def Z19{J:Type}(N:Nat)(a:LI)(b c d e:Int)(f:LI)(g h i j:Int)(kn:LI->I4 (LI->I4 (Option J)))(k2:LI->I3 (LI->I4 (Option J))):Option J :=
 cond (lk N (decide (c<d)))
 (
  cond (lk N (decide (b=c)))
  (
   cond (lk N (Nat.blt (a.length+([1]:List Int).length) 1099511627776)) (
    kn (a++([1]:List Int)) b (ab (c+1)) d e f g h i j) none)
  (
   cond (lk N (Nat.blt (a.length+([0]:List Int).length) 1099511627776)) (
    kn (a++([0]:List Int)) b (ab (c+1)) d e f g h i j) none))
 (
  k2 a b d e f g h i j)
def Z18L{J:Type}(N:Nat)(k2:LI->I3 (LI->I4 (Option J))):Nat->LI->Int->Int->Int->Int->LI->Int->Int->Int->Int->Option J
 |0,_,_,_,_,_,_,_,_,_,_=>none
 |M+1,a,b,c,d,e,f,g,h,i,j=>Z19 N a b c d e f g h i j (λa b c d e f g h i j=>Z18L N k2 M a b c d e f g h i j) k2
def Z18 N a b c d e f g h i j k2:=(Z18L N k2 N a b c d e f g h i j:Option J)
def Z17 N a b c d e f g h i j kn:=(Z18 N a b c d e f g h i j kn:Option J)
def Z15 N a b c d e f g h i kn:=(Z16 N a b c d e f g h i (λa b j c d e f g h i=>Z17 N a b j c d e f g h i kn):Option J)
def Z14 N a b c d e f g h i kn:=(Z15 N a b c d e f g h i kn:Option J)
def Z20{J:Type}(N:Nat)(a:LI)(b c d:Int)(e:LI)(f g h i:Int)(kn:LI->I3 (LI->I4 (Option J))):Option J :=
 kn a (ab (b+1)) c d e f g h i
def Z13 N a b c d e f g h i kn:=(Z14 N a b c d e f g h i (λa b c d e f g h i=>Z20 N a b c d e f g h i kn):Option J)
def Z11 N a b c d e f g h i kn k0:=(Z12 N a b c d e f g h i (λa b c d e f g h i=>Z13 N a b c d e f g h i kn) k0:Option J)
def Z10L{J:Type}(N:Nat)(k0:LI->I4 (Option J)):Nat->LI->Int->Int->Int->LI->Int->Int->Int->Int->Option J
 |0,_,_,_,_,_,_,_,_,_=>none
 |M+1,a,b,c,d,e,f,g,h,i=>Z11 N a b c d e f g h i (λa b c d e f g h i=>Z10L N k0 M a b c d e f g h i) k0
def Z10 N a b c d e f g h i k0:=(Z10L N k0 N a b c d e f g h i:Option J)
def Z9 N a b c d e f g h i kn:=(Z10 N a b c d e f g h i kn:Option J)
def Z7 N a b c d e f g h kn:=(Z8 N a b c d e f g h (λa i b c d e f g h=>Z9 N a i b c d e f g h kn):Option J)
def Z21{J:Type}(N:Nat)(a:LI)(d e b c:Int)(kr:LI->Bool->I2 (Option J)):Option J :=
 kr a true b c
def Z6 N a f g h b c d e kr:=(Z7 N a f g h b c d e (λa b c d e=>Z21 N a b c d e kr):Option J)
def Z4 N a b c d e kr:=(Z5 N a b c d e (λf a b c d e g h=>Z6 N f a b c d e g h kr):Option J)
def Z2 N a b c d e kr:=(Z3 N a b c d e (λa b c d e=>Z4 N a b c d e kr) kr:Option J)
def Z0 N a kr:=(Z1 N a (λb c d e f=>Z2 N b c d e f kr):Option J)
def Spec:Prop:=∀ (v0:MT),Ty.bd (.pair (.int .i64) (.pair (.int .i64) (.sl 0 (.int .i64)))) v0->∃N0,∀N,N0<=N->Z0 N v0 (λv2_2 v3 v2_0 v2_1=>some ((),((v2_0,(v2_1,v2_2)),(v3,()))))=some ((),((g v0).1,((g v0).2,())))
def inner{J:Type}{N:Nat}{m:Int×Int×List Int}(hd:aG m=true)(k2:List Int->Int->Int->Int->List Int->Int->Int->Int->Int->Option J)(t0 t1 o0 o1:Int)(base:List Int)(hb:base.length<=65){i:Nat}(hi:i<m.1.toNat):∀(M j:Nat),j<=m.1.toNat->m.1.toNat-j<M ->
  Z18L N k2 M (base++(gH m.1.toNat i).take j) (i:Int) (j:Int) m.1 m.2.1 m.2.2 t0 t1 o0 o1=k2 (base++gH m.1.toNat i) (i:Int) m.1 m.2.1 m.2.2 t0 t1 o0 o1:=by
 obtain⟨n,r,hn,hr,hn1,hn5,hnr,hr8,hl⟩:=a7 hd;intro M;induction M with
 |zero=>intro j _ h;omega
 |succ M ih =>
  intro j hj hM;simp only[Z18L,Z19];by_cases h:j<m.1.toNat
  ·have hlen:∀x:Int,Nat.blt ((base++(gH m.1.toNat i).take j).length+([x]).length) 1099511627776=true:=λx=>by rw[Nat.blt_eq,List.length_append,List.length_take,lS,List.length_singleton];omega
   have ht:=uF (l:=gH m.1.toNat i) (j:=j) (0:Int) (by rw[lS];exact h);rw[HJ h]at ht;have:=ih (j+1) h (by omega);rw[<-ht,<-List.append_assoc]at this;rw[ct (dt (by omega))];by_cases e:i=j;·rw[if_pos e]at this;rw[ct (dt (by omega)),ct (hlen _),bm (by rw[bw];omega)];exact this
   ·rw[if_neg e]at this;rw[cf (df (by omega)),ct (hlen _),bm (by rw[bw];omega)];exact this
  ·rw[cf (df (by omega)),List.take_of_length_le (by rw[lS];omega)]
def loop{J:Type}{N:Nat}(hN:10<=N){m:Int×Int×List Int}(hd:aG m=true)(k0:List Int->Int->Int->Int->Int->Option J)(t0 t1 o0 o1:Int):∀(M i:Nat),i<=m.1.toNat->m.1.toNat-i<M ->
  Z10L N k0 M (m.2.2++ew m.1.toNat i) (i:Int) m.1 m.2.1 m.2.2 t0 t1 o0 o1=k0 (m.2.2++ew m.1.toNat m.1.toNat) t0 t1 o0 o1:=by
 obtain⟨n,r,hn,hr,hn1,hn5,hnr,hr8,hl⟩:=a7 hd;intro M;induction M with
 |zero=>intro i _ h;omega
 |succ M ih =>
  intro i hi hM;simp only[Z10L,Z11,Z12];by_cases h:i<m.1.toNat;·rw[ct (dt (by omega))];simp only[Z13,Z14,Z15,Z16,Z17,Z18];have hin:=inner (J:=J) (N:=N) hd (λout4_2 i5 m1_0 m1_1 m1_2 t2_0 t2_1 out4_0 out4_1=>Z20 N out4_2 i5 m1_0 m1_1 m1_2 t2_0 t2_1 out4_0 out4_1 (λout4_2 i5 m1_0 m1_1 m1_2 t2_0 t2_1 out4_0 out4_1=>Z10L N k0 M out4_2 i5 m1_0 m1_1 m1_2 t2_0 t2_1 out4_0 out4_1)) t0 t1 o0 o1 (m.2.2++ew m.1.toNat i) (zS hd i (by omega)) h N 0 (by omega) (by omega);rw[List.take_zero,List.append_nil,show((0:Nat):Int)=0 from rfl]at hin;rw[hin];simp only[Z20];rw[bm (by rw[bw];omega),List.append_assoc];exact ih (i+1) h (by omega)
  ·rw[cf (df (by omega)),show i=m.1.toNat by omega]
def ok:Spec:=λm hb=>⟨10,λN hN=>by
 have e0:gj.g (m.1,(m.2.1,m.2.2))=(bH m&&!decide (bc m=[])):=rfl;simp only[Z0,Z1,Z2,Z3,e0,g,ax];cases h1:(bH m&&!decide (bc m=[]));·rfl
 have hs:bH m=true:=by simp only[Bool.and_eq_true]at h1;exact h1.1
 have hd:=cj hs;obtain⟨n,r,hn,hr,hn1,hn5,hnr,hr8,hl⟩:=a7 hd;have hlen:=uP hd;rw[aI (by omega) (by omega)];by_cases h2:m.2.1=m.1
 ·rw[dt h2];by_cases h3:2*m.1<=8;·rw[dt h3,df (show ¬ 8<2*m.1 by omega)];simp only[Z4,Z5];rw[ct (show dJ.P m.2.2=true from dt (by omega)),ct (show dJ.P m.2.2=true from dt (by omega))];simp only[bo,eE];simp only[Z6,Z7,Z8,Z9,Z10];have:=loop (J:=Unit×(Int×Int×List Int)×Bool×Unit) hN hd (λout4_2 t2_0 t2_1 out4_0 out4_1=>Z21 N out4_2 t2_0 t2_1 out4_0 out4_1 (λt2_2 t3 t2_0 t2_1=>some ((),((t2_0,(t2_1,t2_2)),(t3,()))))) 0 0 m.1 (ab (2*m.1)) N 0 (by omega) (by omega);rw[ew,List.append_nil]at this;refine this.trans ?_;simp only[Z21];rw[aI (by omega) (by omega)];rfl
  ·rw[df h3,dt (show 8<2*m.1 by omega)];rfl
 ·rw[df h2];rfl⟩
end a8
namespace cG
def P(m:Int×Int×List Int)(k:Int):Bool:=aG m&&(decide (0<=k)&&decide (k<m.1))
def g(m:Int×Int×List Int)(k:Int):Int:=eN (du m k.toNat)
def Z1{J:Type}(N:Nat)(a:MT)(b:Int)(kn:I3 (LI->Option J)):Option J :=
 kn b a.1 a.2.1 a.2.2
def Z3{J:Type}(N:Nat)(a b c:Int)(d:LI)(kn:Int->Bool->Bool->I2 (LI->Option J)):Option J :=
 kn a false false b c d
def Z6{J:Type}(N:Nat)(b:Int)(c d:Bool)(a e:Int)(f:LI)(kn:Int->Bool->Bool->I3 (LI->Option J)):Option J :=
 kn b c d a a e f
def Z9{J:Type}(N:Nat)(c:Int)(h f:Bool)(a d b:Int)(e:LI)(kn:Int->Bool->Bool->I3 (LI->Option J))(k0:Bool->Bool->Option J):Option J :=
 cond (lk N (decide (a<b)))
 (
  cond (h)
  (
   cond (f)
   (
    kn c true true (ab (a+1)) d b e)
   (
    cond (lk N (cn.P (d,(b,e)) a c)) (
     kn c true (lk N (decide ((cn.g (d,(b,e)) a c)<0))) (ab (a+1)) d b e) none))
  (
   cond (lk N (cn.P (d,(b,e)) a c)) (
    cond (f)
    (
     kn c (lk N (decide (0<(cn.g (d,(b,e)) a c)))) true (ab (a+1)) d b e)
    (
     cond (lk N (cn.P (d,(b,e)) a c)) (
      kn c (lk N (decide (0<(cn.g (d,(b,e)) a c)))) (lk N (decide ((cn.g (d,(b,e)) a c)<0))) (ab (a+1)) d b e) none)) none))
 (
  k0 h f)
def Z8L{J:Type}(N:Nat)(k0:Bool->Bool->Option J):Nat->Int->Bool->Bool->Int->Int->Int->LI->Option J
 |0,_,_,_,_,_,_,_=>none
 |M+1,a,b,c,d,e,f,g=>Z9 N a b c d e f g (λa b c d e f g=>Z8L N k0 M a b c d e f g) k0
def Z8 N a b c d e f g k0:=(Z8L N k0 N a b c d e f g:Option J)
def Z7 N a b c d e f g kn:=(Z8 N a b c d e f g kn:Option J)
def Z5 N a b c d e f kn:=(Z6 N a b c d e f (λa b c g d e f=>Z7 N a b c g d e f kn):Option J)
def Z10{J:Type}(N:Nat)(a b:Bool)(kr:Int->Option J):Option J :=
 cond (a)
 (
  cond (!(b))
  (
   kr 1)
  (
   cond (b)
   (
    cond (!(a))
    (
     kr (-1))
    (
     kr 0))
   (
    kr 0)))
 (
  cond (b)
  (
   cond (!(a))
   (
    kr (-1))
   (
    kr 0))
  (
   kr 0))
def Z4 N c a b d e f kr:=(Z5 N c a b d e f (λa b=>Z10 N a b kr):Option J)
def Z2 N a b c d kr:=(Z3 N a b c d (λa e f b c d=>Z4 N a e f b c d kr):Option J)
def Z0 N b a kr:=(Z1 N b a (λa c d e=>Z2 N a c d e kr):Option J)
def Spec:Prop:=∀ (v0:MT) (v1:Int),Ty.bd (.pair (.int .i64) (.pair (.int .i64) (.sl 0 (.int .i64)))) v0->P v0 v1=true->∃N0,∀N,N0<=N->Z0 N v0 v1 (λv4=>some ((),(v4,())))=some ((),((g v0 v1),()))
def loop{J:Type}(N:Nat)(k0:Bool->Bool->Option J){m:Int×Int×List Int}(hd:aG m=true){k:Nat}(hk:k<m.1.toNat):∀(M t:Nat) (u d:Bool),t<=m.2.1.toNat-m.1.toNat->m.2.1.toNat-m.1.toNat-t<M ->
  Z8L N k0 M (k:Int) u d ((m.1.toNat+t:Nat):Int) m.1 m.2.1 m.2.2=k0 (u||(((du m k).drop t).any λx=>decide (0<x))) (d||(((du m k).drop t).any λx=>decide (x<0))):=by
 obtain⟨n,r,hn,hr,hn1,hn5,hnr,hr8,hl⟩:=a7 hd;have hcl:(du m k).length=m.2.1.toNat-m.1.toNat:=by simp[du]
 intro M;induction M with
 |zero=>intro t _ _ _ h;omega
 |succ M ih =>
  intro t u d ht hM;simp only[Z8L,Z9];by_cases h:t<m.2.1.toNat-m.1.toNat;·have hP:cn.P (m.1,(m.2.1,m.2.2)) ((m.1.toNat+t:Nat):Int) (k:Int)=true:=iu hd (by omega) hk;have hA:cn.g (m.1,(m.2.1,m.2.2)) ((m.1.toNat+t:Nat):Int) (k:Int)=af m (m.1.toNat+t) k:=it (by omega) _ _;have hg:(du m k).getD t 0=af m (m.1.toNat+t) k:=kE h 0;rw[ct (dt (by omega)),f5 0 (by omega),List.any_cons,List.any_cons,hg];simp only[ax,hP,hA,cond_true];rw[bm (by rw[bw];omega)];have ih':=λu d=>ih (t+1) u d h (by omega);simp only[<-Nat.add_assoc]at ih';simp only[ih'];cases u<;>cases d<;>simp
  ·rw[cf (df (by omega)),List.drop_of_length_le (by omega)];simp
def ok:Spec:=λm k hb hp=>⟨10,λN hN=>by simp only[P,Bool.and_eq_true,decide_eq_true_eq]at hp;obtain⟨hd,h0,h1⟩:=hp;obtain⟨x,rfl⟩:=Int.eq_ofNat_of_zero_le h0;obtain⟨n,r,hn,hr,hn1,hn5,hnr,hr8,hl⟩:=a7 hd;simp only[Z0,Z1,Z2,Z3,Z4,Z5,Z6,Z7,Z8];have:=loop (J:=Unit×Int×Unit) N (λsome5 none6=>Z10 N some5 none6 (λt4=>some ((),(t4,())))) hd (k:=x) (by omega) N 0 false false (by omega) (by omega);rw[Nat.add_zero,show((m.1.toNat:Nat):Int)=m.1 by omega,List.drop_zero]at this;refine this.trans ?_;simp only[Bool.false_or,Z10,g,Int.toNat_natCast];cases hu:((du m x).any λx=>decide (0<x))<;>cases hd':((du m x).any λx=>decide (x<0))<;>rw[HR hu hd']<;>rfl⟩
end cG
namespace bD
def P(m:Int×Int×List Int)(k:Int):Bool:=bH m&&(decide (0<=k)&&decide (k<m.1))
def g(m:Int×Int×List Int)(k:Int):Int×Int×List Int:=aO m k.toNat
def Z1{J:Type}(N:Nat)(a:MT)(b:Int)(kn:I3 (LI->I2 (Option J))):Option J :=
 kn b a.1 a.2.1 a.2.2 0 0
def Z3{J:Type}(N:Nat)(d b c:Int)(a:LI)(e f:Int)(kn:LI->I3 (LI->I4 (Option J))):Option J :=
 bC (
  cond (lk N (dJ.P a)) (
   bo (
    kn (dJ.g a) d b c a e f b c)) none)
 (
  cond (lk N (dJ.P a)) (
   kn (dJ.g a) d b c a e f b c) none)
def Z6{J:Type}(N:Nat)(a:LI)(b c d:Int)(e:LI)(f g h i:Int)(kn:LI->I4 (LI->I4 (Option J))):Option J :=
 kn a b 0 c d e f g h i
def Z10{J:Type}(N:Nat)(a:LI)(h b i c:Int)(j:LI)(d e f g:Int)(kn:LI->I4 (LI->I4 (Option J)))(k0:LI->I4 (Option J)):Option J :=
 cond (lk N (decide (b<c)))
 (
  kn a h b i c j d e f g)
 (
  k0 a d e f g)
def Z14{J:Type}(N:Nat)(a:LI)(b c d e:Int)(f:LI)(g h i j:Int)(kn:LI->I5 (LI->I4 (Option J))):Option J :=
 kn a b c 0 d e f g h i j
def Z18{J:Type}(N:Nat)(b:LI)(c d e a f:Int)(g:LI)(h i j l:Int)(kn:LI->I5 (LI->I4 (Option J)))(k2:LI->I4 (LI->I4 (Option J))):Option J :=
 cond (lk N (decide (e<a)))
 (
  kn b c d e a f g h i j l)
 (
  k2 b c d a f g h i j l)
def Z22{J:Type}(N:Nat)(d:LI)(e a b c f:Int)(g:LI)(h i j l:Int)(kn:LI->I6 (LI->I4 (Option J))):Option J :=
 cond (lk N (au (ab ((ab (a*c))+b)) d.length)) (
  kn d e a b (ab ((ab (a*c))+b)) c f g h i j l) none
def Z24{J:Type}(N:Nat)(h:LI)(a e f i b c:Int)(d:LI)(j l m o:Int)(kn:LI->I8 (LI->I4 (Option J))):Option J :=
 cond (lk N (cn.P (b,(c,d)) e a)) (
  cond (lk N (cn.P (b,(c,d)) a f)) (
   kn h a e f i (cn.g (b,(c,d)) e a) (cn.g (b,(c,d)) a f) b c d j l m o) none) none
def Z27{J:Type}(N:Nat)(d:LI)(a b c e f g h i:Int)(j:LI)(l m o p:Int)(kn:LI->I6 (Bool->I2 (LI->I4 (Option J)))):Option J :=
 cond (lk N (decide (b=a)))
 (
  kn d a b c e f g true h i j l m o p)
 (
  kn d a b c e f g (lk N (decide (c=a))) h i j l m o p)
def Z28{J:Type}(N:Nat)(a:LI)(b c d e o p:Int)(q:Bool)(f g:Int)(h:LI)(i j l m:Int)(kn:LI->I5 (LI->I4 (Option J))):Option J :=
 cond (q)
 (
  kn (a.set e.toNat (ab (0-(a.getD e.toNat 0)))) b c d f g h i j l m)
 (
  cond (lk N (decide (0<o)))
  (
   cond (lk N (decide (0<p)))
   (
    kn (a.set e.toNat (ab ((a.getD e.toNat 0)+(ab (o*p))))) b c d f g h i j l m)
   (
    cond (lk N (decide (o<0)))
    (
     cond (lk N (decide (p<0)))
     (
      kn (a.set e.toNat (ab ((a.getD e.toNat 0)-(ab (o*p))))) b c d f g h i j l m)
     (
      kn a b c d f g h i j l m))
    (
     kn a b c d f g h i j l m)))
  (
   cond (lk N (decide (o<0)))
   (
    cond (lk N (decide (p<0)))
    (
     kn (a.set e.toNat (ab ((a.getD e.toNat 0)-(ab (o*p))))) b c d f g h i j l m)
    (
     kn a b c d f g h i j l m))
   (
    kn a b c d f g h i j l m)))
def Z26 N a b c d e f g h i j l m o p kn:=(Z27 N a b c d e f g h i j l m o p (λa b c d e f g q h i j l m o p=>Z28 N a b c d e f g q h i j l m o p kn):Option J)
def Z25 N a b c d e f g h i j l m o p kn:=(Z26 N a b c d e f g h i j l m o p kn:Option J)
def Z23 N a b c d e f g h i j l m kn:=(Z24 N a b c d e f g h i j l m (λa b c d e o p f g h i j l m=>Z25 N a b c d e o p f g h i j l m kn):Option J)
def Z21 N a b c d e f g h i j l kn:=(Z22 N a b c d e f g h i j l (λa b c d m e f g h i j l=>Z23 N a b c d m e f g h i j l kn):Option J)
def Z20 N a b c d e f g h i j l kn:=(Z21 N a b c d e f g h i j l kn:Option J)
def Z29{J:Type}(N:Nat)(a:LI)(b c d e f:Int)(g:LI)(h i j l:Int)(kn:LI->I5 (LI->I4 (Option J))):Option J :=
 kn a b c (ab (d+1)) e f g h i j l
def Z19 N a b c d e f g h i j l kn:=(Z20 N a b c d e f g h i j l (λa b c d e f g h i j l=>Z29 N a b c d e f g h i j l kn):Option J)
def Z17 N a b c d e f g h i j l kn k2:=(Z18 N a b c d e f g h i j l (λa b c d e f g h i j l=>Z19 N a b c d e f g h i j l kn) k2:Option J)
def Z16L{J:Type}(N:Nat)(k2:LI->I4 (LI->I4 (Option J))):Nat->LI->Int->Int->Int->Int->Int->LI->Int->Int->Int->Int->Option J
 |0,_,_,_,_,_,_,_,_,_,_,_=>none
 |M+1,a,b,c,d,e,f,g,h,i,j,l=>Z17 N a b c d e f g h i j l (λa b c d e f g h i j l=>Z16L N k2 M a b c d e f g h i j l) k2
def Z16 N a b c d e f g h i j l k2:=(Z16L N k2 N a b c d e f g h i j l:Option J)
def Z15 N a b c d e f g h i j l kn:=(Z16 N a b c d e f g h i j l kn:Option J)
def Z13 N a b c d e f g h i j kn:=(Z14 N a b c d e f g h i j (λa b c l d e f g h i j=>Z15 N a b c l d e f g h i j kn):Option J)
def Z12 N a b c d e f g h i j kn:=(Z13 N a b c d e f g h i j kn:Option J)
def Z30{J:Type}(N:Nat)(a:LI)(b c d e:Int)(f:LI)(g h i j:Int)(kn:LI->I4 (LI->I4 (Option J))):Option J :=
 kn a b (ab (c+1)) d e f g h i j
def Z11 N a b c d e f g h i j kn:=(Z12 N a b c d e f g h i j (λa b c d e f g h i j=>Z30 N a b c d e f g h i j kn):Option J)
def Z9 N a b c d e f g h i j kn k0:=(Z10 N a b c d e f g h i j (λa b c d e f g h i j=>Z11 N a b c d e f g h i j kn) k0:Option J)
def Z8L{J:Type}(N:Nat)(k0:LI->I4 (Option J)):Nat->LI->Int->Int->Int->Int->LI->Int->Int->Int->Int->Option J
 |0,_,_,_,_,_,_,_,_,_,_=>none
 |M+1,a,b,c,d,e,f,g,h,i,j=>Z9 N a b c d e f g h i j (λa b c d e f g h i j=>Z8L N k0 M a b c d e f g h i j) k0
def Z8 N a b c d e f g h i j k0:=(Z8L N k0 N a b c d e f g h i j:Option J)
def Z7 N a b c d e f g h i j kn:=(Z8 N a b c d e f g h i j kn:Option J)
def Z5 N a b c d e f g h i kn:=(Z6 N a b c d e f g h i (λa b j c d e f g h i=>Z7 N a b j c d e f g h i kn):Option J)
def Z31{J:Type}(N:Nat)(a:LI)(d e b c:Int)(kr:LI->I2 (Option J)):Option J :=
 kr a b c
def Z4 N a f g h i b c d e kr:=(Z5 N a f g h i b c d e (λa b c d e=>Z31 N a b c d e kr):Option J)
def Z2 N a b c d e f kr:=(Z3 N a b c d e f (λg a b c d e f h i=>Z4 N g a b c d e f h i kr):Option J)
def Z0 N b a kr:=(Z1 N b a (λa c d e f g=>Z2 N a c d e f g kr):Option J)
def Spec:Prop:=∀ (v0:MT) (v1:Int),Ty.bd (.pair (.int .i64) (.pair (.int .i64) (.sl 0 (.int .i64)))) v0->P v0 v1=true->∃N0,∀N,N0<=N->Z0 N v0 v1 (λv4_2 v4_0 v4_1=>some ((),((v4_0,(v4_1,v4_2)),())))=some ((),((g v0 v1),()))
section
variable {J : Type} {N : Nat} {m : Int × Int × List Int} {k : Nat}
def at_g(hd:0<=m.1)(a b:Nat):cn.g (m.1,(m.2.1,m.2.2)) (a:Int) (b:Int)=af m a b:=it hd a b
def at_p(hd:aG m=true){a b:Nat}(ha:a<m.2.1.toNat)(hb:b<m.1.toNat):cn.P (m.1,(m.2.1,m.2.2)) (a:Int) (b:Int)=true:=iu hd ha hb
def cur(m:Int×Int×List Int)(k p:Nat):List Int:=eK m.2.2.length p (gX m k) (λp=>m.2.2.getD p 0)
def inner(hs:bH m=true)(hk:k<m.1.toNat)(k2:List Int->Int->Int->Int->Int->List Int->Int->Int->Int->Int->Option J)(t0 t1 o0 o1:Int){i:Nat}(hi:i<m.2.1.toNat):∀(M j:Nat),j<=m.1.toNat->m.1.toNat-j<M ->
  Z16L N k2 M (cur m k (i*m.1.toNat+j)) (k:Int) (i:Int) (j:Int) m.1 m.2.1 m.2.2 t0 t1 o0 o1=k2 (cur m k (i*m.1.toNat+m.1.toNat)) (k:Int) (i:Int) m.1 m.2.1 m.2.2 t0 t1 o0 o1:=by
 have hd:=cj hs;obtain⟨n,r,hn,hr,hn1,hn5,hnr,hr8,hl⟩:=a7 hd;intro M;induction M with
 |zero=>intro j _ h;omega
 |succ M ih =>
  intro j hj hM;simp only[Z16L,Z17,Z18];by_cases h:j<m.1.toNat
  ·have hlt:i*m.1.toNat+j<m.2.2.length:=by have:=gT (n:=n) (r:=r) (i:=i) (j:=j) (by omega) (by omega);rw[hl,hn];exact this
   have hidx:ab (ab ((i:Int)*m.1)+(j:Int))=((i*m.1.toNat+j:Nat):Int):=by
    have e:(i:Int)*m.1=((i*m.1.toNat:Nat):Int):=by rw[hn,Int.natCast_mul];simp
    have hb:i*m.1.toNat<=8*5:=Nat.mul_le_mul (by omega) (by omega);have e2:ab (((i*m.1.toNat:Nat):Int))=((i*m.1.toNat:Nat):Int):=aI (by omega) (by omega);rw[e,e2,aI (by omega) (by omega)];omega
   have b1:=fj hs i j;have b2:=fj hs i k;have b3:=fj hs k j;have hbc:=zI (f:=false) b1 b2 b3;have hF:=uM (m:=m) (k:=k) (i:=i) h;have hcl:(cur m k (i*m.1.toNat+j)).length=m.2.2.length:=nF;have hset:∀v,v=gX m k (i*m.1.toNat+j)->(cur m k (i*m.1.toNat+j)).set (i*m.1.toNat+j) v=cur m k (i*m.1.toNat+(j+1)):=λv hv=>by subst hv;exact zl hlt
   have hsame:gX m k (i*m.1.toNat+j)=af m i j->cur m k (i*m.1.toNat+j)=cur m k (i*m.1.toNat+(j+1)):=λhv=>(zK hv).symm;have iB:au (((i*m.1.toNat+j:Nat):Int)) (cur m k (i*m.1.toNat+j)).length=true:=aU (by rw[hcl];exact hlt);have pij:=at_p hd hi h;rw[ct (dt (by omega))];simp only[Z19,Z20,Z21,Z22,Z23,Z24,Z25];have fin:∀c,c=cur m k (i*m.1.toNat+(j+1))->Z29 N c (k:Int) (i:Int) (j:Int) m.1 m.2.1 m.2.2 t0 t1 o0 o1 (λout5_2 k1 i6 j7 m2_0 m2_1 m2_2 t4_0 t4_1 out5_0 out5_1=>Z16L N k2 M out5_2 k1 i6 j7 m2_0 m2_1 m2_2 t4_0 t4_1 out5_0 out5_1)=k2 (cur m k (i*m.1.toNat+m.1.toNat)) (k:Int) (i:Int) m.1 m.2.1 m.2.2 t0 t1 o0 o1:=by intro c hc;subst hc;simp only[Z29];rw[bm (by rw[bw];omega)];exact ih (j+1) h (by omega)
   have hcg:(cur m k (i*m.1.toNat+j)).getD (i*m.1.toNat+j) 0=af m i j:=by refine(G3 hlt 0).trans ?_;rw[if_neg (by omega)];rfl
   rw[hidx,ct iB,ct (at_p hd hi hk),ct (at_p hd (show k<m.2.1.toNat by omega) h),at_g (by omega),at_g (by omega)];simp only[Z26,Z27,Z28,Int.toNat_natCast,hcg];by_cases hik:i=k;·rw[ct (dt (by omega)),eV rfl,aI (by omega) (by omega)];refine fin _ (hset _ ?_);rw[hF,dt hik,Int.zero_sub];rfl
   ·rw[cf (df (by omega))];by_cases hjk:j=k;·rw[eV (by rw[ax];exact dt (by omega)),aI (by omega) (by omega)];refine fin _ (hset _ ?_);rw[hF,df hik,dt hjk,Int.zero_sub];rfl
    ·rw[dR (by rw[ax];exact df (by omega))];rw[df hik,df hjk]at hF;simp only[iw,Bool.or_self,Bool.false_eq_true,if_false]at hF;have wbc:ab (af m i k*af m k j)=af m i k*af m k j:=aI (by omega) (by omega);rw[wbc];by_cases a1:0<af m i k
     ·rw[ct (dt a1)];by_cases a2:0<af m k j;·rw[ct (dt a2),aI (by omega) (by omega)];refine fin _ (hset _ ?_);rw[hF,if_pos ⟨a1,a2⟩]
      ·rw[cf (df a2),cf (df (by omega))];refine fin _ (hsame ?_);rw[hF,if_neg (by omega),if_neg (by omega)]
     ·rw[cf (df a1)];by_cases a2:af m i k<0
      ·rw[ct (dt a2)];by_cases a3:af m k j<0;·rw[ct (dt a3),aI (by omega) (by omega)];refine fin _ (hset _ ?_);rw[hF,if_neg (by omega),if_pos ⟨a2,a3⟩]
       ·rw[cf (df a3)];refine fin _ (hsame ?_);rw[hF,if_neg (by omega),if_neg (by omega)]
      ·rw[cf (df a2)];refine fin _ (hsame ?_);rw[hF,if_neg (by omega),if_neg (by omega)]
  ·rw[cf (df (by omega)),show j=m.1.toNat by omega]
def outer(hN:10<=N)(hs:bH m=true)(hk:k<m.1.toNat)(k0:List Int->Int->Int->Int->Int->Option J)(t0 t1 o0 o1:Int):∀(M i:Nat),i<=m.2.1.toNat->m.2.1.toNat-i<M ->
  Z8L N k0 M (cur m k (i*m.1.toNat)) (k:Int) (i:Int) m.1 m.2.1 m.2.2 t0 t1 o0 o1=k0 (cur m k (m.2.1.toNat*m.1.toNat)) t0 t1 o0 o1:=by
 have hd:=cj hs;obtain⟨n,r,hn,hr,hn1,hn5,hnr,hr8,hl⟩:=a7 hd;intro M;induction M with
 |zero=>intro i _ h;omega
 |succ M ih =>
  intro i hi hM;simp only[Z8L,Z9,Z10];by_cases h:i<m.2.1.toNat;·rw[ct (dt (by omega))];simp only[Z11,Z12,Z13,Z14,Z15,Z16];have hin:=inner (J:=J) (N:=N) hs hk (λout5_2 k1 i6 m2_0 m2_1 m2_2 t4_0 t4_1 out5_0 out5_1=>Z30 N out5_2 k1 i6 m2_0 m2_1 m2_2 t4_0 t4_1 out5_0 out5_1 (λout5_2 k1 i6 m2_0 m2_1 m2_2 t4_0 t4_1 out5_0 out5_1=>Z8L N k0 M out5_2 k1 i6 m2_0 m2_1 m2_2 t4_0 t4_1 out5_0 out5_1)) t0 t1 o0 o1 h N 0 (by omega) (by omega);rw[show((0:Nat):Int)=0 from rfl,Nat.add_zero]at hin;rw[hin];simp only[Z30];rw[bm (by rw[bw];omega)];have:=ih (i+1) h (by omega);rw[Nat.add_mul,Nat.one_mul]at this;exact this
  ·rw[cf (df (by omega)),show i=m.2.1.toNat by omega]
end
def ok:Spec:=λm k hb hp=>⟨10,λN hN=>by
 simp only[P,Bool.and_eq_true,decide_eq_true_eq]at hp;obtain⟨hs,h0,h1⟩:=hp;obtain⟨x,rfl⟩:=Int.eq_ofNat_of_zero_le h0;have hd:=cj hs;obtain⟨n,r,hn,hr,hn1,hn5,hnr,hr8,hl⟩:=a7 hd;have hlen:m.2.2.length<=8*5:=by rw[hl];exact Nat.mul_le_mul hr8 hn5
 simp only[Z0,Z1,Z2,Z3];rw[ct (show dJ.P m.2.2=true from dt (by omega)),ct (show dJ.P m.2.2=true from dt (by omega))];simp only[bo,eE];simp only[Z4,Z5,Z6,Z7,Z8];have hstart:cur m x 0=m.2.2:=by unfold cur;rw[zm];exact qa 0 rfl
 have hend:cur m x (m.2.1.toNat*m.1.toNat)=(aO m x).2.2:=by
  have e:m.2.1.toNat*m.1.toNat=m.2.2.length:=by rw[hl,hn,hr];simp
  rw[e];exact zn
 have:=outer (J:=Unit×(Int×Int×List Int)×Unit) hN hs (show x<m.1.toNat by omega) (λout5_2 t4_0 t4_1 out5_0 out5_1=>Z31 N out5_2 t4_0 t4_1 out5_0 out5_1 (λt4_2 t4_0 t4_1=>some ((),((t4_0,(t4_1,t4_2)),())))) 0 0 m.1 m.2.1 N 0 (by omega) (by omega);rw[Nat.zero_mul,hstart,hend]at this;exact this⟩
end bD
namespace a9
def g(m:Int×Int×List Int)(k:Int):(Int×Int×List Int)×Bool :=
 if((bH m&&!decide (bc m=[]))&&(bR k 0 (m.1-1)&&(bH (aO m k.toNat)&&!decide (bc (aO m k.toNat)=[]))))=true then(aO m k.toNat,true)else((0,0,[]),false)
def Z0{J:Type}(N:Nat)(a:MT)(b:Int)(kr:LI->Bool->I2 (Option J)):Option J :=
 cond (!(lk N ((gj.g a))))
 (
  kr ([]:List Int) false 0 0)
 (
  cond (!(lk N ((eQ.g b 0 (ab (a.1-1))))))
  (
   kr ([]:List Int) false 0 0)
  (
   cond (lk N (bD.P a b)) (
    cond (!(lk N ((gj.g (bD.g a b)))))
    (
     kr ([]:List Int) false 0 0)
    (
     kr (bD.g a b).2.2 true (bD.g a b).1 (bD.g a b).2.1)) none))
def Spec:Prop:=∀ (v0:MT) (v1:Int),Ty.bd (.pair (.int .i64) (.pair (.int .i64) (.sl 0 (.int .i64)))) v0->∃N0,∀N,N0<=N->Z0 N v0 v1 (λv4_2 v5 v4_0 v4_1=>some ((),((v4_0,(v4_1,v4_2)),(v5,()))))=some ((),((g v0 v1).1,((g v0 v1).2,())))
def ok:Spec:=λm k hb=>⟨0,λN hN=>by
 simp only[Z0,ax,g,gj.g,eQ.g];cases h1:(bH m&&!decide (bc m=[]));·rfl
 have hs:bH m=true:=by simp only[Bool.and_eq_true]at h1;exact h1.1
 have hd:=cj hs;obtain⟨n,r,hn,hr,hn1,hn5,hnr,hr8,hl⟩:=a7 hd;rw[aI (by omega) (by omega)];cases h2:bR k 0 (m.1-1);·rfl
 have h3:=cJ.1 h2;have hP:bD.P m k=true:=by simp only[bD.P,Bool.and_eq_true,decide_eq_true_eq];exact⟨hs,by omega,by omega⟩
 rw[hP];have hg:bD.g m k=aO m k.toNat:=rfl;rw[hg];cases(bH (aO m k.toNat)&&!decide (bc (aO m k.toNat)=[]))<;>rfl⟩
end a9
namespace cy
def P(r:List (List Int)×Bool)(p:Int×Int×List Int)(ks:List Int):Bool:=!r.2&&(decide (r.1.length<=200)&&(aG p&&decide (ks.length<=12)))
def g(r:List (List Int)×Bool)(p:Int×Int×List Int)(ks:List Int):List (List Int)×Bool:=dH a9.g (13-ks.length) r p ks
def mu(_:List (List Int)×Bool)(_:Int×Int×List Int)(ks:List Int):Nat:=12-ks.length
def Z1{J:Type}(N m:Nat)(b:LL×Bool)(a:MT)(c:LI)(kn:LL->LI->Bool->I2 (LI->Option J)):Option J :=
 kn b.1 c b.2 a.1 a.2.1 a.2.2
def Z3{J:Type}(N m:Nat)(a:LL)(b:LI)(c:Bool)(d e:Int)(f:LI)(kn:LL->LI->Bool->Bool->I2 (LI->Option J)):Option J :=
 kn a b true c d e f
def Z6{J:Type}(N m:Nat)(a:LL)(b:LI)(c d:Bool)(e f:Int)(g:LI)(kn:LL->LI->Bool->Int->Bool->I2 (LI->Option J)):Option J :=
 kn a b c 0 d e f g
def Z9{J:Type}(N m:Nat)(b:LL)(a:LI)(i:Bool)(c:Int)(d:Bool)(e f:Int)(h:LI)(kn:LL->LI->Bool->Int->Bool->I2 (LI->Option J))(k0:LL->LI->Bool->Bool->Option J)(kr:LL->Bool->Option J):Option J :=
 let x1_:=(lk N (bu 0 (a.length:Int)&&(bu (a.length:Int) a.length&&decide ((a.length:Int)=(a.length:Int)))));let x2_:=(a9.g (e,(f,h)) c);let x3_:=((a.take (a.length:Int).toNat)++([c]:List Int));let x0_:=(
   cond (lk N (Nat.blt 0 ([c]:List Int).length&&Nat.blt ((a.take (a.length:Int).toNat).length+([c]:List Int).length) 1099511627776)) (
   cond (lk N (Nat.blt (mu (b,d) x2_.1 x3_) m&&P (b,d) x2_.1 x3_)) (
   kn (g (b,d) x2_.1 x3_).1 a false (ab (c+1)) (g (b,d) x2_.1 x3_).2 e f h) none) none)
 cond (lk N (decide (c<e)))
 (
 cond (!(d))
 (
 cond (lk N (cG.P (e,(f,h)) c)) (
 cond (lk N (!(decide ((cG.g (e,(f,h)) c)=1))))
 (
 kn b a i (ab (c+1)) d e f h)
 (
 cond (!(lk N (x2_.2)))
 (
 kr b true)
 (
 cond (lk N (decide ((a.length:Int)=12)))
 (
 kr b true)
 (
 bC (
 bo (
 cond x1_ x0_ none))
 (
 bC (
 cond x1_ (
 bC x0_
 (
 bo x0_)) none)
 (
 bC (
 cond x1_ x0_ none)
 (
 cond x1_ (
 bo x0_) none))))))) none)
 (
 k0 b a i d))
 (
 k0 b a i d)
def Z8L{J:Type}(N m:Nat)(k0:LL->LI->Bool->Bool->Option J)(kr:LL->Bool->Option J):Nat->LL->LI->Bool->Int->Bool->Int->Int->LI->Option J
 |0,_,_,_,_,_,_,_,_=>none
 |M+1,a,b,c,d,e,f,g,h=>Z9 N m a b c d e f g h (λa b c d e f g h=>Z8L N m k0 kr M a b c d e f g h) k0 kr
def Z8 N m a b c d e f g h k0 kr:=(Z8L N m k0 kr N a b c d e f g h:Option J)
def Z7 N m a b c d e f g h kn kr:=(Z8 N m a b c d e f g h kn kr:Option J)
def Z5 N m a b c d e f g kn kr:=(Z6 N m a b c d e f g (λa b c h d e f g=>Z7 N m a b c h d e f g kn kr):Option J)
def Z10{J:Type}(N m:Nat)(b:LL)(a:LI)(d c:Bool)(kn:LL->Bool->Option J):Option J :=
 cond (d)
 (
  bC (
   bC (
    cond (lk N (Nat.blt (([]:List Int).length+a.length) 1099511627776)) (
     cond (lk N (Nat.blt (b.length+([(([]:List Int)++a)]:List (LI)).length) 1099511627776)) (
      cond (c)
      (
       kn (b++([(([]:List Int)++a)]:List (LI))) true)
      (
       kn (b++([(([]:List Int)++a)]:List (LI))) (lk N (decide (200<((b++([(([]:List Int)++a)]:List (LI))).length:Int)))))) none) none)
   (
    cond (lk N (Nat.blt (([]:List Int).length+a.length) 1099511627776)) (
     bo (
      cond (lk N (Nat.blt (b.length+([(([]:List Int)++a)]:List (LI)).length) 1099511627776)) (
       cond (c)
       (
        kn (b++([(([]:List Int)++a)]:List (LI))) true)
       (
        kn (b++([(([]:List Int)++a)]:List (LI))) (lk N (decide (200<((b++([(([]:List Int)++a)]:List (LI))).length:Int)))))) none)) none))
  (
   cond (lk N (Nat.blt (([]:List Int).length+a.length) 1099511627776)) (
    bC (
     bo (
      cond (lk N (Nat.blt (b.length+([(([]:List Int)++a)]:List (LI)).length) 1099511627776)) (
       cond (c)
       (
        kn (b++([(([]:List Int)++a)]:List (LI))) true)
       (
        kn (b++([(([]:List Int)++a)]:List (LI))) (lk N (decide (200<((b++([(([]:List Int)++a)]:List (LI))).length:Int)))))) none))
    (
     cond (lk N (Nat.blt (b.length+([(([]:List Int)++a)]:List (LI)).length) 1099511627776)) (
      cond (c)
      (
       kn (b++([(([]:List Int)++a)]:List (LI))) true)
      (
       kn (b++([(([]:List Int)++a)]:List (LI))) (lk N (decide (200<((b++([(([]:List Int)++a)]:List (LI))).length:Int)))))) none)) none))
 (
  kn b c)
def Z4 N m a b c d e f g kn kr:=(Z5 N m a b c d e f g (λa b c d=>Z10 N m a b c d kn) kr:Option J)
def Z2 N m a b c d e f kn kr:=(Z3 N m a b c d e f (λa b g c d e f=>Z4 N m a b g c d e f kn kr):Option J)
def Z0 N m b c a kn kr:=(Z1 N m b c a (λd a e f g h=>Z2 N m d a e f g h kn kr):Option J)
def Spec:Prop:=∀(m:Nat) (v0:LL×Bool) (v1:MT) (v2:LI),Ty.bd (.pair (.sl 0 (.sl 0 (.int .i64))) (.bool)) v0->Ty.bd (.pair (.int .i64) (.pair (.int .i64) (.sl 0 (.int .i64)))) v1->Ty.bd (.sl 0 (.int .i64)) v2->(Nat.blt (mu v0 v1 v2) (m+1)&&P v0 v1 v2)=true->∃N0,∀N,N0<=N->Z0 N m v0 v1 v2 (λw0_0 w0_1=>some ((w0_0,w0_1),())) (λw0_0 w0_1=>some ((w0_0,w0_1),()))=some ((g v0 v1 v2),())
def dim_f{m:Int×Int×List Int}{k:Int}(h:(a9.g m k).2=true):aG (a9.g m k).1=true:=by
 unfold a9.g at h ⊢;split;·rename_i hc;simp only[Bool.and_eq_true]at hc;exact kH (cj hc.1.1) _
 ·rename_i hc;rw[if_neg hc]at h;cases h
def loop{J:Type}{N m d:Nat}{p:Int×Int×List Int}(hd:aG p=true){ks:List Int}(hf:ks.length+d=12)(hm:12-ks.length<=m)(k0:List (List Int)->List Int->Bool->Bool->Option J)(kr:List (List Int)->Bool->Option J):∀(M j:Nat) (s:List (List Int)×Bool) (last:Bool),jm s->j<=p.1.toNat->p.1.toNat-j<M ->
  Z8L N m k0 kr M s.1 ks last (j:Int) s.2 p.1 p.2.1 p.2.2=match ey a9.g (dH a9.g d) p ks ((List.range p.1.toNat).drop j) s last with | (s',none)=>kr s'.1 s'.2 | (s',some lst)=>k0 s'.1 ks lst s'.2:=by
 obtain⟨n,r,hn,hr,hn1,hn5,hnr,hr8,hl⟩:=a7 hd;intro M;induction M with
 |zero=>intro j _ _ _ _ h;omega
 |succ M ih =>
  intro j s last hs hj hM;simp only[Z8L,Z9];by_cases h:j<p.1.toNat
  ·have hCP:cG.P (p.1,(p.2.1,p.2.2)) (j:Int)=true:=by simp only[cG.P,Bool.and_eq_true,decide_eq_true_eq];exact⟨hd,by omega,by omega⟩
   have hCg:cG.g (p.1,(p.2.1,p.2.2)) (j:Int)=eN (du p j):=rfl;have hMg:a9.g (p.1,(p.2.1,p.2.2)) (j:Int)=a9.g p (j:Int):=rfl;have htk:ks.take ((ks.length:Int)).toNat=ks:=by rw[Int.toNat_natCast,List.take_length]
   rw[ct (dt (by omega)),iv h,ey,hMg];cases h0:s.2
   ·rw[eV (show(!false)=true from rfl),ct hCP,hCg,if_neg (by simp)];have hlen:=hs.2 h0;have hsp:(s.1,false)=s:=by rw[<-h0]
    by_cases h1:eN (du p j)=1
    ·rw[cf (nf h1),if_pos h1];cases h2:(a9.g p (j:Int)).2;·rw[ax,eV (show(!false)=true from rfl),if_neg (by simp)]
     ·rw[ax,dR (show(!true)=false from rfl),if_pos rfl];by_cases h3:ks.length=12;·rw[ct (dt (by omega)),if_pos h3]
      ·rw[cf (df (by omega)),if_neg h3,htk];have hdd:13-(ks++[(j:Int)]).length=d:=by simp;omega
       have hgg:g (s.1,false) (a9.g p (j:Int)).1 (ks++[(j:Int)])=dH a9.g d s (a9.g p (j:Int)).1 (ks++[(j:Int)]):=by unfold g;rw[hdd,hsp]
       have hrec:(Nat.blt (mu (s.1,false) (a9.g p (j:Int)).1 (ks++[(j:Int)])) m&&P (s.1,false) (a9.g p (j:Int)).1 (ks++[(j:Int)]))=true:=by simp only[Bool.and_eq_true,mu,P,Nat.blt_eq,decide_eq_true_eq,List.length_append,List.length_singleton];exact⟨by omega,rfl,hlen,dim_f h2,by omega⟩
       have hA:(bu 0 (ks.length:Int)&&(bu (ks.length:Int) (ks.length:Int)&&decide True))=true:=by rw[gC (by omega),gC (by omega)];rfl
       have hB:(Nat.blt 0 ([(j:Int)]:List Int).length&&Nat.blt (ks.length+([(j:Int)]:List Int).length) 1099511627776)=true:=by simp;omega
       simp only[hA,hB,hrec,hgg,ax,cond_true,eE];rw[bm (by rw[bw];omega)];exact ih (j+1) _ false (uW d s _ _ h0 hs) h (by omega)
    ·rw[ct (nt h1),if_neg h1,bm (by rw[bw];omega)];have:=ih (j+1) s last hs h (by omega);rw[h0]at this;exact this
   ·rw[dR (show(!true)=false from rfl),if_pos rfl];simp only[h0]
  ·rw[cf (df (by omega)),List.drop_of_length_le (by simp;omega),ey]
def ok:Spec:=λm r p ks hb1 hb2 hb3 hp=>⟨10,λN hN=>by
 simp only[Bool.and_eq_true,P,mu,Nat.blt_eq,decide_eq_true_eq,Bool.not_eq_true']at hp;obtain⟨hm,h0,hl,hd,hf⟩:=hp;obtain⟨n,rr,hn,hr,hn1,hn5,hnr,hr8,hll⟩:=a7 hd;obtain⟨d,hd13⟩:∃d,ks.length+d=12:=⟨12-ks.length,by omega⟩;have hgd:13-ks.length=d+1:=by omega
 have hs:jm r:=⟨by omega,λ_=>hl⟩;simp only[Z0,Z1,Z2,Z3,Z4,Z5,Z6,Z7,Z8];have:=λk0 kr=>loop (J:=(List (List Int)×Bool)×Unit) (N:=N) (m:=m) hd hd13 (by omega) k0 kr N 0 r true hs (by omega) (by omega);simp only[show((0:Nat):Int)=0 from rfl,List.drop_zero]at this;obtain⟨i1,i2⟩:=qr (f:=a9.g) (uW d) p ks (List.range p.1.toNat) r true (λ_=>h0) hs;rw[this,g,hgd,dH];cases hq:ey a9.g (dH a9.g d) p ks (List.range p.1.toNat) r true with
 |mk s' o =>
  rw[hq]at i1 i2;cases o with
  |none=>rfl
  |some last =>
   simp only[Z10];cases last;·rfl
   ·have h00:s'.2=false:=i2 rfl;have h01:=i1.2 h00;simp only at h01;have e1:kJ ks s' true=(s'.1++[ks],decide ((200:Int)<((s'.1++[ks]).length:Int))):=by simp[kJ,h00]
    have hA:Nat.blt (([]:List Int).length+ks.length) 1099511627776=true:=by rw[Nat.blt_eq];simp;omega
    have hB:Nat.blt (s'.1.length+([ks]:List (List Int)).length) 1099511627776=true:=by rw[Nat.blt_eq];simp;omega
    simp only[e1,hA,hB,h00,ax,cond_true,cond_false,eE,List.nil_append]⟩
end cy
namespace fS
def g(m:Int×Int×List Int):List (List Int)×Bool :=
 if(a8.g m).2=true then(if(dH a9.g 13 ([],false) (a8.g m).1 []).2=true then([],false)else((dH a9.g 13 ([],false) (a8.g m).1 []).1,true))else([],false)
def Z0{J:Type}(N:Nat)(a:MT)(kr:LL->Bool->Option J):Option J :=
 cond (!(lk N ((a8.g a).2)))
 (
  kr ([]:List (LI)) false)
 (
  cond (lk N (cy.P (([]:List (LI)),false) (a8.g a).1 ([]:List Int))) (
   cond ((cy.g (([]:List (LI)),false) (a8.g a).1 ([]:List Int)).2)
   (
    kr ([]:List (LI)) false)
   (
    kr (cy.g (([]:List (LI)),false) (a8.g a).1 ([]:List Int)).1 true)) none)
def Spec:Prop:=∀ (v0:MT),Ty.bd (.pair (.int .i64) (.pair (.int .i64) (.sl 0 (.int .i64)))) v0->∃N0,∀N,N0<=N->Z0 N v0 (λv2 v3=>some ((),(v2,(v3,()))))=some ((),((g v0).1,((g v0).2,())))
def ok:Spec:=λm hb=>⟨0,λN hN=>by
 simp only[Z0];rw[g];cases h:(a8.g m).2;·rw[ax];rfl
 ·rw[ax,dR (show(!true)=false from rfl),if_pos rfl];have hd:aG (a8.g m).1=true:=by
   unfold a8.g at h ⊢;split;·rename_i hq;simp only[Bool.and_eq_true,decide_eq_true_eq]at hq;exact uR (cj hq.1.1) hq.2.1 hq.2.2
   ·rename_i hq;rw[if_neg hq]at h;cases h
  have hP:cy.P (([]:List (List Int)),false) (a8.g m).1 ([]:List Int)=true:=by simp only[cy.P,Bool.and_eq_true,decide_eq_true_eq];exact⟨rfl,by simp,hd,by simp⟩
  rw[ct hP,show cy.g (([]:List (List Int)),false) (a8.g m).1 ([]:List Int)=dH a9.g 13 ([],false) (a8.g m).1 []from rfl];cases(dH a9.g 13 ([],false) (a8.g m).1 []).2<;>rfl⟩
end fS
namespace iK
def g(m:Int×Int×List Int):Bool:=(aP m&&!decide (bc m=[]))&&(decide (m.2.1=m.1)&&decide (2*m.1<=8))
def Z0{J:Type}(N:Nat)(a:MT)(kr:Bool->Option J):Option J :=
 cond (lk N ((gM.g a)))
 (
  cond (lk N (decide (a.2.1=a.1)))
  (
   kr (lk N (decide ((ab (2*a.1))<=8))))
  (
   kr false))
 (
  kr false)
def Spec:Prop:=∀ (v0:MT),Ty.bd (.pair (.int .i64) (.pair (.int .i64) (.sl 0 (.int .i64)))) v0->∃N0,∀N,N0<=N->Z0 N v0 (λv2=>some ((),(v2,())))=some ((),((g v0),()))
def ok:Spec:=λm hb=>⟨0,λN hN=>by
 simp only[Z0,ax,g,gM.g];cases h1:(aP m&&!decide (bc m=[]));·rfl
 have hs:aP m=true:=by simp only[Bool.and_eq_true]at h1;exact h1.1
 obtain⟨n,r,hn,hr,hn1,hn5,hnr,hr8,hl⟩:=a7 (cj (cK hs));rw[aI (by omega) (by omega)];cases decide (m.2.1=m.1)<;>rfl⟩
end iK
namespace cH
def P(m:Int×Int×List Int):Bool:=aG m
def g(m:Int×Int×List Int):Int×Int×List Int:=ck m
def Z1{J:Type}(N:Nat)(a:MT)(kn:I2 (LI->I2 (Option J))):Option J :=
 kn a.1 a.2.1 a.2.2 0 0
def Z3{J:Type}(N:Nat)(a b:Int)(c:LI)(d e:Int)(kn:LI->I2 (LI->I4 (Option J))):Option J :=
 cond (lk N (dj.P (a,(b,c)))) (
  kn (dj.g (a,(b,c))).2.2 a b c d e (dj.g (a,(b,c))).1 (dj.g (a,(b,c))).2.1) none
def Z5{J:Type}(N:Nat)(b:LI)(a c:Int)(d:LI)(e f g h:Int)(kn:LI->I2 (LI->I4 (Option J))):Option J :=
 kn b a c d e f g (ab (2*a))
def Z8{J:Type}(N:Nat)(a:LI)(b c:Int)(d:LI)(e f g h:Int)(kn:LI->I3 (LI->I4 (Option J))):Option J :=
 kn a 0 b c d e f g h
def Z11{J:Type}(N:Nat)(c:LI)(b a h:Int)(i:LI)(d e f g:Int)(kn:LI->I3 (LI->I4 (Option J)))(k0:LI->I4 (Option J)):Option J :=
 cond (lk N (decide (b<a)))
 (
  cond (lk N (bu 0 a&&decide (a<1099511627776))) (
   cond (lk N (au b (List.replicate a.toNat (0:Int)).length)) (
    cond (lk N (Nat.blt (c.length+((List.replicate a.toNat (0:Int)).set b.toNat 1).length) 1099511627776)) (
     kn (c++((List.replicate a.toNat (0:Int)).set b.toNat 1)) (ab (b+1)) a h i d e f g) none) none) none)
 (
  k0 c d e f g)
def Z10L{J:Type}(N:Nat)(k0:LI->I4 (Option J)):Nat->LI->Int->Int->Int->LI->Int->Int->Int->Int->Option J
 |0,_,_,_,_,_,_,_,_,_=>none
 |M+1,a,b,c,d,e,f,g,h,i=>Z11 N a b c d e f g h i (λa b c d e f g h i=>Z10L N k0 M a b c d e f g h i) k0
def Z10 N a b c d e f g h i k0:=(Z10L N k0 N a b c d e f g h i:Option J)
def Z9 N a b c d e f g h i kn:=(Z10 N a b c d e f g h i kn:Option J)
def Z7 N a b c d e f g h kn:=(Z8 N a b c d e f g h (λa i b c d e f g h=>Z9 N a i b c d e f g h kn):Option J)
def Z12{J:Type}(N:Nat)(a:LI)(d e b c:Int)(kr:LI->I2 (Option J)):Option J :=
 kr a b c
def Z6 N a f g h b c d e kr:=(Z7 N a f g h b c d e (λa b c d e=>Z12 N a b c d e kr):Option J)
def Z4 N a b c d e f g h kr:=(Z5 N a b c d e f g h (λa b c d e f g h=>Z6 N a b c d e f g h kr):Option J)
def Z2 N a b c d e kr:=(Z3 N a b c d e (λf a b c d e g h=>Z4 N f a b c d e g h kr):Option J)
def Z0 N a kr:=(Z1 N a (λb c d e f=>Z2 N b c d e f kr):Option J)
def Spec:Prop:=∀ (v0:MT),Ty.bd (.pair (.int .i64) (.pair (.int .i64) (.sl 0 (.int .i64)))) v0->P v0=true->∃N0,∀N,N0<=N->Z0 N v0 (λv2_2 v2_0 v2_1=>some ((),((v2_0,(v2_1,v2_2)),())))=some ((),((g v0),()))
def loop{J:Type}{N:Nat}{m:Int×Int×List Int}(hd:aG m=true)(k0:List Int->Int->Int->Int->Int->Option J)(t0 t1 o0 o1:Int):∀(M i:Nat),i<=m.1.toNat->m.1.toNat-i<M ->
  Z10L N k0 M (m.2.2++ew m.1.toNat i) (i:Int) m.1 m.2.1 m.2.2 t0 t1 o0 o1=k0 (m.2.2++ew m.1.toNat m.1.toNat) t0 t1 o0 o1:=by
 obtain⟨n,r,hn,hr,hn1,hn5,hnr,hr8,hl⟩:=a7 hd;intro M;induction M with
 |zero=>intro i _ h;omega
 |succ M ih =>
  intro i hi hM;simp only[Z10L,Z11];by_cases h:i<m.1.toNat;·have hlen:=zS hd i (by omega);rw[ct (dt (by omega)),ct (by rw[gC (by omega),dt (by omega)];rfl),ct (aU (by rw[List.length_replicate];exact h))];rw[Int.toNat_natCast,HK h];rw[ct (by rw[Nat.blt_eq,lS];omega),List.append_assoc,bm (by rw[bw];omega)];exact ih (i+1) h (by omega)
  ·rw[cf (df (by omega)),show i=m.1.toNat by omega]
def ok:Spec:=λm hb hp=>⟨10,λN hN=>by have hd:aG m=true:=hp;obtain⟨n,r,hn,hr,hn1,hn5,hnr,hr8,hl⟩:=a7 hd;have hlen:=uP hd;simp only[Z0,Z1,Z2,Z3];rw[ct (show dj.P (m.1,(m.2.1,m.2.2))=true from dt (show m.2.2.length<1099511627776 by omega))];simp only[Z4,Z5,Z6,Z7,Z8,Z9,Z10];have:=loop (J:=Unit×(Int×Int×List Int)×Unit) (N:=N) hd (λout3_2 t2_0 t2_1 out3_0 out3_1=>Z12 N out3_2 t2_0 t2_1 out3_0 out3_1 (λt2_2 t2_0 t2_1=>some ((),((t2_0,(t2_1,t2_2)),())))) 0 0 m.1 (ab (2*m.1)) N 0 (by omega) (by omega);rw[ew,List.append_nil]at this;refine this.trans ?_;simp only[Z12,g,ck];rw[aI (by omega) (by omega)]⟩
end cH
namespace dk
def P(m:Int×Int×List Int):Bool:=aG m
def g(m:Int×Int×List Int):List (List Int):=ca m
def Z1{J:Type}(N:Nat)(a:MT)(kn:I2 (LI->Option J)):Option J :=
 kn a.1 a.2.1 a.2.2
def Z3{J:Type}(N:Nat)(a b:Int)(c:LI)(kn:LL->I2 (LI->Option J)):Option J :=
 kn ([]:List (LI)) a b c
def Z6{J:Type}(N:Nat)(b:LL)(a c:Int)(d:LI)(kn:LL->I3 (LI->Option J)):Option J :=
 kn b a a c d
def Z9{J:Type}(N:Nat)(d:LL)(b a e:Int)(c:LI)(kn:LL->I3 (LI->Option J))(k0:LL->Option J):Option J :=
 cond (lk N (decide (b<e)))
 (
  cond (lk N (bu 0 (ab (b*a))&&(bu (ab (b*a)) (ab ((ab (b*a))+a))&&bu (ab ((ab (b*a))+a)) c.length))) (
   cond (lk N (dv.P ((c.drop (ab (b*a)).toNat).take ((ab ((ab (b*a))+a))-(ab (b*a))).toNat))) (
    cond (lk N (Nat.blt (d.length+([(dv.g ((c.drop (ab (b*a)).toNat).take ((ab ((ab (b*a))+a))-(ab (b*a))).toNat))]:List (LI)).length) 1099511627776)) (
     kn (d++([(dv.g ((c.drop (ab (b*a)).toNat).take ((ab ((ab (b*a))+a))-(ab (b*a))).toNat))]:List (LI))) (ab (b+1)) a e c) none) none) none)
 (
  k0 d)
def Z8L{J:Type}(N:Nat)(k0:LL->Option J):Nat->LL->Int->Int->Int->LI->Option J
 |0,_,_,_,_,_=>none
 |M+1,a,b,c,d,e=>Z9 N a b c d e (λa b c d e=>Z8L N k0 M a b c d e) k0
def Z8 N a b c d e k0:=(Z8L N k0 N a b c d e:Option J)
def Z7 N a b c d e kn:=(Z8 N a b c d e kn:Option J)
def Z5 N a b c d kn:=(Z6 N a b c d (λa e b c d=>Z7 N a e b c d kn):Option J)
def Z10{J:Type}(N:Nat)(a:LL)(kr:LL->Option J):Option J :=
 kr a
def Z4 N a b c d kr:=(Z5 N a b c d (λa=>Z10 N a kr):Option J)
def Z2 N a b c kr:=(Z3 N a b c (λd a b c=>Z4 N d a b c kr):Option J)
def Z0 N a kr:=(Z1 N a (λb c d=>Z2 N b c d kr):Option J)
def Spec:Prop:=∀ (v0:MT),Ty.bd (.pair (.int .i64) (.pair (.int .i64) (.sl 0 (.int .i64)))) v0->P v0=true->∃N0,∀N,N0<=N->Z0 N v0 (λv2=>some ((),(v2,())))=some ((),((g v0),()))
def loop{J:Type}{N:Nat}{m:Int×Int×List Int}(hd:aG m=true)(k0:List (List Int)->Option J):∀(M t:Nat),t<=m.2.1.toNat-m.1.toNat->m.2.1.toNat-m.1.toNat-t<M ->
  Z8L N k0 M ((ca m).take t) ((m.1.toNat+t:Nat):Int) m.1 m.2.1 m.2.2=k0 (ca m):=by
 obtain⟨n,r,hn,hr,hn1,hn5,hnr,hr8,hl⟩:=a7 hd;have hcl:(ca m).length=m.2.1.toNat-m.1.toNat:=by simp[ca]
 intro M;induction M with
 |zero=>intro t _ h;omega
 |succ M ih =>
  intro t ht hM;simp only[Z8L,Z9];by_cases h:t<m.2.1.toNat-m.1.toNat
  ·have ha:(ca m).take t++[cw m (m.1.toNat+t)]=(ca m).take (t+1):=uQ (λt=>cw m (m.1.toNat+t)) h;have e:((m.1.toNat+t:Nat):Int)*m.1=(((m.1.toNat+t)*m.1.toNat:Nat):Int):=by rw[Int.natCast_mul,hn];simp
   have hb1:(m.1.toNat+t)*m.1.toNat<=8*5:=Nat.mul_le_mul (by omega) (by omega);have hb2:(m.1.toNat+t)*m.1.toNat+m.1.toNat<=m.2.2.length:=by have:=Nat.mul_le_mul_right n (show m.1.toNat+t+1<=r by omega);rw[Nat.add_mul,Nat.one_mul]at this;rw[hl,show m.1.toNat=n by omega];rw[show m.1.toNat=n by omega]at this;exact this
   have e1:ab ((((m.1.toNat+t)*m.1.toNat:Nat):Int))=(((m.1.toNat+t)*m.1.toNat:Nat):Int):=aI (by omega) (by omega);have e2:ab ((((m.1.toNat+t)*m.1.toNat:Nat):Int)+m.1)=(((m.1.toNat+t)*m.1.toNat:Nat):Int)+m.1:=aI (by omega) (by omega);have hsl:(m.2.2.drop ((((m.1.toNat+t)*m.1.toNat:Nat):Int)).toNat).take (((((m.1.toNat+t)*m.1.toNat:Nat):Int)+m.1)-(((m.1.toNat+t)*m.1.toNat:Nat):Int)).toNat=cw m (m.1.toNat+t):=by rw[Int.toNat_natCast,show((((m.1.toNat+t)*m.1.toNat:Nat):Int)+m.1-(((m.1.toNat+t)*m.1.toNat:Nat):Int)).toNat=m.1.toNat by omega];exact HQ hd (by omega)
   rw[ct (dt (by omega))];simp only[e,e1,e2,hsl];have hrl:(cw m (m.1.toNat+t)).length=m.1.toNat:=by simp[cw]
   rw[ct (by rw[gC (by omega),gC (by omega),gC (by omega)];rfl),ct (show dv.P (cw m (m.1.toNat+t))=true from dt (by omega)),ct (by rw[Nat.blt_eq,List.length_take,hcl,List.length_singleton];omega),
    show dv.g (cw m (m.1.toNat+t))=cw m (m.1.toNat+t)from rfl,ha,bm (by rw[bw];omega)]
   exact ih (t+1) h (by omega)
  ·rw[cf (df (by omega)),List.take_of_length_le (by rw[hcl];omega)]
def ok:Spec:=λm hb hp=>⟨10,λN hN=>by have hd:aG m=true:=hp;obtain⟨n,r,hn,hr,hn1,hn5,hnr,hr8,hl⟩:=a7 hd;simp only[Z0,Z1,Z2,Z3,Z4,Z5,Z6,Z7,Z8];have:=loop (J:=Unit×List (List Int)×Unit) (N:=N) hd (λout3=>Z10 N out3 (λt2=>some ((),(t2,())))) N 0 (by omega) (by omega);rw[List.take_zero,Nat.add_zero,show((m.1.toNat:Nat):Int)=m.1 by omega]at this;exact this⟩
end dk
namespace cM
def P(c:List (List Int))(k:Int):Bool:=c.all λr=>au k r.length
def g(c:List (List Int))(k:Int):Int:=eN (c.map λr=>r.getD k.toNat 0)
def Z1{J:Type}(N:Nat)(a:LL)(b:Int)(kn:LL->Int->Option J):Option J :=
 kn a b
def Z3{J:Type}(N:Nat)(a:LL)(b:Int)(kn:LL->Int->Bool->Option J):Option J :=
 kn a b false
def Z5{J:Type}(N:Nat)(a:LL)(b:Int)(c:Bool)(kn:LL->Int->Bool->Bool->Option J):Option J :=
 kn a b c false
def Z8{J:Type}(N:Nat)(a:LL)(b:Int)(c d:Bool)(kn:LL->Int->Bool->Bool->Int->Option J):Option J :=
 kn a b c d 0
def Z11{J:Type}(N:Nat)(a:LL)(c:Int)(e d:Bool)(b:Int)(kn:LL->Int->Bool->Bool->Int->Option J)(k0:Bool->Bool->Option J):Option J :=
 cond (lk N (decide (b<(a.length:Int))))
 (
  cond (e)
  (
   cond (d)
   (
    kn a c true true (ab (b+1)))
   (
    cond (lk N (au b a.length)) (
     cond (lk N (au c (a.getD b.toNat []).length)) (
      kn a c true (lk N (decide (((a.getD b.toNat []).getD c.toNat 0)<0))) (ab (b+1))) none) none))
  (
   cond (lk N (au b a.length)) (
    cond (lk N (au c (a.getD b.toNat []).length)) (
     cond (d)
     (
      kn a c (lk N (decide (0<((a.getD b.toNat []).getD c.toNat 0)))) true (ab (b+1)))
     (
      cond (lk N (au b a.length)) (
       cond (lk N (au c (a.getD b.toNat []).length)) (
        kn a c (lk N (decide (0<((a.getD b.toNat []).getD c.toNat 0)))) (lk N (decide (((a.getD b.toNat []).getD c.toNat 0)<0))) (ab (b+1))) none) none)) none) none))
 (
  k0 e d)
def Z10L{J:Type}(N:Nat)(k0:Bool->Bool->Option J):Nat->LL->Int->Bool->Bool->Int->Option J
 |0,_,_,_,_,_=>none
 |M+1,a,b,c,d,e=>Z11 N a b c d e (λa b c d e=>Z10L N k0 M a b c d e) k0
def Z10 N a b c d e k0:=(Z10L N k0 N a b c d e:Option J)
def Z9 N a b c d e kn:=(Z10 N a b c d e kn:Option J)
def Z7 N a b c d kn:=(Z8 N a b c d (λa b c d e=>Z9 N a b c d e kn):Option J)
def Z12{J:Type}(N:Nat)(a b:Bool)(kr:Int->Option J):Option J :=
 cond (a)
 (
  cond (!(b))
  (
   kr 1)
  (
   cond (b)
   (
    cond (!(a))
    (
     kr (-1))
    (
     kr 0))
   (
    kr 0)))
 (
  cond (b)
  (
   cond (!(a))
   (
    kr (-1))
   (
    kr 0))
  (
   kr 0))
def Z6 N c d a b kr:=(Z7 N c d a b (λa b=>Z12 N a b kr):Option J)
def Z4 N a b c kr:=(Z5 N a b c (λa b c d=>Z6 N a b c d kr):Option J)
def Z2 N a b kr:=(Z3 N a b (λa b c=>Z4 N a b c kr):Option J)
def Z0 N a b kr:=(Z1 N a b (λa b=>Z2 N a b kr):Option J)
def Spec:Prop:=∀ (v0:LL) (v1:Int),Ty.bd (.sl 0 (.sl 0 (.int .i64))) v0->P v0 v1=true->∃N0,∀N,N0<=N->Z0 N v0 v1 (λv4=>some ((),(v4,())))=some ((),((g v0 v1),()))
def loop{J:Type}(N:Nat)(k0:Bool->Bool->Option J)(c:List (List Int))(hc:c.length<=maxLen)(k:Int)(hp:P c k=true):∀(M j:Nat) (u d:Bool),j<=c.length->c.length-j<M ->
  Z10L N k0 M c k u d (j:Int)=k0 (u||((c.drop j).any λr=>decide (0<r.getD k.toNat 0))) (d||((c.drop j).any λr=>decide (r.getD k.toNat 0<0))):=by
 intro M;induction M with
 |zero=>intro j _ _ _ h;omega
 |succ M ih =>
  intro j u d hj hM;simp only[Z10L,Z11];by_cases h:j<c.length;·have hi:au k (c.getD j []).length=true:=(List.all_eq_true.1 hp) _ (b9 [] h);rw[ct (dt (by omega)),f5 [] h,List.any_cons,List.any_cons];simp only[Int.toNat_natCast,ax,hi,aU h,cond_true];rw[bm (by omega)];simp only[ih (j+1) _ _ h (show c.length-(j+1)<M by omega)];cases u<;>cases d<;>simp
  ·rw[cf (df (by omega)),List.drop_of_length_le (by omega)];simp
def ok:Spec:=λc k hb hp=>⟨c.length+1,λN hN=>by simp only[Z0,Z1,Z2,Z3,Z4,Z5,Z6,Z7,Z8,Z9,Z10];have:=loop (J:=Unit×Int×Unit) N (λup5 down6=>Z12 N up5 down6 (λt4=>some ((),(t4,())))) c hb.1 k hp N 0 false false (by omega) (by omega);rw[show((0:Nat):Int)=0 from rfl,List.drop_zero]at this;refine this.trans ?_;simp only[Bool.false_or,Z12,g,eN,List.any_map];have e1:(c.any ((λx=>decide (0<x)) ∘ λr=>r.getD k.toNat 0))=c.any λr=>decide (0<r.getD k.toNat 0):=rfl;have e2:(c.any ((λx=>decide (x<0)) ∘ λr=>r.getD k.toNat 0))=c.any λr=>decide (r.getD k.toNat 0<0):=rfl;rw[e1,e2];cases(c.any λr=>decide (0<r.getD k.toNat 0))<;>cases(c.any λr=>decide (r.getD k.toNat 0<0))<;>rfl⟩
end cM
namespace cq
def P(p:Int×Int×List Int)(front:List Int)(l:List (List Int)):Bool:=aP p&&(decide (front.length<=12)&&decide (l.length<=200))
def g(p:Int×Int×List Int)(front:List Int)(l:List (List Int)):List (List Int)×Bool:=match dS (cD (12-front.length)) p front (List.range p.1.toNat) l true with
 |some r=>(gI front r.1 r.2,decide ((gI front r.1 r.2).length<=200))
 |none=>([],false)
def g_grn{p:Int×Int×List Int}{front:List Int}{l:List (List Int)}{d:Nat}(hd:12-front.length=d):(∀l',cD (d+1) p front l=some l'->g p front l=(l',true))/\(cD (d+1) p front l=none->(g p front l).2=false):=by
 subst hd;unfold g;rw[cD];cases hq:dS (cD (12-front.length)) p front (List.range p.1.toNat) l true with
 |none=>exact⟨(λl' h=>by cases h),λ_=>rfl⟩
 |some r =>
  obtain⟨l2,done⟩:=r;simp only;by_cases h:(gI front l2 done).length<=200;·rw[if_pos h,dt h];exact⟨λl' h=>(by injection h with h;rw[h]),λh=>by cases h⟩
  ·rw[if_neg h,df h];exact⟨(λl' h=>by cases h),λ_=>rfl⟩
def mu(_:Int×Int×List Int)(front:List Int)(_:List (List Int)):Nat:=12-front.length
def Z1{J:Type}(N m:Nat)(a:MT)(b:LI)(c:LL)(kn:LI->LL->I2 (LI->Option J)):Option J :=
 kn b c a.1 a.2.1 a.2.2
def Z3{J:Type}(N m:Nat)(d:LI)(e:LL)(a b:Int)(c:LI)(kn:LI->LL->LL->I2 (LI->Option J)):Option J :=
 cond (lk N (dk.P (a,(b,c)))) (
  kn d e (dk.g (a,(b,c))) a b c) none
def Z5{J:Type}(N m:Nat)(a:LI)(b c:LL)(d e:Int)(f:LI)(kn:LI->LL->LL->Bool->I2 (LI->Option J)):Option J :=
 kn a b c true d e f
def Z8{J:Type}(N m:Nat)(a:LI)(b c:LL)(d:Bool)(e f:Int)(g:LI)(kn:LI->LL->LL->Bool->I3 (LI->Option J)):Option J :=
 kn a b c d 0 e f g
def Z11{J:Type}(N m:Nat)(b:LI)(c e:LL)(i:Bool)(a d f:Int)(h:LI)(kn:LI->LL->LL->Bool->I3 (LI->Option J))(k0:LI->LL->Bool->Option J)(kr:LL->Bool->Option J):Option J :=
 let x1_:=(bq.g (d,(f,h)) a);let x2_:=((dv.g b)++([a]:List Int));let x3_:=(lk N (dv.P b));let x0_:=(
   cond (lk N (Nat.blt ((dv.g b).length+([a]:List Int).length) 1099511627776)) (
   cond (lk N (Nat.blt (mu x1_ x2_ c) m&&P x1_ x2_ c)) (
   cond (!(lk N ((g x1_ x2_ c).2)))
   (
   kr ([]:List (LI)) false)
   (
   kn b (g x1_ x2_ c).1 e false (ab (a+1)) d f h)) none) none)
 cond (lk N (decide (a<d)))
 (
 cond (lk N (cM.P e a)) (
 cond (lk N (!(decide ((cM.g e a)=1))))
 (
 kn b c e i (ab (a+1)) d f h)
 (
 cond (lk N (bq.P (d,(f,h)) a)) (
 cond (lk N (decide ((b.length:Int)=12)))
 (
 kr ([]:List (LI)) false)
 (
 cond (!(lk N ((bO.g x1_))))
 (
 kr ([]:List (LI)) false)
 (
 bC (
 bo (
 cond x3_ x0_ none))
 (
 bC (
 cond x3_ (
 bC x0_
 (
 bo x0_)) none)
 (
 bC (
 cond x3_ x0_ none)
 (
 cond x3_ (
 bo x0_) none)))))) none)) none)
 (
 k0 b c i)
def Z10L{J:Type}(N m:Nat)(k0:LI->LL->Bool->Option J)(kr:LL->Bool->Option J):Nat->LI->LL->LL->Bool->Int->Int->Int->LI->Option J
 |0,_,_,_,_,_,_,_,_=>none
 |M+1,a,b,c,d,e,f,g,h=>Z11 N m a b c d e f g h (λa b c d e f g h=>Z10L N m k0 kr M a b c d e f g h) k0 kr
def Z10 N m a b c d e f g h k0 kr:=(Z10L N m k0 kr N a b c d e f g h:Option J)
def Z9 N m a b c d e f g h kn kr:=(Z10 N m a b c d e f g h kn kr:Option J)
def Z7 N m a b c d e f g kn kr:=(Z8 N m a b c d e f g (λa b c d h e f g=>Z9 N m a b c d h e f g kn kr):Option J)
def Z12{J:Type}(N m:Nat)(b:LI)(a:LL)(c:Bool)(kr:LL->Bool->Option J):Option J :=
 cond (c)
 (
  cond (lk N (Nat.blt (a.length+([b]:List (LI)).length) 1099511627776)) (
   kr (a++([b]:List (LI))) (lk N (decide (((a++([b]:List (LI))).length:Int)<=200)))) none)
 (
  kr a (lk N (decide ((a.length:Int)<=200))))
def Z6 N m a b d c e f g kr:=(Z7 N m a b d c e f g (λa b c=>Z12 N m a b c kr) kr:Option J)
def Z4 N m a b c d e f kr:=(Z5 N m a b c d e f (λa b c g d e f=>Z6 N m a b c g d e f kr):Option J)
def Z2 N m a b c d e kr:=(Z3 N m a b c d e (λa b f c d e=>Z4 N m a b f c d e kr):Option J)
def Z0 N m c a b kr:=(Z1 N m c a b (λa b d e f=>Z2 N m a b d e f kr):Option J)
def Spec:Prop:=∀(m:Nat) (v0:MT) (v1:LI) (v2:LL),Ty.bd (.pair (.int .i64) (.pair (.int .i64) (.sl 0 (.int .i64)))) v0->Ty.bd (.sl 0 (.int .i64)) v1->Ty.bd (.sl 0 (.sl 0 (.int .i64))) v2->(Nat.blt (mu v0 v1 v2) (m+1)&&P v0 v1 v2)=true->∃N0,∀N,N0<=N->Z0 N m v0 v1 v2 (λv6 v7=>some ((),(v6,(v7,()))))=some ((),((g v0 v1 v2).1,((g v0 v1 v2).2,())))
def loop{J:Type}{N m d:Nat}{p:Int×Int×List Int}(hs:aP p=true){front:List Int}(hf:front.length+d=12)(hm:12-front.length<=m)(k0:List Int->List (List Int)->Bool->Option J)(kr:List (List Int)->Bool->Option J):∀(M j:Nat) (l:List (List Int)) (done:Bool),l.length<=200->j<=p.1.toNat->p.1.toNat-j<M ->
  Z10L N m k0 kr M front l (ca p) done (j:Int) p.1 p.2.1 p.2.2=match dS (cD d) p front ((List.range p.1.toNat).drop j) l done with|some r=>k0 front r.1 r.2|none=>kr [] false:=by
 have hd:=cj (cK hs);obtain⟨n,r,hn,hr,hn1,hn5,hnr,hr8,hl⟩:=a7 hd;intro M;induction M with
 |zero=>intro j _ _ _ _ h;omega
 |succ M ih =>
  intro j l done hl hj hM;simp only[Z10L,Z11];by_cases h:j<p.1.toNat
  ·have hP:cM.P (ca p) (j:Int)=true:=by unfold cM.P;rw[List.all_eq_true];intro x hx;simp only[ca,List.mem_map]at hx;obtain⟨t,_,rfl⟩:=hx;exact aU (by simp[cw];omega)
   have hg:cM.g (ca p) (j:Int)=eN (du p j):=by unfold cM.g;rw[Int.toNat_natCast,HS h]
   have hMP:bq.P (p.1,(p.2.1,p.2.2)) (j:Int)=true:=by simp only[bq.P,Bool.and_eq_true,decide_eq_true_eq];exact⟨cK hs,by omega,by omega⟩
   have hMg:bq.g (p.1,(p.2.1,p.2.2)) (j:Int)=aO p j:=rfl;rw[ct (dt (by omega)),ct hP,hg,iv h,dS];by_cases h1:eN (du p j)=1
   ·rw[cf (nf h1),ct hMP,hMg,if_pos h1];by_cases h2:front.length=12;·rw[ct (dt (by omega)),if_pos h2]
    ·rw[cf (df (by omega)),if_neg h2];have hsz:bO.g (aO p j)=aP (aO p j):=rfl;rw[hsz];cases h3:aP (aO p j);·rw[ax,eV (show(!false)=true from rfl),if_neg (by simp)]
     ·rw[ax,dR (show(!true)=false from rfl),if_pos rfl];have hI:dv.P front=true:=dt (by omega);have hIg:dv.g front=front:=rfl;obtain⟨e,he⟩:∃e,d=e+1:=⟨d-1,by omega⟩;obtain⟨q1,q2⟩:=g_grn (p:=aO p j) (front:=front++[(j:Int)]) (l:=l) (d:=e) (by simp;omega);rw[<-he]at q1 q2;have hrec:(Nat.blt (mu (aO p j) (front++[(j:Int)]) l) m&&P (aO p j) (front++[(j:Int)]) l)=true:=by simp only[Bool.and_eq_true,mu,P,Nat.blt_eq,decide_eq_true_eq,List.length_append,List.length_singleton];exact⟨by omega,h3,by omega,hl⟩
      have hb1:Nat.blt (front.length+([(j:Int)]:List Int).length) 1099511627776=true:=by rw[Nat.blt_eq];simp;omega
      simp only[hI,hIg,hb1,hrec,ax,cond_true,eE];cases hq:cD d (aO p j) (front++[(j:Int)]) l with
      |none =>rw[q2 hq];rfl
      |some l2 =>rw[q1 l2 hq];simp only[Bool.not_true,cond_false];rw[bm (by rw[bw];omega)];exact ih (j+1) l2 false (qq hq) h (by omega)
   ·rw[ct (nt h1),if_neg h1,bm (by rw[bw];omega)];exact ih (j+1) l done hl h (by omega)
  ·rw[cf (df (by omega)),List.drop_of_length_le (by simp;omega),dS]
def ok:Spec:=λm p front l hb1 hb2 hb3 hp=>⟨10,λN hN=>by
 simp only[Bool.and_eq_true,P,mu,Nat.blt_eq,decide_eq_true_eq]at hp;obtain⟨hm,hs,hf,hl⟩:=hp;have hd:=cj (cK hs);obtain⟨n,r,hn,hr,hn1,hn5,hnr,hr8,hll⟩:=a7 hd;have hLP:dk.P (p.1,(p.2.1,p.2.2))=true:=hd;have hLg:dk.g (p.1,(p.2.1,p.2.2))=ca p:=rfl;obtain⟨d,hd13⟩:∃d,front.length+d=12:=⟨12-front.length,by omega⟩;have hgd:12-front.length=d:=by omega
 simp only[Z0,Z1,Z2,Z3];rw[ct hLP,hLg];simp only[Z4,Z5,Z6,Z7,Z8,Z9,Z10];have:=λk0 kr=>loop (J:=Unit×List (List Int)×Bool×Unit) (N:=N) (m:=m) hs hd13 (by omega) k0 kr N 0 l true hl (by omega) (by omega);simp only[show((0:Nat):Int)=0 from rfl,List.drop_zero]at this;rw[this,g,hgd];cases hq:dS (cD d) p front (List.range p.1.toNat) l true with
 |none=>rfl
 |some r =>
  obtain⟨l',done⟩:=r;simp only[Z12];have hlen:l'.length<=200:=uU (λ_ _ _ _ h=>qq h) p front _ l true _ hl hq;cases done;·have e1:gI front l' false=l':=rfl;rw[dR rfl,e1,dt hlen];simp only[ax];rw[dt (by omega)]
  ·have e1:gI front l' true=l'++[front]:=rfl;rw[eV rfl,e1,ct (by rw[Nat.blt_eq];simp;omega)];simp only[ax];by_cases h5:(l'++[front]).length<=200;·rw[dt h5,dt (by omega)]
   ·rw[df h5,df (by omega)]⟩
end cq
namespace fT
def g(m:Int×Int×List Int):List (List Int)×Bool :=
 if((aP m&&!decide (bc m=[]))&&(decide (m.2.1=m.1)&&decide (2*m.1<=8)))=true then(match cD 13 (ck m) [] []with|some l=>(l,true)|none=>([],false))else([],false)
def Z0{J:Type}(N:Nat)(a:MT)(kr:LL->Bool->Option J):Option J :=
 cond (!(lk N ((iK.g a))))
 (
  kr ([]:List (LI)) false)
 (
  cond (lk N (cH.P a)) (
   cond (lk N (cq.P (cH.g a) ([]:List Int) ([]:List (LI)))) (
    cond (!(lk N ((cq.g (cH.g a) ([]:List Int) ([]:List (LI))).2)))
    (
     kr ([]:List (LI)) false)
    (
     kr (cq.g (cH.g a) ([]:List Int) ([]:List (LI))).1 true)) none) none)
def Spec:Prop:=∀ (v0:MT),Ty.bd (.pair (.int .i64) (.pair (.int .i64) (.sl 0 (.int .i64)))) v0->∃N0,∀N,N0<=N->Z0 N v0 (λv2 v3=>some ((),(v2,(v3,()))))=some ((),((g v0).1,((g v0).2,())))
def ok:Spec:=λm hb=>⟨0,λN hN=>by
 simp only[Z0];rw[show iK.g m=((aP m&&!decide (bc m=[]))&&(decide (m.2.1=m.1)&&decide (2*m.1<=8)))from rfl,g];cases h:((aP m&&!decide (bc m=[]))&&(decide (m.2.1=m.1)&&decide (2*m.1<=8)));·rw[ax];rfl
 ·rw[ax,dR (show(!true)=false from rfl),if_pos rfl];simp only[Bool.and_eq_true,decide_eq_true_eq]at h;have hok:=uT (m:=m) (by simpa using h.1) h.2.1 h.2.2;have hd:=cj (cK h.1.1);have hP:cq.P (cH.g m) ([]:List Int) ([]:List (List Int))=true:=by simp only[cq.P,Bool.and_eq_true,decide_eq_true_eq];exact⟨hok.1,by simp,by simp⟩
  rw[ct (show cH.P m=true from hd),ct hP,show cH.g m=ck m from rfl];obtain⟨q1,q2⟩:=cq.g_grn (p:=ck m) (front:=[]) (l:=[]) (d:=12) rfl;cases hq:cD 13 (ck m) [] []with
  |none =>rw[q2 hq,ax];rfl
  |some l =>rw[q1 l hq,ax];rfl⟩
end fT
namespace ee
def g(a b:List Int):Bool:=f6 a b
def Z1{J:Type}(N:Nat)(a b:LI)(kn:LI->LI->Option J):Option J :=
 kn a b
def Z4{J:Type}(N:Nat)(a b:LI)(kn:LI->LI->Int->Option J):Option J :=
 kn a b 0
def Z7{J:Type}(N:Nat)(b c:LI)(a:Int)(kn:LI->LI->Int->Option J)(k0:LI->LI->Option J)(kr:Bool->Option J):Option J :=
 cond (lk N (decide (a<(b.length:Int))))
 (
  cond (lk N (decide (a<(c.length:Int))))
  (
   cond (lk N (au a b.length)) (
    cond (lk N (au a c.length)) (
     cond (lk N (!(decide ((b.getD a.toNat 0)=(c.getD a.toNat 0)))))
     (
      cond (lk N (au a b.length)) (
       cond (lk N (au a c.length)) (
        kr (lk N (decide ((b.getD a.toNat 0)<(c.getD a.toNat 0))))) none) none)
     (
      kn b c (ab (a+1)))) none) none)
  (
   k0 b c))
 (
  k0 b c)
def Z6L{J:Type}(N:Nat)(k0:LI->LI->Option J)(kr:Bool->Option J):Nat->LI->LI->Int->Option J
 |0,_,_,_=>none
 |M+1,a,b,c=>Z7 N a b c (λa b c=>Z6L N k0 kr M a b c) k0 kr
def Z6 N a b c k0 kr:=(Z6L N k0 kr N a b c:Option J)
def Z5 N a b c kn kr:=(Z6 N a b c kn kr:Option J)
def Z3 N a b kn kr:=(Z4 N a b (λa b c=>Z5 N a b c kn kr):Option J)
def Z8{J:Type}(N:Nat)(a b:LI)(kr:Bool->Option J):Option J :=
 kr (lk N (decide ((a.length:Int)<(b.length:Int))))
def Z2 N a b kr:=(Z3 N a b (λa b=>Z8 N a b kr) kr:Option J)
def Z0 N a b kr:=(Z1 N a b (λa b=>Z2 N a b kr):Option J)
def Spec:Prop:=∀ (v0 v1:LI),Ty.bd (.sl 0 (.int .i64)) v0->Ty.bd (.sl 0 (.int .i64)) v1->∃N0,∀N,N0<=N->Z0 N v0 v1 (λv4=>some ((),(v4,())))=some ((),((g v0 v1),()))
def loop{J:Type}(N:Nat)(k0:List Int->List Int->Option J)(kr:Bool->Option J)(a b:List Int)(ha:a.length<=maxLen)(h0:k0 a b=kr (decide (a.length<b.length))):∀(M j:Nat),j<=a.length->j<=b.length->a.length-j<M ->
  Z6L N k0 kr M a b (j:Int)=kr (f6 (a.drop j) (b.drop j)):=by
 intro M;induction M with
 |zero=>intro j _ _ h;omega
 |succ M ih =>
  intro j hj hb hM;simp only[Z6L,Z7];by_cases h:j<a.length
  ·rw[ct (dt (by omega)),f5 0 h];by_cases h2:j<b.length
   ·rw[ct (dt (by omega)),ct (aU h),ct (aU h2),Int.toNat_natCast,bm (by omega),f5 (l:=b) 0 h2,f6,ih (j+1) h h2 (by omega)];by_cases e:a.getD j 0=b.getD j 0;·rw[cf (nf e),if_pos e]
    ·rw[ct (nt e),if_neg e,ct (aU h),ct (aU h2),ax]
   ·rw[cf (df (by omega)),List.drop_of_length_le (l:=b) (by omega),h0,df (by omega)];rfl
  ·rw[cf (df (by omega)),List.drop_of_length_le (by omega),h0];by_cases h2:j<b.length;·rw[dt (by omega),f5 (l:=b) 0 h2];rfl
   ·rw[df (by omega),List.drop_of_length_le (l:=b) (by omega)];rfl
def ok:Spec:=λa b ha hb=>⟨a.length+1,λN hN=>by simp only[Z1,Z4,Z7,Z6,Z5,Z3,Z8,Z2,Z0];refine(loop N _ (λt=>some ((),(t,()))) a b ha.1 ?_ N 0 (by omega) (by omega) (by omega)).trans rfl;rw[ax,show decide ((a.length:Int)<(b.length:Int))=decide (a.length<b.length)from decide_eq_decide.2 (by omega)]⟩
end ee
namespace bj
def g(m:Int×Int×List Int)(ks:List Int):List (Int×Int×List Int)×Bool :=
 if((a8.g m).2&&decide ((ks.length:Int)<=40))=true then cC a9.g (a8.g m).1 ks else([],false)
def Z1{J:Type}(N:Nat)(a:MT)(b:LI)(kn:LI->I2 (LI->Option J)):Option J :=
 kn b a.1 a.2.1 a.2.2
def Z3{J:Type}(N:Nat)(d:LI)(a b:Int)(c:LI)(kn:LI->LI->Bool->I2 (Option J)):Option J :=
 kn (a8.g (a,(b,c))).1.2.2 d (lk N ((a8.g (a,(b,c))).2)) (a8.g (a,(b,c))).1.1 (a8.g (a,(b,c))).1.2.1
def Z5{J:Type}(N:Nat)(b a:LI)(c:Bool)(d e:Int)(kn:LI->LI->I2 (Option J))(kr:LM->Bool->Option J):Option J :=
 cond (!(c))
 (
  kr ([]:List (MT)) false)
 (
  cond (lk N (decide (40<(a.length:Int))))
  (
   kr ([]:List (MT)) false)
  (
   kn b a d e))
def Z7{J:Type}(N:Nat)(a d:LI)(b c:Int)(kn:LM->LI->I2 (LI->Option J)):Option J :=
 kn ([(b,(c,a))]:List (MT)) d b c a
def Z10{J:Type}(N:Nat)(b:LM)(a:LI)(c d:Int)(e:LI)(kn:LM->LI->I4 (LI->Option J)):Option J :=
 kn b a (a.length:Int) 0 c d e
def Z13{J:Type}(N:Nat)(f:LM)(b:LI)(h a c d:Int)(e:LI)(kn:LM->LI->I4 (LI->Option J))(k0:LM->Option J)(kr:LM->Bool->Option J):Option J :=
 cond (lk N (decide (a<h)))
 (
  cond (lk N (au a b.length)) (
   cond (!(lk N ((a9.g (c,(d,e)) (b.getD a.toNat 0)).2)))
   (
    kr ([]:List (MT)) false)
   (
    cond (lk N (Nat.blt (f.length+([(a9.g (c,(d,e)) (b.getD a.toNat 0)).1]:List (MT)).length) 1099511627776)) (
     kn (f++([(a9.g (c,(d,e)) (b.getD a.toNat 0)).1]:List (MT))) b h (ab (a+1)) (a9.g (c,(d,e)) (b.getD a.toNat 0)).1.1 (a9.g (c,(d,e)) (b.getD a.toNat 0)).1.2.1 (a9.g (c,(d,e)) (b.getD a.toNat 0)).1.2.2) none)) none)
 (
  k0 f)
def Z12L{J:Type}(N:Nat)(k0:LM->Option J)(kr:LM->Bool->Option J):Nat->LM->LI->Int->Int->Int->Int->LI->Option J
 |0,_,_,_,_,_,_,_=>none
 |M+1,a,b,c,d,e,f,g=>Z13 N a b c d e f g (λa b c d e f g=>Z12L N k0 kr M a b c d e f g) k0 kr
def Z12 N a b c d e f g k0 kr:=(Z12L N k0 kr N a b c d e f g:Option J)
def Z11 N a b c d e f g kn kr:=(Z12 N a b c d e f g kn kr:Option J)
def Z9 N a e b c d kn kr:=(Z10 N a e b c d (λa f g h b c d=>Z11 N a f g h b c d kn kr):Option J)
def Z14{J:Type}(N:Nat)(a:LM)(kr:LM->Bool->Option J):Option J :=
 kr a true
def Z8 N a b c d e kr:=(Z9 N a b c d e (λa=>Z14 N a kr) kr:Option J)
def Z6 N a b c d kr:=(Z7 N a b c d (λe b c d a=>Z8 N e b c d a kr):Option J)
def Z4 N a b e c d kr:=(Z5 N a b e c d (λa b c d=>Z6 N a b c d kr) kr:Option J)
def Z2 N a b c d kr:=(Z3 N a b c d (λe a f g h=>Z4 N e a f g h kr):Option J)
def Z0 N b a kr:=(Z1 N b a (λa c d e=>Z2 N a c d e kr):Option J)
def Spec:Prop:=∀ (v0:MT) (v1:LI),Ty.bd (.pair (.int .i64) (.pair (.int .i64) (.sl 0 (.int .i64)))) v0->Ty.bd (.sl 0 (.int .i64)) v1->∃N0,∀N,N0<=N->Z0 N v0 v1 (λv4 v5=>some ((),(v4,(v5,()))))=some ((),((g v0 v1).1,((g v0 v1).2,())))
def loop{J:Type}(N:Nat)(kr:List (Int×Int×List Int)->Bool->Option J)(ks:List Int)(hk:ks.length<=40):∀(M j:Nat) (pre:List (Int×Int×List Int)) (p:Int×Int×List Int),pre.length=j->j<=ks.length->ks.length-j<M ->
  Z12L N (λa=>Z14 N a kr) kr M (pre++[p]) ks (ks.length:Int) (j:Int) p.1 p.2.1 p.2.2=if(cC a9.g p (ks.drop j)).2=true then kr (pre++(cC a9.g p (ks.drop j)).1) true else kr [] false:=by
 intro M;induction M with
 |zero=>intro j _ _ _ _ h;omega
 |succ M ih =>
  intro j pre p hp hj hM;simp only[Z12L,Z13];by_cases h:j<ks.length
  ·have hv:a9.g (p.1,(p.2.1,p.2.2)) (ks.getD j 0)=a9.g p (ks.getD j 0):=rfl;rw[ct (dt (by omega)),ct (aU h)];simp only[Int.toNat_natCast,hv];rw[f5 0 h,cC,bm (by rw[bw];omega)];cases hb:(a9.g p (ks.getD j 0)).2;·rw[eV (by rw[ax];rfl),if_neg (by simp)]
   ·rw[dR (by rw[ax];rfl),if_pos rfl,ct (by rw[Nat.blt_eq];simp;omega)];rw[ih (j+1) (pre++[p]) _ (by simp;omega) h (by omega)];cases hc:(cC a9.g (a9.g p (ks.getD j 0)).1 (ks.drop (j+1))).2;·simp
    ·simp
  ·rw[cf (df (by omega)),List.drop_of_length_le (by omega),cC,if_pos rfl];rfl
def ok:Spec:=λm ks hb hv=>⟨ks.length+10,λN hN=>by
 have e0:a8.g (m.1,(m.2.1,m.2.2))=a8.g m:=rfl;simp only[Z0,Z1,Z2,Z3,e0,g,ax,Z4,Z5];cases h1:(a8.g m).2;·rfl
 by_cases h2:(ks.length:Int)<=40
 ·rw[df (show ¬ (40:Int)<ks.length by omega),dt h2];simp only[Bool.not_true,cond_false,Z6,Z7,Z8,Z9,Z10,Z11,Z12];have:=loop (J:=Unit×List (Int×Int×List Int)×Bool×Unit) N (λt4 t5=>some ((),(t4,(t5,())))) ks (by omega) N 0 [] (a8.g m).1 rfl (by omega) (by omega);rw[show((0:Nat):Int)=0 from rfl,List.drop_zero]at this;refine this.trans ?_;simp only[Bool.and_true,if_true,List.nil_append];generalize a9.g=f;cases hw:cC f (a8.g m).1 ks with
  |mk a b =>
   cases b
   ·have:a=[]:=by
     cases ks with
     |nil=>rw[cC]at hw;cases hw
     |cons k ks =>
      rw[cC]at hw;split at hw
      ·split at hw;·cases hw
       ·cases hw;rfl
      ·cases hw;rfl
    subst this;rfl
   ·rfl
 ·rw[dt (show(40:Int)<ks.length by omega),df h2];rfl⟩
def dim_f{m:Int×Int×List Int}{k:Int}(h:(a9.g m k).2=true):aG (a9.g m k).1=true/\(a9.g m k).1.1=m.1:=by
 unfold a9.g at h ⊢;split;·rename_i hc;simp only[Bool.and_eq_true]at hc;exact⟨kH (cj hc.1.1) _,rfl⟩
 ·rename_i hc;rw[if_neg hc]at h;cases h
def last{m:Int×Int×List Int}{ks:List Int}(h:(g m ks).2=true):(g m ks).1.length=ks.length+1/\aG ((g m ks).1.getD ks.length (0,(0,[])))=true/\((g m ks).1.getD ks.length (0,(0,[]))).1=m.1/\ks.length<=40/\aG m=true:=by
 unfold g at h ⊢;split
 ·rename_i hc;rw[if_pos hc]at h;rw[Bool.and_eq_true,decide_eq_true_eq]at hc;obtain⟨hc,hk⟩:=hc;unfold a8.g at hc h ⊢;split;·rename_i hq;rw[if_pos hq]at h;simp only[Bool.and_eq_true,decide_eq_true_eq]at hq;have hd:=cj hq.1.1;obtain⟨h1,h2,h3⟩:=HP (λm k h=>dim_f h) ks (ck m) (uR hd hq.2.1 hq.2.2) h;exact⟨h1,h2,h3,by omega,hd⟩
  ·rename_i hq;rw[if_neg hq]at hc;cases hc
 ·rename_i hc;rw[if_neg hc]at h;cases h
end bj
namespace hZ
def g(m:Int×Int×List Int)(ks:List Int)(k:Int):Int :=
 if((bj.g m ks).2&&bR k 0 (m.1-1))=true then eN (du ((bj.g m ks).1.getD ks.length (0,(0,[]))) k.toNat)else 0
def Z0{J:Type}(N:Nat)(a:MT)(b:LI)(c:Int)(kr:Int->Option J):Option J :=
 cond (!(lk N ((bj.g a b).2)))
 (
  kr 0)
 (
  cond (!(lk N ((eQ.g c 0 (ab (a.1-1))))))
  (
   kr 0)
  (
   cond (lk N (au (ab (((bj.g a b).1.length:Int)-1)) (bj.g a b).1.length)) (
    cond (lk N (cG.P ((bj.g a b).1.getD (ab (((bj.g a b).1.length:Int)-1)).toNat (0,(0,[]))) c)) (
     kr (cG.g ((bj.g a b).1.getD (ab (((bj.g a b).1.length:Int)-1)).toNat (0,(0,[]))) c)) none) none))
def Spec:Prop:=∀ (v0:MT) (v1:LI) (v2:Int),Ty.bd (.pair (.int .i64) (.pair (.int .i64) (.sl 0 (.int .i64)))) v0->Ty.bd (.sl 0 (.int .i64)) v1->∃N0,∀N,N0<=N->Z0 N v0 v1 v2 (λv6=>some ((),(v6,())))=some ((),((g v0 v1 v2),()))
def ok:Spec:=λm ks k hb hv=>⟨0,λN hN=>by
 simp only[Z0,ax,eQ.g];unfold g;cases h:(bj.g m ks).2;·rfl
 obtain⟨h1,h2,h3,h4,h5⟩:=bj.last h;obtain⟨n,r,hn,hr,hn1,hn5,hnr,hr8,hl⟩:=a7 h5;have e:ab (((bj.g m ks).1.length:Int)-1)=(ks.length:Int):=by rw[h1,aI (by omega) (by omega)];omega
 rw[aI (n:=m.1-1) (by omega) (by omega),e,Int.toNat_natCast];cases hk:bR k 0 (m.1-1);·rfl
 have hk':=cJ.1 hk;have hP:cG.P ((bj.g m ks).1.getD ks.length (0,(0,[]))) k=true:=by simp only[cG.P,Bool.and_eq_true,decide_eq_true_eq];exact⟨h2,by omega,by omega⟩
 rw[hP,aU (by omega)];rfl⟩
end hZ
namespace b7
def P(m:Int×Int×List Int):Bool:=aG m
def g(m:Int×Int×List Int):List (List Int):=ca m
def Z1{J:Type}(N:Nat)(a:MT)(kn:I2 (LI->Option J)):Option J :=
 kn a.1 a.2.1 a.2.2
def Z3{J:Type}(N:Nat)(a b:Int)(c:LI)(kn:I2 (LI->Option J)):Option J :=
 kn a b c
def Z6{J:Type}(N:Nat)(a b:Int)(c:LI)(kn:I3 (LI->Option J)):Option J :=
 kn a a b c
def Z10{J:Type}(N:Nat)(a:LL)(b d c:Int)(e:LI)(kn:LL->I3 (LI->Option J))(k0:LL->Option J):Option J :=
 cond (lk N (decide (b<c)))
 (
  kn a b d c e)
 (
  k0 a)
def Z14{J:Type}(N:Nat)(a:LL)(b c d:Int)(e:LI)(kn:LL->I3 (LI->Option J)):Option J :=
 kn a b c d e
def Z17{J:Type}(N:Nat)(a:LL)(b c d:Int)(e:LI)(kn:LL->I4 (LI->Option J)):Option J :=
 kn a b 0 c d e
def Z20{J:Type}(N:Nat)(h:LL)(f:LI)(b c a d:Int)(e:LI)(kn:LL->LI->I4 (LI->Option J))(k2:LL->LI->I3 (LI->Option J)):Option J :=
 cond (lk N (decide (c<a)))
 (
  cond (lk N (cn.P (a,(d,e)) b c)) (
   cond (lk N (Nat.blt (f.length+([(cn.g (a,(d,e)) b c)]:List Int).length) 1099511627776)) (
    kn h (f++([(cn.g (a,(d,e)) b c)]:List Int)) b (ab (c+1)) a d e) none) none)
 (
  k2 h f b a d e)
def Z19L{J:Type}(N:Nat)(k2:LL->LI->I3 (LI->Option J)):Nat->LL->LI->Int->Int->Int->Int->LI->Option J
 |0,_,_,_,_,_,_,_=>none
 |M+1,a,b,c,d,e,f,g=>Z20 N a b c d e f g (λa b c d e f g=>Z19L N k2 M a b c d e f g) k2
def Z19 N a b c d e f k2:=(Z19L N k2 N a ([]:List Int) b c d e f:Option J)
def Z18 N a b c d e f kn:=(Z19 N a b c d e f kn:Option J)
def Z16 N a b c d e kn:=(Z17 N a b c d e (λa b f c d e=>Z18 N a b f c d e kn):Option J)
def Z21{J:Type}(N:Nat)(a:LL)(b:LI)(c d e:Int)(f:LI)(kn:LL->I3 (LI->Option J)):Option J :=
 cond (lk N (Nat.blt (a.length+([b]:List (LI)).length) 1099511627776)) (
  kn (a++([b]:List (LI))) c d e f) none
def Z15 N a b c d e kn:=(Z16 N a b c d e (λa f b c d e=>Z21 N a f b c d e kn):Option J)
def Z13 N a b c d e kn:=(Z14 N a b c d e (λa b c d e=>Z15 N a b c d e kn):Option J)
def Z12 N a b c d e kn:=(Z13 N a b c d e kn:Option J)
def Z22{J:Type}(N:Nat)(a:LL)(b c d:Int)(e:LI)(kn:LL->I3 (LI->Option J)):Option J :=
 kn a (ab (b+1)) c d e
def Z11 N a b c d e kn:=(Z12 N a b c d e (λa b c d e=>Z22 N a b c d e kn):Option J)
def Z9 N a b c d e kn k0:=(Z10 N a b c d e (λa b c d e=>Z11 N a b c d e kn) k0:Option J)
def Z8L{J:Type}(N:Nat)(k0:LL->Option J):Nat->LL->Int->Int->Int->LI->Option J
 |0,_,_,_,_,_=>none
 |M+1,a,b,c,d,e=>Z9 N a b c d e (λa b c d e=>Z8L N k0 M a b c d e) k0
def Z8 N a b c d k0:=(Z8L N k0 N ([]:List (LI)) a b c d:Option J)
def Z7 N a b c d kn:=(Z8 N a b c d kn:Option J)
def Z5 N a b c kn:=(Z6 N a b c (λd a b c=>Z7 N d a b c kn):Option J)
def Z23{J:Type}(N:Nat)(a:LL)(kr:LL->Option J):Option J :=
 kr a
def Z4 N a b c kr:=(Z5 N a b c (λd=>Z23 N d kr):Option J)
def Z2 N a b c kr:=(Z3 N a b c (λa b c=>Z4 N a b c kr):Option J)
def Z0 N a kr:=(Z1 N a (λb c d=>Z2 N b c d kr):Option J)
def Spec:Prop:=∀ (v0:MT),Ty.bd (.pair (.int .i64) (.pair (.int .i64) (.sl 0 (.int .i64)))) v0->P v0=true->∃N0,∀N,N0<=N->Z0 N v0 (λv2=>some ((),(v2,())))=some ((),((g v0),()))
def inner{J:Type}{N:Nat}{m:Int×Int×List Int}(hd:aG m=true)(k2:List (List Int)->List Int->Int->Int->Int->List Int->Option J)(out:List (List Int)){i:Nat}(hi:i<m.2.1.toNat):∀(M j:Nat),j<=m.1.toNat->m.1.toNat-j<M ->
  Z19L N k2 M out ((cw m i).take j) (i:Int) (j:Int) m.1 m.2.1 m.2.2=k2 out (cw m i) (i:Int) m.1 m.2.1 m.2.2:=by
 obtain⟨n,r,hn,hr,hn1,hn5,hnr,hr8,hl⟩:=a7 hd;intro M;induction M with
 |zero=>intro j _ h;omega
 |succ M ih =>
  intro j hj hM;simp only[Z19L,Z20];have hrl:(cw m i).length=m.1.toNat:=by simp[cw]
  by_cases h:j<m.1.toNat
  ·have hlen:∀x:Int,Nat.blt (((cw m i).take j).length+([x]:List Int).length) 1099511627776=true:=λx=>by rw[Nat.blt_eq,List.length_take,hrl,List.length_singleton];omega
   have ht:(cw m i).take j++[af m i j]=(cw m i).take (j+1):=uQ (af m i) h;have hP:cn.P (m.1,(m.2.1,m.2.2)) (i:Int) (j:Int)=true:=iu hd hi h;have hA:cn.g (m.1,(m.2.1,m.2.2)) (i:Int) (j:Int)=af m i j:=it (by omega) _ _;rw[ct (dt (by omega)),ct hP,hA,ct (hlen _),ht,bm (by rw[bw];omega)];exact ih (j+1) h (by omega)
  ·rw[cf (df (by omega)),List.take_of_length_le (by rw[hrl];omega)]
def loop{J:Type}{N:Nat}(hN:10<=N){m:Int×Int×List Int}(hd:aG m=true)(k0:List (List Int)->Option J):∀(M t:Nat),t<=m.2.1.toNat-m.1.toNat->m.2.1.toNat-m.1.toNat-t<M ->
  Z8L N k0 M ((ca m).take t) ((m.1.toNat+t:Nat):Int) m.1 m.2.1 m.2.2=k0 (ca m):=by
 obtain⟨n,r,hn,hr,hn1,hn5,hnr,hr8,hl⟩:=a7 hd;have hcl:(ca m).length=m.2.1.toNat-m.1.toNat:=by simp[ca]
 intro M;induction M with
 |zero=>intro t _ h;omega
 |succ M ih =>
  intro t ht hM;simp only[Z8L,Z9,Z10];by_cases h:t<m.2.1.toNat-m.1.toNat;·have ha:(ca m).take t++[cw m (m.1.toNat+t)]=(ca m).take (t+1):=uQ (λt=>cw m (m.1.toNat+t)) h;rw[ct (dt (by omega))];simp only[Z11,Z12,Z13,Z14,Z15,Z16,Z17,Z18,Z19];have hin:=inner (J:=J) (N:=N) hd (λout3 row5 i4 p1_0 p1_1 p1_2=>Z21 N out3 row5 i4 p1_0 p1_1 p1_2 (λout3 i4 p1_0 p1_1 p1_2=>Z22 N out3 i4 p1_0 p1_1 p1_2 (λout3 i4 p1_0 p1_1 p1_2=>Z8L N k0 M out3 i4 p1_0 p1_1 p1_2))) ((ca m).take t) (i:=m.1.toNat+t) (by omega) N 0 (by omega) (by omega);rw[List.take_zero,show((0:Nat):Int)=0 from rfl]at hin;rw[hin];simp only[Z21,Z22];rw[ct (by rw[Nat.blt_eq,List.length_take,hcl,List.length_singleton];omega),bm (by rw[bw];omega),ha];exact ih (t+1) h (by omega)
  ·rw[cf (df (by omega)),List.take_of_length_le (by rw[hcl];omega)]
def ok:Spec:=λm hb hp=>⟨10,λN hN=>by have hd:aG m=true:=hp;obtain⟨n,r,hn,hr,hn1,hn5,hnr,hr8,hl⟩:=a7 hd;simp only[Z0,Z1,Z2,Z3,Z4,Z5,Z6,Z7,Z8];have:=loop (J:=Unit×List (List Int)×Unit) hN hd (λout3=>Z23 N out3 (λt2=>some ((),(t2,())))) N 0 (by omega) (by omega);rw[List.take_zero,Nat.add_zero,show((m.1.toNat:Nat):Int)=m.1 by omega]at this;exact this⟩
end b7
namespace gk
def g(m:Int×Int×List Int)(ks:List Int):List (List Int)×Bool :=
 if(bj.g m ks).2=true then(ca ((bj.g m ks).1.getD ks.length (0,(0,[]))),true)else([],false)
def Z0{J:Type}(N:Nat)(a:MT)(b:LI)(kr:LL->Bool->Option J):Option J :=
 cond (!(lk N ((bj.g a b).2)))
 (
  kr ([]:List (LI)) false)
 (
  cond (lk N (au (ab (((bj.g a b).1.length:Int)-1)) (bj.g a b).1.length)) (
   cond (lk N (b7.P ((bj.g a b).1.getD (ab (((bj.g a b).1.length:Int)-1)).toNat (0,(0,[]))))) (
    kr (b7.g ((bj.g a b).1.getD (ab (((bj.g a b).1.length:Int)-1)).toNat (0,(0,[])))) true) none) none)
def Spec:Prop:=∀ (v0:MT) (v1:LI),Ty.bd (.pair (.int .i64) (.pair (.int .i64) (.sl 0 (.int .i64)))) v0->Ty.bd (.sl 0 (.int .i64)) v1->∃N0,∀N,N0<=N->Z0 N v0 v1 (λv4 v5=>some ((),(v4,(v5,()))))=some ((),((g v0 v1).1,((g v0 v1).2,())))
def ok:Spec:=λm ks hb hv=>⟨0,λN hN=>by
 simp only[Z0,ax];by_cases h:(bj.g m ks).2=true
 ·obtain⟨h1,h2,h3,h4,h5⟩:=bj.last h;have e:ab (((bj.g m ks).1.length:Int)-1)=(ks.length:Int):=by rw[h1,aI (by omega) (by omega)];omega
  rw[e,Int.toNat_natCast,aU (by omega),show b7.P ((bj.g m ks).1.getD ks.length (0,(0,[])))=true from h2,g,h,if_pos rfl];rfl
 ·have hf:(bj.g m ks).2=false:=by
   cases hc:(bj.g m ks).2;·rfl
   ·exact absurd hc h
  rw[g,hf];rfl⟩
end gk
namespace dF
def g(l:List (List Int))(n:Int):Bool:=decide ((l.length:Int)=n)&&l.all λr=>decide ((r.length:Int)=n)
def Z1{J:Type}(N:Nat)(a:LL)(b:Int)(kn:LL->Int->Option J):Option J :=
 kn a b
def Z3{J:Type}(N:Nat)(a:LL)(b:Int)(kn:LL->Int->Option J)(kr:Bool->Option J):Option J :=
 cond (lk N (!(decide ((a.length:Int)=b))))
 (
  kr false)
 (
  kn a b)
def Z6{J:Type}(N:Nat)(a:LL)(b:Int)(kn:LL->I2 (Option J)):Option J :=
 kn a b 0
def Z9{J:Type}(N:Nat)(b:LL)(c a:Int)(kn:LL->I2 (Option J))(k0:Option J)(kr:Bool->Option J):Option J :=
 cond (lk N (decide (a<c)))
 (
  cond (lk N (au a b.length)) (
   cond (lk N (!(decide (((b.getD a.toNat []).length:Int)=c))))
   (
    kr false)
   (
    kn b c (ab (a+1)))) none)
 (
  k0)
def Z8L{J:Type}(N:Nat)(k0:Option J)(kr:Bool->Option J):Nat->LL->Int->Int->Option J
 |0,_,_,_=>none
 |M+1,a,b,c=>Z9 N a b c (λa b c=>Z8L N k0 kr M a b c) k0 kr
def Z8 N a b c k0 kr:=(Z8L N k0 kr N a b c:Option J)
def Z7 N a b c kn kr:=(Z8 N a b c kn kr:Option J)
def Z5 N a b kn kr:=(Z6 N a b (λa b c=>Z7 N a b c kn kr):Option J)
def Z10{J:Type}(N:Nat) (kr:Bool->Option J):Option J :=
 kr true
def Z4 N a b kr:=(Z5 N a b (Z10 N kr) kr:Option J)
def Z2 N a b kr:=(Z3 N a b (λa b=>Z4 N a b kr) kr:Option J)
def Z0 N a b kr:=(Z1 N a b (λa b=>Z2 N a b kr):Option J)
def Spec:Prop:=∀ (v0:LL) (v1:Int),Ty.bd (.sl 0 (.sl 0 (.int .i64))) v0->∃N0,∀N,N0<=N->Z0 N v0 v1 (λv4=>some ((),(v4,())))=some ((),((g v0 v1),()))
def loop{J:Type}{N:Nat}(k0:Option J)(kr:Bool->Option J){l:List (List Int)}{n:Int}(hn:(l.length:Int)=n)(hl:l.length<=maxLen)(h0:k0=kr true):∀(M i:Nat),i<=l.length->l.length-i<M ->
  Z8L N k0 kr M l n (i:Int)=kr ((l.drop i).all λr=>decide ((r.length:Int)=n)):=by
 intro M;induction M with
 |zero=>intro i _ h;omega
 |succ M ih =>
  intro i hi hM;simp only[Z8L,Z9];by_cases h:i<l.length
  ·rw[ct (dt (by omega)),ct (aU h),Int.toNat_natCast,f5 [] h,List.all_cons,bm (by omega)];by_cases e:((l.getD i []).length:Int)=n;·rw[cf (nf e),dt e,ih (i+1) (by omega) (by omega)];rfl
   ·rw[ct (nt e),df e];rfl
  ·rw[cf (df (by omega)),List.drop_of_length_le (by omega),h0];rfl
def ok:Spec:=λl n hb=>⟨l.length+1,λN hN=>by
 simp only[Z1,Z3,Z6,Z9,Z8,Z7,Z5,Z10,Z4,Z2,Z0,ax];unfold g;by_cases h:(l.length:Int)=n;·rw[nf h,dt h];simp only[cond_false];refine(loop _ (λt=>some ((),(t,()))) h hb.1 rfl N 0 (Nat.zero_le _) (by omega)).trans ?_;rw[List.drop_zero,Bool.true_and]
 ·rw[nt h,df h];rfl⟩
end dF
end
end Go.Fw
