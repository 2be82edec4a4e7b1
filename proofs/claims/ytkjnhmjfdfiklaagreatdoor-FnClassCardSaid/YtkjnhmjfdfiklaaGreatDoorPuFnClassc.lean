/- The plain part: what the functions compute, in lists and numbers. Nothing is assumed. -/
import Derived.Test.YtkjnhmjfdfiklaaGreatDoorFwd
import Derived.Test.YtkjnhmjfdfiklaaGreatDoorPuFnClassb
import Derived.Test.YtkjnhmjfdfiklaaGreatDoorPuFnClassa
noncomputable section
set_option linter.defProp false
set_option linter.defProp false
set_option linter.unusedSectionVars false
set_option linter.unusedVariables false
set_option linter.unusedSimpArgs false
set_option maxRecDepth 100000
namespace Go.Fw
section
variable {J : Type}
namespace bN
def g(m:Int×Int×List Int)(names:List Int):(Int×Int×List Int)×Bool :=
 if((bn m&&!decide (bq m=[]))&&dF names m.1)=true then(b9 m names,true)else((0,0,[]),false)
def Z1{J:Type}(N:Nat)(a:MT)(b:LI)(kn:LI->I2 (LI->I2 (Option J))):Option J :=
 kn b a.1 a.2.1 a.2.2 0 0
def Z3{J:Type}(N:Nat)(b:LI)(a c:Int)(d:LI)(e f:Int)(kn:LI->I2 (LI->I2 (Option J)))(kr:LI->Bool->I2 (Option J)):Option J :=
 cond (!(lk N ((fB.g (a,(c,d))))))
 (
  kr ([]:List Int) false 0 0)
 (
  cond (!(lk N ((eO.g b a))))
  (
   kr ([]:List Int) false 0 0)
  (
   kn b a c d e f))
def Z5{J:Type}(N:Nat)(d:LI)(b c:Int)(a:LI)(e f:Int)(kn:LI->LI->I2 (LI->I4 (Option J))):Option J :=
 ce (
  cond (lk N (bT 0 (a.length:Int)&&decide ((a.length:Int)<1099511627776))) (
   bo (
    kn (List.replicate (a.length:Int).toNat (0:Int)) d b c a e f b c)) none)
 (
  cond (lk N (bT 0 (a.length:Int)&&decide ((a.length:Int)<1099511627776))) (
   kn (List.replicate (a.length:Int).toNat (0:Int)) d b c a e f b c) none)
def Z8{J:Type}(N:Nat)(a b:LI)(c d:Int)(e:LI)(f g h i:Int)(kn:LI->LI->I3 (LI->I4 (Option J))):Option J :=
 kn a b 0 c d e f g h i
def Z12{J:Type}(N:Nat)(a h:LI)(b i c:Int)(j:LI)(d e f g:Int)(kn:LI->LI->I3 (LI->I4 (Option J)))(k0:LI->I4 (Option J)):Option J :=
 cond (lk N (decide (b<c)))
 (
  kn a h b i c j d e f g)
 (
  k0 a d e f g)
def Z16{J:Type}(N:Nat)(b c:LI)(a d e:Int)(f:LI)(g h i j:Int)(kn:LI->LI->I4 (LI->I4 (Option J))):Option J :=
 kn b c a a d e f g h i j
def Z18{J:Type}(N:Nat)(d b:LI)(a l c e:Int)(f:LI)(g h i j:Int)(kn:LI->LI->I4 (LI->I4 (Option J))):Option J :=
 cond (lk N (decide (a<c)))
 (
  cond (lk N (ax a b.length)) (
   kn d b a (b.getD a.toNat 0) c e f g h i j) none)
 (
  kn d b a l c e f g h i j)
def Z20{J:Type}(N:Nat)(a b:LI)(c d e f:Int)(g:LI)(h i j l:Int)(kn:LI->LI->I5 (LI->I4 (Option J))):Option J :=
 kn a b c d 0 e f g h i j l
def Z23{J:Type}(N:Nat)(h c:LI)(d i a b e:Int)(f:LI)(j l m o:Int)(kn:LI->LI->I5 (LI->I4 (Option J)))(k2:LI->LI->I3 (LI->I4 (Option J))):Option J :=
 cond (lk N (decide (a<b)))
 (
  cond (lk N (ax a c.length)) (
   cond (lk N (cS.P (b,(e,f)) d a)) (
    cond (lk N (ax (ac ((ac (i*b))+(c.getD a.toNat 0))) h.length)) (
     kn (h.set (ac ((ac (i*b))+(c.getD a.toNat 0))).toNat (cS.g (b,(e,f)) d a)) c d i (ac (a+1)) b e f j l m o) none) none) none)
 (
  k2 h c d b e f j l m o)
def Z22L{J:Type}(N:Nat)(k2:LI->LI->I3 (LI->I4 (Option J))):Nat->LI->LI->Int->Int->Int->Int->Int->LI->Int->Int->Int->Int->Option J
 |0,_,_,_,_,_,_,_,_,_,_,_,_=>none
 |M+1,a,b,c,d,e,f,g,h,i,j,l,m=>Z23 N a b c d e f g h i j l m (λa b c d e f g h i j l m=>Z22L N k2 M a b c d e f g h i j l m) k2
def Z22 N a b c d e f g h i j l m k2:=(Z22L N k2 N a b c d e f g h i j l m:Option J)
def Z21 N a b c d e f g h i j l m kn:=(Z22 N a b c d e f g h i j l m kn:Option J)
def Z19 N a b c d e f g h i j l kn:=(Z20 N a b c d e f g h i j l (λa b c d m e f g h i j l=>Z21 N a b c d m e f g h i j l kn):Option J)
def Z17 N a b c d e f g h i j l kn:=(Z18 N a b c d e f g h i j l (λa b c d e f g h i j l=>Z19 N a b c d e f g h i j l kn):Option J)
def Z15 N a b c d e f g h i j kn:=(Z16 N a b c d e f g h i j (λa b c l d e f g h i j=>Z17 N a b c l d e f g h i j kn):Option J)
def Z14 N a b c d e f g h i j kn:=(Z15 N a b c d e f g h i j kn:Option J)
def Z24{J:Type}(N:Nat)(a b:LI)(c d e:Int)(f:LI)(g h i j:Int)(kn:LI->LI->I3 (LI->I4 (Option J))):Option J :=
 kn a b (ac (c+1)) d e f g h i j
def Z13 N a b c d e f g h i j kn:=(Z14 N a b c d e f g h i j (λa b c d e f g h i j=>Z24 N a b c d e f g h i j kn):Option J)
def Z11 N a b c d e f g h i j kn k0:=(Z12 N a b c d e f g h i j (λa b c d e f g h i j=>Z13 N a b c d e f g h i j kn) k0:Option J)
def Z10L{J:Type}(N:Nat)(k0:LI->I4 (Option J)):Nat->LI->LI->Int->Int->Int->LI->Int->Int->Int->Int->Option J
 |0,_,_,_,_,_,_,_,_,_,_=>none
 |M+1,a,b,c,d,e,f,g,h,i,j=>Z11 N a b c d e f g h i j (λa b c d e f g h i j=>Z10L N k0 M a b c d e f g h i j) k0
def Z10 N a b c d e f g h i j k0:=(Z10L N k0 N a b c d e f g h i j:Option J)
def Z9 N a b c d e f g h i j kn:=(Z10 N a b c d e f g h i j kn:Option J)
def Z7 N a b c d e f g h i kn:=(Z8 N a b c d e f g h i (λa b j c d e f g h i=>Z9 N a b j c d e f g h i kn):Option J)
def Z25{J:Type}(N:Nat)(a:LI)(d e b c:Int)(kr:LI->Bool->I2 (Option J)):Option J :=
 kr a true b c
def Z6 N a f g h i b c d e kr:=(Z7 N a f g h i b c d e (λa b c d e=>Z25 N a b c d e kr):Option J)
def Z4 N a b c d e f kr:=(Z5 N a b c d e f (λg a b c d e f h i=>Z6 N g a b c d e f h i kr):Option J)
def Z2 N a b c d e f kr:=(Z3 N a b c d e f (λa b c d e f=>Z4 N a b c d e f kr) kr:Option J)
def Z0 N b a kr:=(Z1 N b a (λa c d e f g=>Z2 N a c d e f g kr):Option J)
def Spec:Prop:=∀ (v0:MT) (v1:LI),Ty.bd (.pair (.int .i64) (.pair (.int .i64) (.sl 0 (.int .i64)))) v0->Ty.bd (.sl 0 (.int .i64)) v1->∃N0,∀N,N0<=N->Z0 N v0 v1 (λv4_2 v5 v4_0 v4_1=>some ((),((v4_0,(v4_1,v4_2)),(v5,()))))=some ((),((g v0 v1).1,((g v0 v1).2,())))
section
variable {J : Type} {N : Nat} {m : Int × Int × List Int} {L : List Nat}
def at_g(hd:0<=m.1)(a b:Nat):cS.g (m.1,(m.2.1,m.2.2)) (a:Int) (b:Int)=aj m a b:=jE hd a b
def at_p(hd:aO m=true){a b:Nat}(ha:a<m.2.1.toNat)(hb:b<m.1.toNat):cS.P (m.1,(m.2.1,m.2.2)) (a:Int) (b:Int)=true:=jF hd ha hb
def cur(m:Int×Int×List Int)(L:List Nat)(st:List Int)(t:Nat):List Int:=iE m.2.2.length t (eV m.1.toNat L) (λp=>m.2.2.getD (eV m.1.toNat L p) 0) (λp=>st.getD p 0)
def inner(hd:aO m=true)(h1:L.Nodup)(h2:∀x∈L,x<m.1.toNat)(h3:L.length=m.1.toNat)(st:List Int)(k2:List Int->List Int->Int->Int->Int->List Int->Int->Int->Int->Int->Option J)(t0 t1 o0 o1:Int){i:Nat}(hi:i<m.2.1.toNat):∀(M j:Nat),j<=m.1.toNat->m.1.toNat-j<M ->
  Z22L N k2 M (cur m L st (i*m.1.toNat+j)) (aF L) (i:Int) ((cD m.1.toNat L i:Nat):Int) (j:Int) m.1 m.2.1 m.2.2 t0 t1 o0 o1=k2 (cur m L st (i*m.1.toNat+m.1.toNat)) (aF L) (i:Int) m.1 m.2.1 m.2.2 t0 t1 o0 o1:=by
 obtain⟨n,r,hn,hr,hn1,hn5,hnr,hr8,hl⟩:=bf hd;have hnr':m.1.toNat<=m.2.1.toNat:=by omega
 intro M;induction M with
 |zero=>intro j _ h;omega
 |succ M ih =>
  intro j hj hM;simp only[Z22L,Z23];by_cases h:j<m.1.toNat
  ·have hx:=h2 _ (bO (l:=L) (j:=j) 0 (by omega));have hrow:=yA h1 h2 h3 hnr' hi;have hlt:cD m.1.toNat L i*m.1.toNat+L.getD j 0<m.2.2.length:=by
    have:=hY (n:=m.1.toNat) (r:=m.2.1.toNat) hrow hx;rw[hl];have e:m.2.1.toNat*m.1.toNat=r*n:=by rw[hn,hr];rfl
    omega
   have hidx:ac (ac (((cD m.1.toNat L i:Nat):Int)*m.1)+((L.getD j 0:Nat):Int))=((cD m.1.toNat L i*m.1.toNat+L.getD j 0:Nat):Int):=by
    have e:((cD m.1.toNat L i:Nat):Int)*m.1=((cD m.1.toNat L i*m.1.toNat:Nat):Int):=by rw[hn,Int.natCast_mul];simp
    have hb:cD m.1.toNat L i*m.1.toNat<=8*5:=Nat.mul_le_mul (by omega) (by omega);have e2:ac (((cD m.1.toNat L i*m.1.toNat:Nat):Int))=((cD m.1.toNat L i*m.1.toNat:Nat):Int):=aM (by omega) (by omega);rw[e,e2,aM (by omega) (by omega)];omega
   have hset:(cur m L st (i*m.1.toNat+j)).set (cD m.1.toNat L i*m.1.toNat+L.getD j 0) (aj m i j)=cur m L st (i*m.1.toNat+(j+1)):=by have e:=DE (total:=m.2.2.length) (t:=i*m.1.toNat+j) (p:=cD m.1.toNat L i*m.1.toNat+L.getD j 0) (back:=eV m.1.toNat L) (F:=λp=>m.2.2.getD (eV m.1.toNat L p) 0) (G:=λp=>st.getD p 0) hlt (tA h1 h2 h3 hnr' h) (λq _ hq=>DJ h1 h2 h3 hnr' h hq);simp only[tA h1 h2 h3 hnr' h]at e;exact e
   rw[ct (dt (by omega)),ct (aN (by rw[cG];omega)),ct (at_p hd hi h)];simp only[Int.toNat_natCast,gD,hidx];rw[ct (aN (by rw[cur,qI];exact hlt)),at_g (by omega),hset,bh (by rw[bv];omega)];exact ih (j+1) h (by omega)
  ·rw[cf (df (by omega)),show j=m.1.toNat by omega]
def outer(hN:10<=N)(hd:aO m=true)(h1:L.Nodup)(h2:∀x∈L,x<m.1.toNat)(h3:L.length=m.1.toNat)(st:List Int)(k0:List Int->Int->Int->Int->Int->Option J)(t0 t1 o0 o1:Int):∀(M i:Nat),i<=m.2.1.toNat->m.2.1.toNat-i<M ->
  Z10L N k0 M (cur m L st (i*m.1.toNat)) (aF L) (i:Int) m.1 m.2.1 m.2.2 t0 t1 o0 o1=k0 (cur m L st (m.2.1.toNat*m.1.toNat)) t0 t1 o0 o1:=by
 obtain⟨n,r,hn,hr,hn1,hn5,hnr,hr8,hl⟩:=bf hd;intro M;induction M with
 |zero=>intro i _ h;omega
 |succ M ih =>
  intro i hi hM;simp only[Z10L,Z11,Z12];by_cases h:i<m.2.1.toNat
  ·have hin:=inner (J:=J) (N:=N) hd h1 h2 h3 st (λout5_2 names1 i6 m2_0 m2_1 m2_2 t4_0 t4_1 out5_0 out5_1=>Z24 N out5_2 names1 i6 m2_0 m2_1 m2_2 t4_0 t4_1 out5_0 out5_1 (λout5_2 names1 i6 m2_0 m2_1 m2_2 t4_0 t4_1 out5_0 out5_1=>Z10L N k0 M out5_2 names1 i6 m2_0 m2_1 m2_2 t4_0 t4_1 out5_0 out5_1)) t0 t1 o0 o1 h N 0 (by omega) (by omega);rw[show((0:Nat):Int)=0 from rfl,Nat.add_zero]at hin;have hnext:=ih (i+1) h (by omega);rw[Nat.add_mul,Nat.one_mul]at hnext;rw[ct (dt (by omega))];simp only[Z13,Z14,Z15,Z16,Z17,Z18];by_cases hin':i<m.1.toNat;·rw[ct (dt (by omega)),ct (aN (by rw[cG];omega)),Int.toNat_natCast,gD];rw[cD,if_pos hin']at hin;simp only[Z19,Z20,Z21,Z22];rw[hin];simp only[Z24];rw[bh (by rw[bv];omega)];exact hnext
   ·rw[cf (df (by omega))];rw[cD,if_neg hin']at hin;simp only[Z19,Z20,Z21,Z22];rw[hin];simp only[Z24];rw[bh (by rw[bv];omega)];exact hnext
  ·rw[cf (df (by omega)),show i=m.2.1.toNat by omega]
def cur_start(L:List Nat):cur m L (List.replicate m.2.2.length 0) 0=List.replicate m.2.2.length 0:=by unfold cur;rw[DF];exact qB 0 (by simp)
def cur_end(hd:aO m=true)(h1:L.Nodup)(h2:∀x∈L,x<m.1.toNat)(h3:L.length=m.1.toNat)(st:List Int):cur m L st (m.2.1.toNat*m.1.toNat)=(b9 m (aF L)).2.2:=by
 obtain⟨n,r,hn,hr,hn1,hn5,hnr,hr8,hl⟩:=bf hd;have e:m.2.1.toNat*m.1.toNat=m.2.2.length:=by rw[hl,hn,hr];simp
 rw[e];unfold cur b9;rw[iD];exact DG (λp hp=>by have:=DK h1 h2 h3 (r:=m.2.1.toNat) (by omega) (by omega) (q:=p) (by omega);omega)
end
def ok:Spec:=λm names hb hv=>⟨10,λN hN=>by
 have e0:fB.g (m.1,(m.2.1,m.2.2))=(bn m&&!decide (bq m=[])):=rfl;have e1:eO.g names m.1=dF names m.1:=rfl;simp only[Z0,Z1,Z2,Z3,e0,e1,g,aD];cases h1:(bn m&&!decide (bq m=[]));·rfl
 have hs:bn m=true:=by simp only[Bool.and_eq_true]at h1;exact h1.1
 have hd:=dE hs;cases hnm:dF names m.1;·rfl
 obtain⟨L,rfl,g1,g2,g3⟩:=kj hnm;obtain⟨n,r,hn,hr,hn1,hn5,hnr,hr8,hl⟩:=bf hd;have hlen:m.2.2.length<=8*5:=by rw[hl];exact Nat.mul_le_mul hr8 hn5
 have hc:(bT 0 (m.2.2.length:Int)&&decide ((m.2.2.length:Int)<1099511627776))=true:=by rw[jD (by omega),dt (by omega)];rfl
 simp only[Bool.not_true,cond_false,Z4,Z5];rw[ct hc,ct hc];simp only[bo,fG];rw[Int.toNat_natCast];simp only[Z6,Z7,Z8,Z9,Z10];have:=outer (J:=Unit×(Int×Int×List Int)×Bool×Unit) hN hd g1 g2 g3 (List.replicate m.2.2.length 0) (λout6_2 t4_0 t4_1 out6_0 out6_1=>Z25 N out6_2 t4_0 t4_1 out6_0 out6_1 (λt4_2 t5 t4_0 t4_1=>some ((),((t4_0,(t4_1,t4_2)),(t5,()))))) 0 0 m.1 m.2.1 N 0 (by omega) (by omega);rw[Nat.zero_mul,cur_start,cur_end hd g1 g2 g3]at this;exact this⟩
end bN
namespace jt
def g(_:Int):Bool:=false
def Z0{J:Type}(N:Nat)(a:Int)(kr:Bool->Option J):Option J :=
 kr (lk N (!(decide (a=a))))
def Spec:Prop:=∀ (v0:Int),∃N0,∀N,N0<=N->Z0 N v0 (λv2=>some ((),(v2,())))=some ((),((g v0),()))
def ok:Spec:=λx=>⟨0,λN hN=>by simp[Z0,aD,g]⟩
end jt
namespace iS
def g(x y:Int):Int:=if x=y then 0 else if x<y then -1 else 1
def Z0{J:Type}(N:Nat)(b a:Int)(kr:Int->Option J):Option J :=
 cond (lk N ((jt.g b)))
 (
  cond (lk N ((jt.g a)))
  (
   kr 0)
  (
   kr (-1)))
 (
  cond (lk N ((jt.g a)))
  (
   kr 1)
  (
   cond (lk N (decide (b<a)))
   (
    kr (-1))
   (
    cond (lk N (decide (a<b)))
    (
     kr 1)
    (
     kr 0))))
def Spec:Prop:=∀ (v0 v1:Int),∃N0,∀N,N0<=N->Z0 N v0 v1 (λv4=>some ((),(v4,())))=some ((),((g v0 v1),()))
def ok:Spec:=λx y=>⟨0,λN hN=>by
 simp only[Z0,aD,g,jt.g,cond_false];by_cases h:x<y;·rw[dt h,if_neg (by omega),if_pos h];rfl
 ·rw[df h];by_cases h2:y<x;·rw[dt h2,if_neg (by omega),if_neg h];rfl
  ·rw[df h2,if_pos (by omega)];rfl⟩
end iS
namespace eQ
abbrev g(a b:List Int):Int:=hU a b
def Z1{J:Type}(N:Nat)(a b:LI)(kn:LI->LI->Option J):Option J :=
 kn a b
def Z4{J:Type}(N:Nat)(a b:LI)(kn:LI->LI->LI->I2 (Option J)):Option J :=
 kn a b a (a.length:Int) 0
def Z7{J:Type}(N:Nat)(d b c:LI)(e a:Int)(kn:LI->LI->LI->I2 (Option J))(k0:LI->LI->Option J)(kr:Int->Option J):Option J :=
 cond (lk N (decide (a<e)))
 (
  cond (lk N (ax a c.length)) (
   cond (lk N (decide ((b.length:Int)<=a)))
   (
    kr 1)
   (
    cond (lk N (ax a b.length)) (
     cond (lk N (!(decide ((iS.g (c.getD a.toNat 0) (b.getD a.toNat 0))=0))))
     (
      kr (iS.g (c.getD a.toNat 0) (b.getD a.toNat 0)))
     (
      kn d b c e (ac (a+1)))) none)) none)
 (
  k0 d b)
def Z6L{J:Type}(N:Nat)(k0:LI->LI->Option J)(kr:Int->Option J):Nat->LI->LI->LI->Int->Int->Option J
 |0,_,_,_,_,_=>none
 |M+1,a,b,c,d,e=>Z7 N a b c d e (λa b c d e=>Z6L N k0 kr M a b c d e) k0 kr
def Z6 N a b c d e k0 kr:=(Z6L N k0 kr N a b c d e:Option J)
def Z5 N a b c d e kn kr:=(Z6 N a b c d e kn kr:Option J)
def Z3 N a b kn kr:=(Z4 N a b (λa b c d e=>Z5 N a b c d e kn kr):Option J)
def Z8{J:Type}(N:Nat)(a b:LI)(kr:Int->Option J):Option J :=
 cond (lk N (decide ((a.length:Int)<(b.length:Int))))
 (
  kr (-1))
 (
  kr 0)
def Z2 N a b kr:=(Z3 N a b (λa b=>Z8 N a b kr) kr:Option J)
def Z0 N a b kr:=(Z1 N a b (λa b=>Z2 N a b kr):Option J)
def Spec:Prop:=∀ (v0 v1:LI),Ty.bd (.sl 0 (.int .i64)) v0->Ty.bd (.sl 0 (.int .i64)) v1->∃N0,∀N,N0<=N->Z0 N v0 v1 (λv4=>some ((),(v4,())))=some ((),((g v0 v1),()))
def loop{J:Type}(N:Nat)(k0:List Int->List Int->Option J)(kr:Int->Option J)(a b:List Int)(ha:a.length<=maxLen)(h0:k0 a b=if a.length<b.length then kr (-1)else kr 0):∀(M j:Nat),j<=a.length->j<=b.length->a.length-j<M ->
  Z6L N k0 kr M a b a (a.length:Int) (j:Int)=kr (hU (a.drop j) (b.drop j)):=by
 intro M;induction M with
 |zero=>intro j _ _ h;omega
 |succ M ih =>
  intro j hj hb hM;simp only[Z6L,Z7];by_cases h:j<a.length
  ·rw[ct (dt (by omega)),ct (aN h),dB 0 h];by_cases h2:j<b.length
   ·rw[cf (df (by omega)),ct (aN h2),Int.toNat_natCast,bh (by omega),dB (l:=b) 0 h2,hU,ih (j+1) h h2 (by omega)];by_cases e:a.getD j 0=b.getD j 0;·rw[cf (nf (by rw[iS.g,if_pos e])),if_pos e]
    ·rw[ct (nt (by simp only[iS.g,if_neg e];split<;>omega)),if_neg e];simp only[iS.g,if_neg e]
   ·rw[ct (dt (by omega)),List.drop_of_length_le (l:=b) (by omega)];rfl
  ·rw[cf (df (by omega)),List.drop_of_length_le (by omega),h0];by_cases h2:j<b.length;·rw[if_pos (by omega),dB (l:=b) 0 h2];rfl
   ·rw[if_neg (by omega),List.drop_of_length_le (l:=b) (by omega)];rfl
def ok:Spec:=λa b ha hb=>⟨a.length+1,λN hN=>by
 simp only[Z1,Z4,Z7,Z6,Z5,Z3,Z8,Z2,Z0];refine(loop N _ (λt=>some ((),(t,()))) a b ha.1 ?_ N 0 (by omega) (by omega) (by omega)).trans rfl;by_cases h:a.length<b.length;·rw[ct (dt (by omega)),if_pos h]
 ·rw[cf (df (by omega)),if_neg h]⟩
end eQ
namespace cb
def g(m:Int×Int×List Int):(Int×Int×List Int)×Bool:=if((bn m&&!decide (bq m=[]))&&decide (m.2.1=m.1))=true then(mV m,true)else((0,0,[]),false)
def Z1{J:Type}(N:Nat)(a:MT)(kn:I2 (LI->I2 (Option J))):Option J :=
 kn a.1 a.2.1 a.2.2 0 0
def Z3{J:Type}(N:Nat)(a b:Int)(c:LI)(d e:Int)(kn:I2 (LI->I2 (Option J)))(kr:LI->Bool->I2 (Option J)):Option J :=
 cond (!(lk N ((fB.g (a,(b,c))))))
 (
  kr ([]:List Int) false 0 0)
 (
  cond (lk N (!(decide (b=a))))
  (
   kr ([]:List Int) false 0 0)
  (
   kn a b c d e))
def Z5{J:Type}(N:Nat)(a b:Int)(c:LI)(d e:Int)(kn:I2 (LI->I4 (LI->Option J))):Option J :=
 kn a b c d e a b c
def Z8{J:Type}(N:Nat)(a b:Int)(c:LI)(d e f h:Int)(i:LI)(kn:LL->I4 (LI->I4 (LI->Option J))):Option J :=
 cond (lk N (bH.P a)) (
  kn (bH.g a) ((bH.g a).length:Int) 0 a b c d e f h i) none
def Z11{J:Type}(N:Nat)(b:LL)(j:LI)(f a c d:Int)(e:LI)(h i l m:Int)(kn:LL->LI->I4 (LI->I4 (Option J)))(k0:LI->I4 (Option J)):Option J :=
 cond (lk N (decide (a<f)))
 (
  cond (lk N (ax a b.length)) (
   cond (lk N (decide (a=0)))
   (
    kn b (bN.g (c,(d,e)) (b.getD a.toNat [])).1.2.2 f (ac (a+1)) c d e h i (bN.g (c,(d,e)) (b.getD a.toNat [])).1.1 (bN.g (c,(d,e)) (b.getD a.toNat [])).1.2.1)
   (
    cond (lk N (decide ((eQ.g (bN.g (c,(d,e)) (b.getD a.toNat [])).1.2.2 j)<0)))
    (
     kn b (bN.g (c,(d,e)) (b.getD a.toNat [])).1.2.2 f (ac (a+1)) c d e h i (bN.g (c,(d,e)) (b.getD a.toNat [])).1.1 (bN.g (c,(d,e)) (b.getD a.toNat [])).1.2.1)
    (
     kn b j f (ac (a+1)) c d e h i l m))) none)
 (
  k0 j h i l m)
def Z12{J:Type}(N:Nat)(b:LL)(f a c d:Int)(e:LI)(h i l m:Int)(j:LI)(kn:LL->LI->I4 (LI->I4 (Option J)))(k0:LI->I4 (Option J)):Option J :=
 cond (lk N (decide (a<f)))
 (
  cond (lk N (ax a b.length)) (
   cond (lk N (decide (a=0)))
   (
    kn b (bN.g (c,(d,e)) (b.getD a.toNat [])).1.2.2 f (ac (a+1)) c d e h i (bN.g (c,(d,e)) (b.getD a.toNat [])).1.1 (bN.g (c,(d,e)) (b.getD a.toNat [])).1.2.1)
   (
    cond (lk N (decide ((eQ.g (bN.g (c,(d,e)) (b.getD a.toNat [])).1.2.2 j)<0)))
    (
     kn b (bN.g (c,(d,e)) (b.getD a.toNat [])).1.2.2 f (ac (a+1)) c d e h i (bN.g (c,(d,e)) (b.getD a.toNat [])).1.1 (bN.g (c,(d,e)) (b.getD a.toNat [])).1.2.1)
    (
     none))) none)
 (
  none)
def Z10L{J:Type}(N:Nat)(k0:LI->I4 (Option J)):Nat->LL->LI->Int->Int->Int->Int->LI->Int->Int->Int->Int->Option J
 |0,_,_,_,_,_,_,_,_,_,_,_=>none
 |M+1,a,b,c,d,e,f,g,h,i,j,l=>Z11 N a b c d e f g h i j l (λa b c d e f g h i j l=>Z10L N k0 M a b c d e f g h i j l) k0
def Z10 N a b c d e f g h i j l k0:=(Z12 N a b c d e f g h i j l (λa l b c d e f g h i j=>Z10L N k0 N a l b c d e f g h i j) k0:Option J)
def Z9 N a b c d e f g h i j l kn:=(Z10 N a b c d e f g h i j l kn:Option J)
def Z7 N a b c d e f g h kn:=(Z8 N a b c d e f g h (λi j l a b c d e f g h=>Z9 N i j l a b c d e f g h kn):Option J)
def Z13{J:Type}(N:Nat)(a:LI)(d e b c:Int)(kr:LI->Bool->I2 (Option J)):Option J :=
 kr a true b c
def Z6 N f g h a b c d e kr:=(Z7 N f g h a b c d e (λe a b c d=>Z13 N e a b c d kr):Option J)
def Z4 N a b c d e kr:=(Z5 N a b c d e (λa b c d e f g h=>Z6 N a b c d e f g h kr):Option J)
def Z2 N a b c d e kr:=(Z3 N a b c d e (λa b c d e=>Z4 N a b c d e kr) kr:Option J)
def Z0 N a kr:=(Z1 N a (λb c d e f=>Z2 N b c d e f kr):Option J)
def Spec:Prop:=∀ (v0:MT),Ty.bd (.pair (.int .i64) (.pair (.int .i64) (.sl 0 (.int .i64)))) v0->∃N0,∀N,N0<=N->Z0 N v0 (λv2_2 v3 v2_0 v2_1=>some ((),((v2_0,(v2_1,v2_2)),(v3,()))))=some ((),((g v0).1,((g v0).2,())))
def ER{m:Int×Int×List Int}(hok:(bn m&&!decide (bq m=[]))=true){o:List Int}(ho:dF o m.1=true):bN.g (m.1,(m.2.1,m.2.2)) o=(b9 m o,true):=by unfold bN.g;rw[if_pos];rw[show(m.1,(m.2.1,m.2.2))=m from rfl,hok,ho];rfl
def loop{J:Type}{N:Nat}{m:Int×Int×List Int}(hok:(bn m&&!decide (bq m=[]))=true){l:List (List Int)}(hl:∀o∈l,dF o m.1=true)(hl2:l.length<=4000)(k0:List Int->Int->Int->Int->Int->Option J)(t0 t1:Int) :
  ∀(M j:Nat) (b:List Int),1<=j->j<=l.length->l.length-j<M->Z10L N k0 M l b (l.length:Int) (j:Int) m.1 m.2.1 m.2.2 t0 t1 m.1 m.2.1=k0 (cU (ca m) b (l.drop j)) t0 t1 m.1 m.2.1:=by
 intro M;induction M with
 |zero=>intro j b _ _ h;omega
 |succ M ih =>
  intro j b h1 hj hM;simp only[Z10L,Z11];by_cases h:j<l.length;·have e0:=ER hok (hl _ (bO (l:=l) [] h));have e1:decide ((eQ.g (ca m (l.getD j [])) b)<0)=bK (ca m (l.getD j [])) b:=tl _ _;rw[ct (dt (by omega)),ct (aN h),cf (df (by omega)),Int.toNat_natCast,e0];have e2:((b9 m (l.getD j []),true):(Int×Int×List Int)×Bool).1.2.2=ca m (l.getD j []):=rfl;have e3:((b9 m (l.getD j []),true):(Int×Int×List Int)×Bool).1.1=m.1:=rfl;have e4:((b9 m (l.getD j []),true):(Int×Int×List Int)×Bool).1.2.1=m.2.1:=rfl;rw[e2,e3,e4,e1,aD,bh (by rw[bv];omega),ih (j+1) _ (by omega) h (by omega),ih (j+1) _ (by omega) h (by omega),dB (l:=l) [] h];have e5:cU (ca m) b (l.getD j []::l.drop (j+1))=cU (ca m) (if bK (ca m (l.getD j [])) b=true then ca m (l.getD j [])else b) (l.drop (j+1)):=rfl;rw[e5];cases bK (ca m (l.getD j [])) b<;>rfl
  ·rw[cf (df (by omega)),List.drop_of_length_le (by omega)];rfl
def ok:Spec:=λm hb=>⟨5000,λN hN=>by
 have e0:fB.g (m.1,(m.2.1,m.2.2))=(bn m&&!decide (bq m=[])):=rfl;simp only[Z0,Z1,Z2,Z3,e0,aD,g];cases h1:(bn m&&!decide (bq m=[]));·rfl
 by_cases h2:m.2.1=m.1
 ·have hs:bn m=true:=by simp only[Bool.and_eq_true]at h1;exact h1.1
  have hd:=dE hs;obtain⟨n,r,hn,hr',hn1,hn5,hnr,hr8,hl⟩:=bf hd;have e1:m.1.toNat=n:=by omega
  have hOP:bH.P m.1=true:=by simp only[bH.P,Bool.and_eq_true,decide_eq_true_eq];exact⟨by omega,by omega⟩
  have hO:bH.g m.1=eK n:=by rw[bH.g,e1]
  have hcnt:=DO hn5;have hnm:∀o∈eK n,dF o m.1=true:=λo ho=>by rw[hn];exact oA hn5 ho
  have hid:=tD hn5;rw[dt h2];simp only[Bool.not_true,cond_false,Z4,Z5,Z6,Z7,Z8,hOP,aD,cond_true,hO];simp only[Z9,Z10,Z12];have hca:mV m=(m.1,m.2.1,yF (ca m) (eK n)):=by rw[mV,e1]
  rw[hca];generalize eK n=O at hcnt hnm hid;cases O with
  |nil=>cases hid
  |cons o os =>have e2:=ER h1 (hnm o (List.mem_cons_self ..));have e3:(o::os).getD (0:Int).toNat []=o:=rfl;rw[ct (dt (by simp)),ct (show ax 0 (o::os).length=true from aN (j:=0) (by simp)),ct (show decide True=true from rfl),e3,e2];have hlp:=loop (J:=Unit×(Int×Int×List Int)×Bool×Unit) (N:=N) h1 hnm (by omega) (λbest4_2 t2_0 t2_1 best4_0 best4_1=>Z13 N best4_2 t2_0 t2_1 best4_0 best4_1 (λt2_2 t3 t2_0 t2_1=>some ((),((t2_0,(t2_1,t2_2)),(t3,()))))) 0 0 N 1 (ca m o) (by omega) (by simp) (by omega);exact hlp
 ·rw[df h2];rfl⟩
end cb
namespace strconv_Itoa
def g(n:Int):ByteArray:=cr n
def P(n:Int):Bool:=eH n
def ok:True:=trivial
end strconv_Itoa
namespace gJ
def g(n:Int):ByteArray:=cr n
def P(n:Int):Bool:=eH n
def Z0{J:Type}(N:Nat)(a:Int)(kr:ByteArray->Option J):Option J :=
 cond (lk N (strconv_Itoa.P a)) (
  kr (strconv_Itoa.g a)) none
def Spec:Prop:=∀ (v0:Int),P v0=true->∃N0,∀N,N0<=N->Z0 N v0 (λv2=>some ((),(v2,())))=some ((),((g v0),()))
def ok:Spec:=λn hp=>⟨0,λN hN=>by simp only[Z0];rw[ct (show strconv_Itoa.P n=true from hp)];rfl⟩
end gJ
namespace strings_Join
def g(xs:List ByteArray)(sep:ByteArray):ByteArray:=⟨(Lib.join (xs.map (·.data.toList)) sep.data.toList).toArray⟩
def P(xs:List ByteArray)(sep:ByteArray):Bool:=Nat.ble xs.length 140737488355328&&Nat.ble (Lib.join (xs.map (·.data.toList)) sep.data.toList).length 140737488355328
def ok:True:=trivial
end strings_Join
namespace dn
def g(l:List Int):ByteArray:=eI l
def P(l:List Int):Bool:=li l
def Z1{J:Type}(N:Nat)(a:LI)(kn:LI->Option J):Option J :=
 kn a
def Z3{J:Type}(N:Nat)(a:LI)(kn:LI->Option J):Option J :=
 kn a
def Z6{J:Type}(N:Nat)(a:LI)(kn:LI->I2 (Option J)):Option J :=
 kn a (a.length:Int) 0
def Z9{J:Type}(N:Nat)(c:List ByteArray)(b:LI)(d a:Int)(kn:List ByteArray->LI->I2 (Option J))(k0:List ByteArray->Option J):Option J :=
 cond (lk N (decide (a<d)))
 (
  cond (lk N (ax a b.length)) (
   cond (lk N (gJ.P (b.getD a.toNat 0))) (
    cond (lk N (Nat.blt (c.length+([(gJ.g (b.getD a.toNat 0))]:List ByteArray).length) 1099511627776)) (
     kn (c++([(gJ.g (b.getD a.toNat 0))]:List ByteArray)) b d (ac (a+1))) none) none) none)
 (
  k0 c)
def Z8L{J:Type}(N:Nat)(k0:List ByteArray->Option J):Nat->List ByteArray->LI->Int->Int->Option J
 |0,_,_,_,_=>none
 |M+1,a,b,c,d=>Z9 N a b c d (λa b c d=>Z8L N k0 M a b c d) k0
def Z8 N a b c k0:=(Z8L N k0 N ([]:List ByteArray) a b c:Option J)
def Z7 N a b c kn:=(Z8 N a b c kn:Option J)
def Z5 N a kn:=(Z6 N a (λb c d=>Z7 N b c d kn):Option J)
def Z10{J:Type}(N:Nat)(a:List ByteArray)(kr:ByteArray->Option J):Option J :=
 cond (lk N (strings_Join.P a (⟨#[32]⟩:ByteArray))) (
  kr (strings_Join.g a (⟨#[32]⟩:ByteArray))) none
def Z4 N a kr:=(Z5 N a (λb=>Z10 N b kr):Option J)
def Z2 N a kr:=(Z3 N a (λa=>Z4 N a kr):Option J)
def Z0 N a kr:=(Z1 N a (λa=>Z2 N a kr):Option J)
def Spec:Prop:=∀ (v0:LI),Ty.bd (.sl 0 (.int .i64)) v0->P v0=true->∃N0,∀N,N0<=N->Z0 N v0 (λv2=>some ((),(v2,())))=some ((),((g v0),()))
def loop{J:Type}{N:Nat}(k0:List ByteArray->Option J){l:List Int}(hp:li l=true):∀(M j:Nat),j<=l.length->l.length-j<M->Z8L N k0 M ((l.take j).map cr) l (l.length:Int) (j:Int)=k0 (l.map cr):=by
 simp only[li,Bool.and_eq_true,decide_eq_true_eq]at hp;intro M;induction M with
 |zero=>intro j _ h;omega
 |succ M ih =>
  intro j hj hM;simp only[Z8L,Z9];by_cases h:j<l.length
  ·have h1:gJ.P (l.getD j 0)=true:=List.all_eq_true.1 hp.2 _ (bO 0 h);have h2:gJ.g (l.getD j 0)=cr (l.getD j 0):=rfl;have h3:∀x:ByteArray,Nat.blt (((l.take j).map cr).length+([x]:List ByteArray).length) 1099511627776=true:=λx=>Nat.ble_eq_true_of_le (by simp;omega);rw[ct (dt (by omega)),ct (aN h),Int.toNat_natCast,ct h1,h2,ct (h3 _),bh (by rw[bv];omega)];have e:(l.take j).map cr++[cr (l.getD j 0)]=(l.take (j+1)).map cr:=by rw[<-ym 0 h,List.map_append];rfl
   rw[e];exact ih (j+1) h (by omega)
  ·rw[cf (df (by omega)),List.take_of_length_le (by omega)]
def ok:Spec:=λl hb hp=>⟨l.length+1,λN hN=>by
 have hp':=hp;simp only[P,li,Bool.and_eq_true,decide_eq_true_eq]at hp';simp only[Z1,Z3,Z6,Z9,Z8,Z7,Z5,Z10,Z4,Z2,Z0];refine(loop _ hp N 0 (Nat.zero_le _) (by omega)).trans ?_;have e:((l.map cr).map (·.data.toList))=l.map Lib.itoa:=by rw[List.map_map];exact List.map_congr_left λn _=>yu n
 have hlen:=Dp hp'.2;have e2:(⟨#[32]⟩:ByteArray).data.toList=[32]:=rfl;have hP:strings_Join.P (l.map cr) ⟨#[32]⟩=true:=by simp only[strings_Join.P,e,e2,Bool.and_eq_true,List.length_map];exact⟨Nat.ble_eq_true_of_le (by omega),Nat.ble_eq_true_of_le (show(eB l).length<=_ by omega)⟩
 have hg:strings_Join.g (l.map cr) ⟨#[32]⟩=eI l:=by simp only[strings_Join.g,e,e2];rfl
 rw[ct hP,hg];rfl⟩
end dn
namespace bQ
def P(m:Int×Int×List Int)(k:Int):Bool:=bn m&&(decide (0<=k)&&decide (k<m.1))
def g(m:Int×Int×List Int)(k:Int):Int×Int×List Int:=aU m k.toNat
def Z1{J:Type}(N:Nat)(a:MT)(b:Int)(kn:I3 (LI->I2 (Option J))):Option J :=
 kn b a.1 a.2.1 a.2.2 0 0
def Z3{J:Type}(N:Nat)(d b c:Int)(a:LI)(e f:Int)(kn:LI->I3 (LI->I4 (Option J))):Option J :=
 ce (
  cond (lk N (cZ.P a)) (
   bo (
    kn (cZ.g a) d b c a e f b c)) none)
 (
  cond (lk N (cZ.P a)) (
   kn (cZ.g a) d b c a e f b c) none)
def Z6{J:Type}(N:Nat)(a:LI)(b c d:Int)(e:LI)(f g h i:Int)(kn:LI->I4 (LI->I4 (Option J))):Option J :=
 kn a b 0 c d e f g h i
def Z10{J:Type}(N:Nat)(a:LI)(h b i c:Int)(j:LI)(d e f g:Int)(kn:LI->I4 (LI->I4 (Option J)))(k0:LI->I4 (Option J)):Option J :=
 cond (lk N (decide (b<c)))
 (
  kn a h b i c j d e f g)
 (
  k0 a d e f g)
def Z14{J:Type}(N:Nat)(a:LI)(b c d e:Int)(f:LI)(g h i j:Int)(kn:LI->I5 (LI->I4 (Option J))):Option J :=
 kn a b c 0 d e f g h i j
def Z18{J:Type}(N:Nat)(b:LI)(c d e a f:Int)(g:LI)(h i j l:Int)(kn:LI->I5 (LI->I4 (Option J)))(k2:LI->I4 (LI->I4 (Option J))):Option J :=
 cond (lk N (decide (e<a)))
 (
  kn b c d e a f g h i j l)
 (
  k2 b c d a f g h i j l)
def Z22{J:Type}(N:Nat)(d:LI)(e a b c f:Int)(g:LI)(h i j l:Int)(kn:LI->I6 (LI->I4 (Option J))):Option J :=
 cond (lk N (ax (ac ((ac (a*c))+b)) d.length)) (
  kn d e a b (ac ((ac (a*c))+b)) c f g h i j l) none
def Z24{J:Type}(N:Nat)(h:LI)(a e f i b c:Int)(d:LI)(j l m o:Int)(kn:LI->I8 (LI->I4 (Option J))):Option J :=
 cond (lk N (cS.P (b,(c,d)) e a)) (
  cond (lk N (cS.P (b,(c,d)) a f)) (
   kn h a e f i (cS.g (b,(c,d)) e a) (cS.g (b,(c,d)) a f) b c d j l m o) none) none
def Z27{J:Type}(N:Nat)(d:LI)(a b c e f g h i:Int)(j:LI)(l m o p:Int)(kn:LI->I6 (Bool->I2 (LI->I4 (Option J)))):Option J :=
 cond (lk N (decide (b=a)))
 (
  kn d a b c e f g true h i j l m o p)
 (
  kn d a b c e f g (lk N (decide (c=a))) h i j l m o p)
def Z28{J:Type}(N:Nat)(a:LI)(b c d e o p:Int)(q:Bool)(f g:Int)(h:LI)(i j l m:Int)(kn:LI->I5 (LI->I4 (Option J))):Option J :=
 cond (q)
 (
  kn (a.set e.toNat (ac (0-(a.getD e.toNat 0)))) b c d f g h i j l m)
 (
  cond (lk N (decide (0<o)))
  (
   cond (lk N (decide (0<p)))
   (
    kn (a.set e.toNat (ac ((a.getD e.toNat 0)+(ac (o*p))))) b c d f g h i j l m)
   (
    cond (lk N (decide (o<0)))
    (
     cond (lk N (decide (p<0)))
     (
      kn (a.set e.toNat (ac ((a.getD e.toNat 0)-(ac (o*p))))) b c d f g h i j l m)
     (
      kn a b c d f g h i j l m))
    (
     kn a b c d f g h i j l m)))
  (
   cond (lk N (decide (o<0)))
   (
    cond (lk N (decide (p<0)))
    (
     kn (a.set e.toNat (ac ((a.getD e.toNat 0)-(ac (o*p))))) b c d f g h i j l m)
    (
     kn a b c d f g h i j l m))
   (
    kn a b c d f g h i j l m)))
def Z26 N a b c d e f g h i j l m o p kn:=(Z27 N a b c d e f g h i j l m o p (λa b c d e f g q h i j l m o p=>Z28 N a b c d e f g q h i j l m o p kn):Option J)
def Z25 N a b c d e f g h i j l m o p kn:=(Z26 N a b c d e f g h i j l m o p kn:Option J)
def Z23 N a b c d e f g h i j l m kn:=(Z24 N a b c d e f g h i j l m (λa b c d e o p f g h i j l m=>Z25 N a b c d e o p f g h i j l m kn):Option J)
def Z21 N a b c d e f g h i j l kn:=(Z22 N a b c d e f g h i j l (λa b c d m e f g h i j l=>Z23 N a b c d m e f g h i j l kn):Option J)
def Z20 N a b c d e f g h i j l kn:=(Z21 N a b c d e f g h i j l kn:Option J)
def Z29{J:Type}(N:Nat)(a:LI)(b c d e f:Int)(g:LI)(h i j l:Int)(kn:LI->I5 (LI->I4 (Option J))):Option J :=
 kn a b c (ac (d+1)) e f g h i j l
def Z19 N a b c d e f g h i j l kn:=(Z20 N a b c d e f g h i j l (λa b c d e f g h i j l=>Z29 N a b c d e f g h i j l kn):Option J)
def Z17 N a b c d e f g h i j l kn k2:=(Z18 N a b c d e f g h i j l (λa b c d e f g h i j l=>Z19 N a b c d e f g h i j l kn) k2:Option J)
def Z16L{J:Type}(N:Nat)(k2:LI->I4 (LI->I4 (Option J))):Nat->LI->Int->Int->Int->Int->Int->LI->Int->Int->Int->Int->Option J
 |0,_,_,_,_,_,_,_,_,_,_,_=>none
 |M+1,a,b,c,d,e,f,g,h,i,j,l=>Z17 N a b c d e f g h i j l (λa b c d e f g h i j l=>Z16L N k2 M a b c d e f g h i j l) k2
def Z16 N a b c d e f g h i j l k2:=(Z16L N k2 N a b c d e f g h i j l:Option J)
def Z15 N a b c d e f g h i j l kn:=(Z16 N a b c d e f g h i j l kn:Option J)
def Z13 N a b c d e f g h i j kn:=(Z14 N a b c d e f g h i j (λa b c l d e f g h i j=>Z15 N a b c l d e f g h i j kn):Option J)
def Z12 N a b c d e f g h i j kn:=(Z13 N a b c d e f g h i j kn:Option J)
def Z30{J:Type}(N:Nat)(a:LI)(b c d e:Int)(f:LI)(g h i j:Int)(kn:LI->I4 (LI->I4 (Option J))):Option J :=
 kn a b (ac (c+1)) d e f g h i j
def Z11 N a b c d e f g h i j kn:=(Z12 N a b c d e f g h i j (λa b c d e f g h i j=>Z30 N a b c d e f g h i j kn):Option J)
def Z9 N a b c d e f g h i j kn k0:=(Z10 N a b c d e f g h i j (λa b c d e f g h i j=>Z11 N a b c d e f g h i j kn) k0:Option J)
def Z8L{J:Type}(N:Nat)(k0:LI->I4 (Option J)):Nat->LI->Int->Int->Int->Int->LI->Int->Int->Int->Int->Option J
 |0,_,_,_,_,_,_,_,_,_,_=>none
 |M+1,a,b,c,d,e,f,g,h,i,j=>Z9 N a b c d e f g h i j (λa b c d e f g h i j=>Z8L N k0 M a b c d e f g h i j) k0
def Z8 N a b c d e f g h i j k0:=(Z8L N k0 N a b c d e f g h i j:Option J)
def Z7 N a b c d e f g h i j kn:=(Z8 N a b c d e f g h i j kn:Option J)
def Z5 N a b c d e f g h i kn:=(Z6 N a b c d e f g h i (λa b j c d e f g h i=>Z7 N a b j c d e f g h i kn):Option J)
def Z31{J:Type}(N:Nat)(a:LI)(d e b c:Int)(kr:LI->I2 (Option J)):Option J :=
 kr a b c
def Z4 N a f g h i b c d e kr:=(Z5 N a f g h i b c d e (λa b c d e=>Z31 N a b c d e kr):Option J)
def Z2 N a b c d e f kr:=(Z3 N a b c d e f (λg a b c d e f h i=>Z4 N g a b c d e f h i kr):Option J)
def Z0 N b a kr:=(Z1 N b a (λa c d e f g=>Z2 N a c d e f g kr):Option J)
def Spec:Prop:=∀ (v0:MT) (v1:Int),Ty.bd (.pair (.int .i64) (.pair (.int .i64) (.sl 0 (.int .i64)))) v0->P v0 v1=true->∃N0,∀N,N0<=N->Z0 N v0 v1 (λv4_2 v4_0 v4_1=>some ((),((v4_0,(v4_1,v4_2)),())))=some ((),((g v0 v1),()))
section
variable {J : Type} {N : Nat} {m : Int × Int × List Int} {k : Nat}
def at_g(hd:0<=m.1)(a b:Nat):cS.g (m.1,(m.2.1,m.2.2)) (a:Int) (b:Int)=aj m a b:=jE hd a b
def at_p(hd:aO m=true){a b:Nat}(ha:a<m.2.1.toNat)(hb:b<m.1.toNat):cS.P (m.1,(m.2.1,m.2.2)) (a:Int) (b:Int)=true:=jF hd ha hb
def cur(m:Int×Int×List Int)(k p:Nat):List Int:=fR m.2.2.length p (jI m k) (λp=>m.2.2.getD p 0)
def inner(hs:bn m=true)(hk:k<m.1.toNat)(k2:List Int->Int->Int->Int->Int->List Int->Int->Int->Int->Int->Option J)(t0 t1 o0 o1:Int){i:Nat}(hi:i<m.2.1.toNat):∀(M j:Nat),j<=m.1.toNat->m.1.toNat-j<M ->
  Z16L N k2 M (cur m k (i*m.1.toNat+j)) (k:Int) (i:Int) (j:Int) m.1 m.2.1 m.2.2 t0 t1 o0 o1=k2 (cur m k (i*m.1.toNat+m.1.toNat)) (k:Int) (i:Int) m.1 m.2.1 m.2.2 t0 t1 o0 o1:=by
 have hd:=dE hs;obtain⟨n,r,hn,hr,hn1,hn5,hnr,hr8,hl⟩:=bf hd;intro M;induction M with
 |zero=>intro j _ h;omega
 |succ M ih =>
  intro j hj hM;simp only[Z16L,Z17,Z18];by_cases h:j<m.1.toNat
  ·have hlt:i*m.1.toNat+j<m.2.2.length:=by have:=hY (n:=n) (r:=r) (i:=i) (j:=j) (by omega) (by omega);rw[hl,hn];exact this
   have hidx:ac (ac ((i:Int)*m.1)+(j:Int))=((i*m.1.toNat+j:Nat):Int):=by
    have e:(i:Int)*m.1=((i*m.1.toNat:Nat):Int):=by rw[hn,Int.natCast_mul];simp
    have hb:i*m.1.toNat<=8*5:=Nat.mul_le_mul (by omega) (by omega);have e2:ac (((i*m.1.toNat:Nat):Int))=((i*m.1.toNat:Nat):Int):=aM (by omega) (by omega);rw[e,e2,aM (by omega) (by omega)];omega
   have b1:=gE hs i j;have b2:=gE hs i k;have b3:=gE hs k j;have hbc:=DB (f:=false) b1 b2 b3;have hF:=yz (m:=m) (k:=k) (i:=i) h;have hcl:(cur m k (i*m.1.toNat+j)).length=m.2.2.length:=qA;have hset:∀v,v=jI m k (i*m.1.toNat+j)->(cur m k (i*m.1.toNat+j)).set (i*m.1.toNat+j) v=cur m k (i*m.1.toNat+(j+1)):=λv hv=>by subst hv;exact De hlt
   have hsame:jI m k (i*m.1.toNat+j)=aj m i j->cur m k (i*m.1.toNat+j)=cur m k (i*m.1.toNat+(j+1)):=λhv=>(DD hv).symm;have iB:ax (((i*m.1.toNat+j:Nat):Int)) (cur m k (i*m.1.toNat+j)).length=true:=aN (by rw[hcl];exact hlt);have pij:=at_p hd hi h;rw[ct (dt (by omega))];simp only[Z19,Z20,Z21,Z22,Z23,Z24,Z25];have fin:∀c,c=cur m k (i*m.1.toNat+(j+1))->Z29 N c (k:Int) (i:Int) (j:Int) m.1 m.2.1 m.2.2 t0 t1 o0 o1 (λout5_2 k1 i6 j7 m2_0 m2_1 m2_2 t4_0 t4_1 out5_0 out5_1=>Z16L N k2 M out5_2 k1 i6 j7 m2_0 m2_1 m2_2 t4_0 t4_1 out5_0 out5_1)=k2 (cur m k (i*m.1.toNat+m.1.toNat)) (k:Int) (i:Int) m.1 m.2.1 m.2.2 t0 t1 o0 o1:=by intro c hc;subst hc;simp only[Z29];rw[bh (by rw[bv];omega)];exact ih (j+1) h (by omega)
   have hcg:(cur m k (i*m.1.toNat+j)).getD (i*m.1.toNat+j) 0=aj m i j:=by refine(No hlt 0).trans ?_;rw[if_neg (by omega)];rfl
   rw[hidx,ct iB,ct (at_p hd hi hk),ct (at_p hd (show k<m.2.1.toNat by omega) h),at_g (by omega),at_g (by omega)];simp only[Z26,Z27,Z28,Int.toNat_natCast,hcg];by_cases hik:i=k;·rw[ct (dt (by omega)),gi rfl,aM (by omega) (by omega)];refine fin _ (hset _ ?_);rw[hF,dt hik,Int.zero_sub];rfl
   ·rw[cf (df (by omega))];by_cases hjk:j=k;·rw[gi (by rw[aD];exact dt (by omega)),aM (by omega) (by omega)];refine fin _ (hset _ ?_);rw[hF,df hik,dt hjk,Int.zero_sub];rfl
    ·rw[fI (by rw[aD];exact df (by omega))];rw[df hik,df hjk]at hF;simp only[ki,Bool.or_self,Bool.false_eq_true,if_false]at hF;have wbc:ac (aj m i k*aj m k j)=aj m i k*aj m k j:=aM (by omega) (by omega);rw[wbc];by_cases a1:0<aj m i k
     ·rw[ct (dt a1)];by_cases a2:0<aj m k j;·rw[ct (dt a2),aM (by omega) (by omega)];refine fin _ (hset _ ?_);rw[hF,if_pos ⟨a1,a2⟩]
      ·rw[cf (df a2),cf (df (by omega))];refine fin _ (hsame ?_);rw[hF,if_neg (by omega),if_neg (by omega)]
     ·rw[cf (df a1)];by_cases a2:aj m i k<0
      ·rw[ct (dt a2)];by_cases a3:aj m k j<0;·rw[ct (dt a3),aM (by omega) (by omega)];refine fin _ (hset _ ?_);rw[hF,if_neg (by omega),if_pos ⟨a2,a3⟩]
       ·rw[cf (df a3)];refine fin _ (hsame ?_);rw[hF,if_neg (by omega),if_neg (by omega)]
      ·rw[cf (df a2)];refine fin _ (hsame ?_);rw[hF,if_neg (by omega),if_neg (by omega)]
  ·rw[cf (df (by omega)),show j=m.1.toNat by omega]
def outer(hN:10<=N)(hs:bn m=true)(hk:k<m.1.toNat)(k0:List Int->Int->Int->Int->Int->Option J)(t0 t1 o0 o1:Int):∀(M i:Nat),i<=m.2.1.toNat->m.2.1.toNat-i<M ->
  Z8L N k0 M (cur m k (i*m.1.toNat)) (k:Int) (i:Int) m.1 m.2.1 m.2.2 t0 t1 o0 o1=k0 (cur m k (m.2.1.toNat*m.1.toNat)) t0 t1 o0 o1:=by
 have hd:=dE hs;obtain⟨n,r,hn,hr,hn1,hn5,hnr,hr8,hl⟩:=bf hd;intro M;induction M with
 |zero=>intro i _ h;omega
 |succ M ih =>
  intro i hi hM;simp only[Z8L,Z9,Z10];by_cases h:i<m.2.1.toNat;·rw[ct (dt (by omega))];simp only[Z11,Z12,Z13,Z14,Z15,Z16];have hin:=inner (J:=J) (N:=N) hs hk (λout5_2 k1 i6 m2_0 m2_1 m2_2 t4_0 t4_1 out5_0 out5_1=>Z30 N out5_2 k1 i6 m2_0 m2_1 m2_2 t4_0 t4_1 out5_0 out5_1 (λout5_2 k1 i6 m2_0 m2_1 m2_2 t4_0 t4_1 out5_0 out5_1=>Z8L N k0 M out5_2 k1 i6 m2_0 m2_1 m2_2 t4_0 t4_1 out5_0 out5_1)) t0 t1 o0 o1 h N 0 (by omega) (by omega);rw[show((0:Nat):Int)=0 from rfl,Nat.add_zero]at hin;rw[hin];simp only[Z30];rw[bh (by rw[bv];omega)];have:=ih (i+1) h (by omega);rw[Nat.add_mul,Nat.one_mul]at this;exact this
  ·rw[cf (df (by omega)),show i=m.2.1.toNat by omega]
end
def ok:Spec:=λm k hb hp=>⟨10,λN hN=>by
 simp only[P,Bool.and_eq_true,decide_eq_true_eq]at hp;obtain⟨hs,h0,h1⟩:=hp;obtain⟨x,rfl⟩:=Int.eq_ofNat_of_zero_le h0;have hd:=dE hs;obtain⟨n,r,hn,hr,hn1,hn5,hnr,hr8,hl⟩:=bf hd;have hlen:m.2.2.length<=8*5:=by rw[hl];exact Nat.mul_le_mul hr8 hn5
 simp only[Z0,Z1,Z2,Z3];rw[ct (show cZ.P m.2.2=true from dt (by omega)),ct (show cZ.P m.2.2=true from dt (by omega))];simp only[bo,fG];simp only[Z4,Z5,Z6,Z7,Z8];have hstart:cur m x 0=m.2.2:=by unfold cur;rw[Df];exact qB 0 rfl
 have hend:cur m x (m.2.1.toNat*m.1.toNat)=(aU m x).2.2:=by
  have e:m.2.1.toNat*m.1.toNat=m.2.2.length:=by rw[hl,hn,hr];simp
  rw[e];exact Dg
 have:=outer (J:=Unit×(Int×Int×List Int)×Unit) hN hs (show x<m.1.toNat by omega) (λout5_2 t4_0 t4_1 out5_0 out5_1=>Z31 N out5_2 t4_0 t4_1 out5_0 out5_1 (λt4_2 t4_0 t4_1=>some ((),((t4_0,(t4_1,t4_2)),())))) 0 0 m.1 m.2.1 N 0 (by omega) (by omega);rw[Nat.zero_mul,hstart,hend]at this;exact this⟩
end bQ
namespace cu
def g(m:Int×Int×List Int)(k:Int):(Int×Int×List Int)×Bool :=
 if((bn m&&!decide (bq m=[]))&&(bz k 0 (m.1-1)&&(bn (aU m k.toNat)&&!decide (bq (aU m k.toNat)=[]))))=true then(aU m k.toNat,true)else((0,0,[]),false)
def Z0{J:Type}(N:Nat)(a:MT)(b:Int)(kr:LI->Bool->I2 (Option J)):Option J :=
 cond (!(lk N ((fB.g a))))
 (
  kr ([]:List Int) false 0 0)
 (
  cond (!(lk N ((f9.g b 0 (ac (a.1-1))))))
  (
   kr ([]:List Int) false 0 0)
  (
   cond (lk N (bQ.P a b)) (
    cond (!(lk N ((fB.g (bQ.g a b)))))
    (
     kr ([]:List Int) false 0 0)
    (
     kr (bQ.g a b).2.2 true (bQ.g a b).1 (bQ.g a b).2.1)) none))
def Spec:Prop:=∀ (v0:MT) (v1:Int),Ty.bd (.pair (.int .i64) (.pair (.int .i64) (.sl 0 (.int .i64)))) v0->∃N0,∀N,N0<=N->Z0 N v0 v1 (λv4_2 v5 v4_0 v4_1=>some ((),((v4_0,(v4_1,v4_2)),(v5,()))))=some ((),((g v0 v1).1,((g v0 v1).2,())))
def ok:Spec:=λm k hb=>⟨0,λN hN=>by
 simp only[Z0,aD,g,fB.g,f9.g];cases h1:(bn m&&!decide (bq m=[]));·rfl
 have hs:bn m=true:=by simp only[Bool.and_eq_true]at h1;exact h1.1
 have hd:=dE hs;obtain⟨n,r,hn,hr,hn1,hn5,hnr,hr8,hl⟩:=bf hd;rw[aM (by omega) (by omega)];cases h2:bz k 0 (m.1-1);·rfl
 have h3:=cC.1 h2;have hP:bQ.P m k=true:=by simp only[bQ.P,Bool.and_eq_true,decide_eq_true_eq];exact⟨hs,by omega,by omega⟩
 rw[hP];have hg:bQ.g m k=aU m k.toNat:=rfl;rw[hg];cases(bn (aU m k.toNat)&&!decide (bq (aU m k.toNat)=[]))<;>rfl⟩
end cu
namespace nA
def g(a b:Int×Int×List Int):Int:=hU a.2.2 b.2.2
def Z0{J:Type}(N:Nat)(a b:MT)(kr:Int->Option J):Option J :=
 kr (eQ.g a.2.2 b.2.2)
def Spec:Prop:=∀ (v0 v1:MT),Ty.bd (.pair (.int .i64) (.pair (.int .i64) (.sl 0 (.int .i64)))) v0->Ty.bd (.pair (.int .i64) (.pair (.int .i64) (.sl 0 (.int .i64)))) v1->∃N0,∀N,N0<=N->Z0 N v0 v1 (λv4=>some ((),(v4,())))=some ((),((g v0 v1),()))
def ok:Spec:=λa b ha hb=>⟨0,λN hN=>rfl⟩
end nA
namespace ju
abbrev g(l:List (Int×Int×List Int))(u:Unit):List (Int×Int×List Int):=ko l
abbrev P(l:List (Int×Int×List Int))(u:Unit):Bool:=Nat.blt 0 l.length&&Nat.blt l.length 4611686018427387904
def ok:True:=trivial
end ju
namespace b7
def g(m:Int×Int×List Int):List (Int×Int×List Int)×Bool:=dG m
def Z1{J:Type}(N:Nat)(a:MT)(kn:I2 (LI->Option J)):Option J :=
 kn a.1 a.2.1 a.2.2
def Z3{J:Type}(N:Nat)(a b:Int)(c:LI)(kn:LI->Bool->I2 (LI->I2 (Option J))):Option J :=
 kn (cb.g (a,(b,c))).1.2.2 (lk N ((cb.g (a,(b,c))).2)) a b c (cb.g (a,(b,c))).1.1 (cb.g (a,(b,c))).1.2.1
def Z5{J:Type}(N:Nat)(a:LI)(b:Bool)(c d:Int)(e:LI)(f g:Int)(kn:LI->I2 (LI->I2 (Option J)))(kr:LM->Bool->Option J):Option J :=
 cond (!(b))
 (
  kr ([]:List (MT)) false)
 (
  kn a c d e f g)
def Z7{J:Type}(N:Nat)(a:LI)(d e:Int)(f:LI)(b c:Int)(kn:LM->I2 (LI->I2 (LI->Option J))):Option J :=
 kn ([(b,(c,a))]:List (MT)) d e f b c a
def Z9{J:Type}(N:Nat)(b:LM)(c d:Int)(e:LI)(f h:Int)(a:LI)(kn:LM->I2 (LI->List ByteArray->Option J)):Option J :=
 cond (lk N (dn.P a)) (
  kn b c d e (iX ([]:List ByteArray) (dn.g a))) none
def Z12{J:Type}(N:Nat)(a:LM)(b c:Int)(d:LI)(e:List ByteArray)(kn:LM->I3 (LI->List ByteArray->Option J)):Option J :=
 kn a 0 b c d e
def Z16{J:Type}(N:Nat)(a:LM)(b c d:Int)(e:LI)(f:List ByteArray)(kn:LM->I3 (LI->List ByteArray->Option J))(k0:LM->Option J):Option J :=
 cond (lk N (decide (b<(a.length:Int))))
 (
  kn a b c d e f)
 (
  k0 a)
def Z20{J:Type}(N:Nat)(a:LM)(b c d:Int)(e:LI)(f:List ByteArray)(kn:LM->I4 (LI->List ByteArray->Option J)):Option J :=
 kn a b 0 c d e f
def Z23{J:Type}(N:Nat)(a:LM)(b c d f:Int)(h:LI)(e:List ByteArray)(kn:LM->I4 (LI->List ByteArray->Option J))(k2:LM->I3 (LI->List ByteArray->Option J))(kr:LM->Bool->Option J):Option J :=
 cond (lk N (decide (c<d)))
 (
  cond (lk N (ax b a.length)) (
   cond (!(lk N ((cu.g (a.getD b.toNat (0,(0,[]))) c).2)))
   (
    kr ([]:List (MT)) false)
   (
    cond (lk N (dn.P (cb.g (cu.g (a.getD b.toNat (0,(0,[]))) c).1).1.2.2)) (
     cond (!(lk N (fE e (dn.g (cb.g (cu.g (a.getD b.toNat (0,(0,[]))) c).1).1.2.2))))
     (
      cond (lk N (Nat.blt (a.length+([(cb.g (cu.g (a.getD b.toNat (0,(0,[]))) c).1).1]:List (MT)).length) 1099511627776)) (
       cond (lk N (decide (100<((a++([(cb.g (cu.g (a.getD b.toNat (0,(0,[]))) c).1).1]:List (MT))).length:Int))))
       (
        kr ([]:List (MT)) false)
       (
        kn (a++([(cb.g (cu.g (a.getD b.toNat (0,(0,[]))) c).1).1]:List (MT))) b (ac (c+1)) d f h (iX e (dn.g (cb.g (cu.g (a.getD b.toNat (0,(0,[]))) c).1).1.2.2)))) none)
     (
      cond (lk N (decide (100<(a.length:Int))))
      (
       kr ([]:List (MT)) false)
      (
       kn a b (ac (c+1)) d f h e))) none)) none)
 (
  k2 a b d f h e)
def Z22L{J:Type}(N:Nat)(k2:LM->I3 (LI->List ByteArray->Option J))(kr:LM->Bool->Option J):Nat->LM->Int->Int->Int->Int->LI->List ByteArray->Option J
 |0,_,_,_,_,_,_,_=>none
 |M+1,a,b,c,d,e,f,g=>Z23 N a b c d e f g (λa b c d e f g=>Z22L N k2 kr M a b c d e f g) k2 kr
def Z22 N a b c d e f g k2 kr:=(Z22L N k2 kr N a b c d e f g:Option J)
def Z21 N a b c d e f g kn kr:=(Z22 N a b c d e f g kn kr:Option J)
def Z19 N a b c d e f kn kr:=(Z20 N a b c d e f (λa b g c d e f=>Z21 N a b g c d e f kn kr):Option J)
def Z18 N a b c d e f kn kr:=(Z19 N a b c d e f kn kr:Option J)
def Z24{J:Type}(N:Nat)(a:LM)(b c d:Int)(e:LI)(f:List ByteArray)(kn:LM->I3 (LI->List ByteArray->Option J)):Option J :=
 kn a (ac (b+1)) c d e f
def Z17 N a b c d e f kn kr:=(Z18 N a b c d e f (λa b c d e f=>Z24 N a b c d e f kn) kr:Option J)
def Z15 N a b c d e f kn k0 kr:=(Z16 N a b c d e f (λa b c d e f=>Z17 N a b c d e f kn kr) k0:Option J)
def Z14L{J:Type}(N:Nat)(k0:LM->Option J)(kr:LM->Bool->Option J):Nat->LM->Int->Int->Int->LI->List ByteArray->Option J
 |0,_,_,_,_,_,_=>none
 |M+1,a,b,c,d,e,f=>Z15 N a b c d e f (λa b c d e f=>Z14L N k0 kr M a b c d e f) k0 kr
def Z14 N a b c d e f k0 kr:=(Z14L N k0 kr N a b c d e f:Option J)
def Z13 N a b c d e f kn kr:=(Z14 N a b c d e f kn kr:Option J)
def Z11 N a b c d e kn kr:=(Z12 N a b c d e (λa f b c d e=>Z13 N a f b c d e kn kr):Option J)
def Z25{J:Type}(N:Nat)(a:LM)(kr:LM->Bool->Option J):Option J :=
 cond (lk N (ju.P a ())) (
  kr (ju.g a ()) true) none
def Z10 N a b c d e kr:=(Z11 N a b c d e (λa=>Z25 N a kr) kr:Option J)
def Z8 N a b c d e f g kr:=(Z9 N a b c d e f g (λa b c d h=>Z10 N a b c d h kr):Option J)
def Z6 N a b c d e f kr:=(Z7 N a b c d e f (λg b c d e f a=>Z8 N g b c d e f a kr):Option J)
def Z4 N a g b c d e f kr:=(Z5 N a g b c d e f (λa b c d e f=>Z6 N a b c d e f kr) kr:Option J)
def Z2 N a b c kr:=(Z3 N a b c (λd e a b c f g=>Z4 N d e a b c f g kr):Option J)
def Z0 N a kr:=(Z1 N a (λb c d=>Z2 N b c d kr):Option J)
def Spec:Prop:=∀ (v0:MT),Ty.bd (.pair (.int .i64) (.pair (.int .i64) (.sl 0 (.int .i64)))) v0->∃N0,∀N,N0<=N->Z0 N v0 (λv2 v3=>some ((),(v2,(v3,()))))=some ((),((g v0).1,((g v0).2,())))
def ig(S:List (Int×Int×List Int)):List ByteArray:=S.map λy=>eI y.2.2
def Pf{n:Int}{x y:Int×Int×List Int}(hx:bU n x)(hy:bU n y)(h:eI x.2.2=eI y.2.2):x.2.2=y.2.2:=by
 have ne:∀{x:Int×Int×List Int},bU n x->x.2.2≠[]:=λhx e=>by have:=hx.len.1;rw[e]at this;simp at this
 have rg:∀{x:Int×Int×List Int},bU n x->∀u∈x.2.2,bz u (-999999999) 999999999=true:=λhx u hu=>by have:=hx.ents u hu;rw[cC];omega
 have h1:=Ek (ne hx) (rg hx);have h2:=Ek (ne hy) (rg hy);rw[h,h2]at h1;injection h1 with h1;exact h1.symm
def ES{n:Int}{S:List (Int×Int×List Int)}{y:Int×Int×List Int}(hS:d9 n S)(hy:bU n y):fE (ig S) (eI y.2.2)=eL S y.2.2:=by
 have key:fE (ig S) (eI y.2.2)=true↔eL S y.2.2=true:=by rw[KZ,oE,ig,List.mem_map];exact⟨λ⟨x,hx,e⟩=>⟨x,hx,Pf (hS x hx) hy e⟩,λ⟨x,hx,e⟩=>⟨x,hx,by rw[e]⟩⟩
 cases h:eL S y.2.2
 ·rw[h]at key;cases h2:fE (ig S) (eI y.2.2);·rfl
  ·rw[h2]at key;exact absurd (key.1 rfl) (by simp)
 ·rw[h]at key;exact key.2 rfl
def ET{n:Int}{y:Int×Int×List Int}(hy:bU n y):dn.P y.2.2=true:=by have h1:=hy.len;simp only[dn.P,li,Bool.and_eq_true,decide_eq_true_eq,List.all_eq_true];refine⟨by omega,λu hu=>?_⟩;have:=hy.ents u hu;simp only[gJ.P,eH,Bool.and_eq_true,decide_eq_true_eq];omega
section
variable {J : Type} {N : Nat} {m : Int × Int × List Int} {n : Nat} (hn : m.1 = (n : Int))
include hn
theorem row{k2:List (Int×Int×List Int)->Int->Int->Int->List Int->List ByteArray->Option J}{kr:List (Int×Int×List Int)->Bool->Option J}{a:Nat}{x:Int×Int×List Int}(hx:bU m.1 x) :
  ∀(M r k:Nat) {S:List (Int×Int×List Int)},k+r=n->r<M->d9 m.1 S->S.length<=100->a<S.length->S.getD a z3=x ->
   Z22L N k2 kr M S (a:Int) (k:Int) m.1 m.2.1 m.2.2 (ig S)=match dU x k r S with
    |some S'=>k2 S' (a:Int) m.1 m.2.1 m.2.2 (ig S')
    |none=>kr [] false:=by
 intro M;induction M with
 |zero=>intro r k S _ h;omega
 |succ M ih =>
  intro r k S hk hM hS hl ha hxa;simp only[Z22L,Z23];cases r with
  |zero =>rw[cf (df (by omega))];rfl
  |succ r =>
   have hb5:=hx.bound;have h0:=hx.2.1;obtain⟨d,hR⟩:=hx.1;have hmu:cu.g x (k:Int)=if bg (aU x k)=true then(aU x k,true)else((0,0,[]),false):=by
    have hkk:bz (k:Int) 0 (x.1-1)=true:=by rw[cC];omega
    have hok:=hR.ok;have hal:=yL hok (k:=k) (by omega);unfold cu.g;rw[jL,hok,Int.toNat_natCast];simp only[hal];have:bz (k:Int) 0 (x.1-1)=true:=hkk;first | rw[this];simp | simp[this]
   rw[ct (dt (by omega)),ct (aN ha),Int.toNat_natCast,hxa,hmu];have e1:dU x k (r+1) S=(d8 x k S).bind (dU x (k+1) r):=rfl;rw[e1];cases hz:bg (aU x k);·simp only[Bool.false_eq_true,if_false,aD];unfold d8;rw[hz];rfl
   ·have hf:=hx.mut (k:=k) (by omega) hz;have hfn:=hx.nxt (k:=k) (by omega) hz;have hcan:cb.g (aU x k)=(cE x k,true):=by obtain⟨d',hR'⟩:=hf.1;unfold cb.g;rw[jL,hR'.ok,dt (hf.2.2.trans hf.2.1.symm),Bool.and_self,if_pos rfl,yG hf.dim (hf.2.2.trans hf.2.1.symm)];rfl
    have hk1:dn.g (cE x k).2.2=eI (cE x k).2.2:=rfl;simp only[if_true,aD,hcan,Bool.not_true,cond_false,ET hfn,cond_true,hk1,ES hS hfn];have e2:(eM S (cE x k))=if eL S (cE x k).2.2=true then S else S++[cE x k]:=rfl
    have stp:∀{S':List (Int×Int×List Int)},d8 x k S=some S'->Z22L N k2 kr M S' (a:Int) (ac ((k:Int)+1)) m.1 m.2.1 m.2.2 (ig S')=match(d8 x k S).bind (dU x (k+1) r)with
      |some S'=>k2 S' (a:Int) m.1 m.2.1 m.2.2 (ig S')
      |none=>kr [] false:=by
     intro S' h;obtain⟨e,f1,f2,f3⟩:=yQ hS hx (by omega) h;rw[h,bh (by rw[bv];omega)];exact ih r (k+1) (by omega) (by omega) f1 f3 (by omega) (by rw[e,yP ha,hxa])
    cases hh:eL S (cE x k).2.2
    ·have hb:Nat.blt (S.length+([cE x k]:List (Int×Int×List Int)).length) 1099511627776=true:=Nat.ble_eq_true_of_le (by simp;omega);have hadd:iX (ig S) (eI (cE x k).2.2)=ig (S++[cE x k]):=by unfold iX;rw[ES hS hfn,hh];simp[ig]
     simp only[Bool.not_false,cond_true,hb,hadd];by_cases h100:(S++[cE x k]).length<=100;·rw[df (by omega),cond_false];refine stp ?_;unfold d8;rw[if_pos hz,e2,hh];simp only[Bool.false_eq_true,if_false];rw[if_pos h100]
     ·rw[dt (by omega),cond_true];have:d8 x k S=none:=by unfold d8;rw[if_pos hz,e2,hh];simp only[Bool.false_eq_true,if_false];rw[if_neg h100]
      rw[this];rfl
    ·simp only[Bool.not_true,cond_false];rw[df (by omega),cond_false];refine stp ?_;unfold d8;rw[if_pos hz,e2,hh];simp only[if_true];rw[if_pos hl]
theorem run(hN:4000<=N){k0:List (Int×Int×List Int)->Option J}{kr:List (Int×Int×List Int)->Bool->Option J} :
  ∀(M F a:Nat) {S:List (Int×Int×List Int)},d9 m.1 S->S.length<=100->a<=S.length->101-a<M->101-a<F ->
   Z14L N k0 kr M S (a:Int) m.1 m.2.1 m.2.2 (ig S)=match eN n F a S with
    |some S'=>k0 S'
    |none=>kr [] false:=by
 intro M;induction M with
 |zero=>intro F a S _ _ _ h;omega
 |succ M ih =>
  intro F a S hS hl ha hM hF;obtain⟨F,rfl⟩:∃F',F=F'+1:=⟨F-1,by omega⟩;simp only[Z14L,Z15,Z16];have e1:eN n (F+1) a S=if a<S.length then(dU (S.getD a z3) 0 n S).bind (eN n F (a+1))else some S:=rfl
  rw[e1];by_cases h:a<S.length
  ·rw[ct (dt (by omega)),if_pos h];simp only[Z17,Z18,Z19,Z20,Z21,Z22];have hx:=qM hS h;have hb:=hx.bound;refine(row hn hx N n 0 (by omega) (by omega) hS hl h rfl).trans ?_;cases hr:dU (S.getD a z3) 0 n S with
   |none=>rfl
   |some S' =>obtain⟨f1,f2,f3,f4⟩:=qN hx n 0 (by omega) hS hl hr;simp only[Option.bind_some,Z24];rw[bh (by rw[bv];omega)];exact ih F (a+1) f1 f3 (by omega) (by omega) (by omega)
  ·rw[cf (df (by omega)),if_neg h]
end
def ok:Spec:=λm hb=>⟨9000,λN hN=>by
 simp only[Z0,Z1,Z2,Z3,aD];have e0:((m.1,(m.2.1,m.2.2)):Int×Int×List Int)=m:=rfl;rw[e0];have hcg:cb.g m=if fW m=true then(mV m,true)else((0,0,[]),false):=by unfold cb.g;rw[jL];rfl
 rw[hcg];unfold g dG;cases hp:fW m;·rfl
 ·have hf:=tN hp;obtain⟨b1,b2,_⟩:=hf.bound;obtain⟨n,hn⟩:=Int.eq_ofNat_of_zero_le (show 0<=m.1 by omega);have hcs:mV m=bL m:=yG hf.dim (hf.2.2);have hfc:=hf.can;simp only[if_true,Z4,Z5,Bool.not_true,cond_false,Z6,Z7,Z8,Z9,hcs,aD];have e1:(((bL m).1,((bL m).2.1,(bL m).2.2)):Int×Int×List Int)=bL m:=rfl;have e2:iX ([]:List ByteArray) (dn.g (bL m).2.2)=ig [bL m]:=rfl;rw[e1,e2,ET hfc,cond_true];simp only[Z10,Z11,Z12,Z13,Z14];have hFL:d9 m.1 [bL m]:=λx hx=>by rw[List.mem_singleton.1 hx];exact hfc
  refine(run (J:=Unit×(List (Int×Int×List Int)×(Bool×Unit))) hn (by omega) N 102 0 (S:=[bL m]) hFL (by simp) (Nat.zero_le _) (by omega) (by omega)).trans ?_;have e:fV m=eN n 102 0 [bL m]:=by unfold fV;rw[show m.1.toNat=n by omega]
  rw[<-e];cases hc:fV m with
  |none=>rfl
  |some S =>
   obtain⟨f1,f2,f3⟩:=mX hp hc;have hP:ju.P S ()=true:=by simp only[ju.P,Bool.and_eq_true,Nat.blt_eq];omega
   have hS:ju.g S ()=dw m.1 S:=N9 f1 (DT S) (NZ S);simp only[Z25,hP,aD,cond_true,hS]⟩
end b7
namespace da
def P(f:List Int)(n:Int)(l:List (List Int)):Bool:=decide (0<=n)&&(decide (n<=5)&&(decide (f.length<=n.toNat)&&decide (l.length+5 ^ (n.toNat-f.length)<=4000)))
def g(f:List Int)(n:Int)(l:List (List Int)):List (List Int):=l++dv n.toNat (n.toNat-f.length) f
def mu(f:List Int)(n:Int)(_:List (List Int)):Nat:=n.toNat-f.length
def Z1{J:Type}(N m:Nat)(a:LI)(b:Int)(c:LL)(kn:LI->LL->Int->Option J):Option J :=
 kn a c b
def Z3{J:Type}(N m:Nat)(a:LI)(b:LL)(c:Int)(kn:LI->LL->Int->Option J)(kr:LL->Option J):Option J :=
 cond (lk N (decide ((a.length:Int)=c)))
 (
  cond (lk N (Nat.blt (b.length+([a]:List (LI)).length) 1099511627776)) (
   kr (b++([a]:List (LI)))) none)
 (
  kn a b c)
def Z6{J:Type}(N m:Nat)(a:LI)(b:LL)(c:Int)(kn:LI->LL->I2 (Option J)):Option J :=
 kn a b c 0
def Z9{J:Type}(N m:Nat)(a:LI)(d:LL)(c b:Int)(kn:LI->LL->I2 (Option J))(k0:LL->Option J):Option J :=
 cond (lk N (decide (b<c)))
 (
  cond (!(lk N ((dW.g a b))))
  (
   cond (lk N (dX.P a)) (
    cond (lk N (Nat.blt ((dX.g a).length+([b]:List Int).length) 1099511627776)) (
     cond (lk N (Nat.blt (mu ((dX.g a)++([b]:List Int)) c d) m&&P ((dX.g a)++([b]:List Int)) c d)) (
      kn a (g ((dX.g a)++([b]:List Int)) c d) c (ac (b+1))) none) none) none)
  (
   kn a d c (ac (b+1))))
 (
  k0 d)
def Z8L{J:Type}(N m:Nat)(k0:LL->Option J):Nat->LI->LL->Int->Int->Option J
 |0,_,_,_,_=>none
 |M+1,a,b,c,d=>Z9 N m a b c d (λa b c d=>Z8L N m k0 M a b c d) k0
def Z8 N m a b c d k0:=(Z8L N m k0 N a b c d:Option J)
def Z7 N m a b c d kn:=(Z8 N m a b c d kn:Option J)
def Z5 N m a b c kn:=(Z6 N m a b c (λa b c d=>Z7 N m a b c d kn):Option J)
def Z10{J:Type}(N m:Nat)(a:LL)(kr:LL->Option J):Option J :=
 kr a
def Z4 N m b a c kr:=(Z5 N m b a c (λa=>Z10 N m a kr):Option J)
def Z2 N m a b c kr:=(Z3 N m a b c (λa b c=>Z4 N m a b c kr) kr:Option J)
def Z0 N m a b c kr:=(Z1 N m a b c (λa c b=>Z2 N m a c b kr):Option J)
def Spec:Prop:=∀(m:Nat) (v0:LI) (v1:Int) (v2:LL),Ty.bd (.sl 0 (.int .i64)) v0->Ty.bd (.sl 0 (.sl 0 (.int .i64))) v2->(Nat.blt (mu v0 v1 v2) (m+1)&&P v0 v1 v2)=true->∃N0,∀N,N0<=N->Z0 N m v0 v1 v2 (λv6=>some ((),(v6,())))=some ((),((g v0 v1 v2),()))
def dV(n k:Nat)(f:List Int)(j:Nat):List (List Int):=((List.range n).drop j).flatMap λx=>cond (f.any λy=>decide (y=((x:Nat):Int))) [] (dv n k (f++[((x:Nat):Int)]))
def loop{J:Type}{N m n k q:Nat}(hq:5 ^ k=q)(hn:n<=5){f:List Int}(hf:f.length+(k+1)=n)(hm:k<m)(k0:List (List Int)->Option J):∀(M j:Nat) (l:List (List Int)),j<=n->l.length+(n-j)*q<=4000->n-j<M ->
  Z8L N m k0 M f l (n:Int) (j:Int)=k0 (l++dV n k f j):=by
 intro M;induction M with
 |zero=>intro j l _ _ h;omega
 |succ M ih =>
  intro j l hj hl hM;simp only[Z8L,Z9];by_cases h:j<n
  ·rw[ct (dt (by omega))];have e:(n-j)*q=(n-(j+1))*q+q:=by rw[<-Nat.succ_mul];congr 1;omega
   have hr:dV n k f j=cond (f.any λy=>decide (y=((j:Nat):Int))) [] (dv n k (f++[((j:Nat):Int)]))++dV n k f (j+1):=by unfold dV;rw[iA h,List.flatMap_cons]
   rw[hr,bh (by rw[bv];omega)];have e0:dW.g f (j:Int)=f.any λy=>decide (y=((j:Nat):Int)):=rfl;rw[e0];cases f.any λy=>decide (y=((j:Nat):Int))
   ·have hI:dX.P f=true:=dt (by omega);have hIg:dX.g f=f:=rfl;have hP:(Nat.blt (mu (f++[(j:Int)]) (n:Int) l) m&&P (f++[(j:Int)]) (n:Int) l)=true:=by
     have hlen:(f++[(j:Int)]).length=f.length+1:=by simp
     simp only[mu,P,hlen,Int.toNat_natCast,Bool.and_eq_true,decide_eq_true_eq];refine⟨Nat.ble_eq_true_of_le (by omega),by omega,by omega,by omega, ?_⟩;rw[show n-(f.length+1)=k by omega,hq];omega
    have hg:g (f++[(j:Int)]) (n:Int) l=l++dv n k (f++[(j:Int)]):=by
     have hlen:(f++[(j:Int)]).length=f.length+1:=by simp
     rw[g,hlen,Int.toNat_natCast,show n-(f.length+1)=k by omega]
    have hb:Nat.blt (f.length+([(j:Int)]:List Int).length) 1099511627776=true:=Nat.ble_eq_true_of_le (by simp;omega);have hol:=yD n hn k (f++[(j:Int)]);rw[hq]at hol;rw[aD,gi (show(!false)=true from rfl),ct hI,hIg,ct hb,ct hP,hg,ih (j+1) _ h (by rw[List.length_append];omega) (by omega),cond_false,List.append_assoc]
   ·rw[aD,fI (show(!true)=false from rfl),ih (j+1) l h (by omega) (by omega),cond_true,List.nil_append]
  ·rw[cf (df (by omega)),show j=n by omega];unfold dV;rw[List.drop_of_length_le (by simp)];simp
def ok:Spec:=λm f n l hb hb2 hp=>⟨10,λN hN=>by
 simp only[P,mu,Bool.and_eq_true,decide_eq_true_eq]at hp;obtain⟨h0,h1,h2,h3,h4⟩:=hp;have h0:n.toNat-f.length<m+1:=Nat.le_of_ble_eq_true h0;obtain⟨n,rfl⟩:=Int.eq_ofNat_of_zero_le h1;simp only[Int.toNat_natCast]at h0 h3 h4;have hn:n<=5:=by omega
 simp only[Z0,Z1,Z2,Z3];by_cases h:f.length=n;·have hp:=Nat.pow_pos (a:=5) (n:=n-f.length) (by omega);have hb:Nat.blt (l.length+([f]:List (List Int)).length) 1099511627776=true:=Nat.ble_eq_true_of_le (by simp;omega);rw[ct (dt (by omega)),ct hb,g,Int.toNat_natCast,show n-f.length=0 by omega];rfl
 ·rw[cf (df (by omega))];simp only[Z4,Z5,Z6,Z7,Z8];obtain⟨k,hk⟩:∃k,f.length+(k+1)=n:=⟨n-f.length-1,by omega⟩;have e:n-f.length=k+1:=by omega
  rw[e,Nat.pow_succ]at h4;have h5:n*5 ^ k<=5 ^ k*5:=by rw[Nat.mul_comm];exact Nat.mul_le_mul_left _ hn
  refine(loop rfl hn hk (by omega) _ N 0 l (Nat.zero_le _) (by rw[Nat.sub_zero];exact Nat.le_trans (Nat.add_le_add_left h5 _) h4) (by omega)).trans ?_;rw[g,Int.toNat_natCast,e];rfl⟩
end da
namespace dP
def g(a b:List Int):Bool:=bK a b
def Z1{J:Type}(N:Nat)(a b:LI)(kn:LI->LI->Option J):Option J :=
 kn a b
def Z4{J:Type}(N:Nat)(a b:LI)(kn:LI->LI->Int->Option J):Option J :=
 kn a b 0
def Z7{J:Type}(N:Nat)(b c:LI)(a:Int)(kn:LI->LI->Int->Option J)(k0:LI->LI->Option J)(kr:Bool->Option J):Option J :=
 cond (lk N (decide (a<(b.length:Int))))
 (
  cond (lk N (decide (a<(c.length:Int))))
  (
   cond (lk N (ax a b.length)) (
    cond (lk N (ax a c.length)) (
     cond (lk N (!(decide ((b.getD a.toNat 0)=(c.getD a.toNat 0)))))
     (
      cond (lk N (ax a b.length)) (
       cond (lk N (ax a c.length)) (
        kr (lk N (decide ((b.getD a.toNat 0)<(c.getD a.toNat 0))))) none) none)
     (
      kn b c (ac (a+1)))) none) none)
  (
   k0 b c))
 (
  k0 b c)
def Z6L{J:Type}(N:Nat)(k0:LI->LI->Option J)(kr:Bool->Option J):Nat->LI->LI->Int->Option J
 |0,_,_,_=>none
 |M+1,a,b,c=>Z7 N a b c (λa b c=>Z6L N k0 kr M a b c) k0 kr
def Z6 N a b c k0 kr:=(Z6L N k0 kr N a b c:Option J)
def Z5 N a b c kn kr:=(Z6 N a b c kn kr:Option J)
def Z3 N a b kn kr:=(Z4 N a b (λa b c=>Z5 N a b c kn kr):Option J)
def Z8{J:Type}(N:Nat)(a b:LI)(kr:Bool->Option J):Option J :=
 kr (lk N (decide ((a.length:Int)<(b.length:Int))))
def Z2 N a b kr:=(Z3 N a b (λa b=>Z8 N a b kr) kr:Option J)
def Z0 N a b kr:=(Z1 N a b (λa b=>Z2 N a b kr):Option J)
def Spec:Prop:=∀ (v0 v1:LI),Ty.bd (.sl 0 (.int .i64)) v0->Ty.bd (.sl 0 (.int .i64)) v1->∃N0,∀N,N0<=N->Z0 N v0 v1 (λv4=>some ((),(v4,())))=some ((),((g v0 v1),()))
def loop{J:Type}(N:Nat)(k0:List Int->List Int->Option J)(kr:Bool->Option J)(a b:List Int)(ha:a.length<=maxLen)(h0:k0 a b=kr (decide (a.length<b.length))):∀(M j:Nat),j<=a.length->j<=b.length->a.length-j<M ->
  Z6L N k0 kr M a b (j:Int)=kr (bK (a.drop j) (b.drop j)):=by
 intro M;induction M with
 |zero=>intro j _ _ h;omega
 |succ M ih =>
  intro j hj hb hM;simp only[Z6L,Z7];by_cases h:j<a.length
  ·rw[ct (dt (by omega)),dB 0 h];by_cases h2:j<b.length
   ·rw[ct (dt (by omega)),ct (aN h),ct (aN h2),Int.toNat_natCast,bh (by omega),dB (l:=b) 0 h2,bK,ih (j+1) h h2 (by omega)];by_cases e:a.getD j 0=b.getD j 0;·rw[cf (nf e),if_pos e]
    ·rw[ct (nt e),if_neg e,ct (aN h),ct (aN h2),aD]
   ·rw[cf (df (by omega)),List.drop_of_length_le (l:=b) (by omega),h0,df (by omega)];rfl
  ·rw[cf (df (by omega)),List.drop_of_length_le (by omega),h0];by_cases h2:j<b.length;·rw[dt (by omega),dB (l:=b) 0 h2];rfl
   ·rw[df (by omega),List.drop_of_length_le (l:=b) (by omega)];rfl
def ok:Spec:=λa b ha hb=>⟨a.length+1,λN hN=>by simp only[Z1,Z4,Z7,Z6,Z5,Z3,Z8,Z2,Z0];refine(loop N _ (λt=>some ((),(t,()))) a b ha.1 ?_ N 0 (by omega) (by omega) (by omega)).trans rfl;rw[aD,show decide ((a.length:Int)<(b.length:Int))=decide (a.length<b.length)from decide_eq_decide.2 (by omega)]⟩
end dP
namespace cO
def P(m:Int×Int×List Int):Bool:=aO m&&decide (m.2.1=m.1)
def g(m:Int×Int×List Int):Int×Int×List Int:=bL m
def Z1{J:Type}(N:Nat)(a:MT)(kn:I2 (LI->I2 (Option J))):Option J :=
 kn a.1 a.2.1 a.2.2 0 0
def Z3{J:Type}(N:Nat)(a b:Int)(c:LI)(d e:Int)(kn:LI->I2 (LI->I4 (Option J))):Option J :=
 cond (lk N (dY.P (a,(b,c)))) (
  kn (dY.g (a,(b,c))).2.2 a b c d e (dY.g (a,(b,c))).1 (dY.g (a,(b,c))).2.1) none
def Z5{J:Type}(N:Nat)(b:LI)(a c:Int)(d:LI)(e f h i:Int)(kn:LL->LI->I2 (LI->I4 (Option J))):Option J :=
 cond (lk N (da.P ([]:List Int) a ([]:List (LI)))) (
  kn (da.g ([]:List Int) a ([]:List (LI))) b a c d e f h i) none
def Z8{J:Type}(N:Nat)(a:LL)(b:LI)(c d:Int)(e:LI)(f g h i:Int)(kn:LL->LI->I3 (LI->I4 (Option J))):Option J :=
 kn a b 0 c d e f g h i
def Z11{J:Type}(N:Nat)(a:LL)(f:LI)(b c d:Int)(e:LI)(h i j l:Int)(kn:LL->LI->I3 (LI->I4 (Option J)))(k0:LI->I4 (Option J)):Option J :=
 cond (lk N (decide (b<(a.length:Int))))
 (
  cond (lk N (ax b a.length)) (
   bo (
    cond (lk N (bM.P (c,(d,e)) (a.getD b.toNat []))) (
     cond (lk N ((dP.g (bM.g (c,(d,e)) (a.getD b.toNat [])).2.2 f)))
     (
      kn a (bM.g (c,(d,e)) (a.getD b.toNat [])).2.2 (ac (b+1)) c d e h i (bM.g (c,(d,e)) (a.getD b.toNat [])).1 (bM.g (c,(d,e)) (a.getD b.toNat [])).2.1)
     (
      kn a f (ac (b+1)) c d e h i j l)) none)) none)
 (
  k0 f h i j l)
def Z10L{J:Type}(N:Nat)(k0:LI->I4 (Option J)):Nat->LL->LI->Int->Int->Int->LI->Int->Int->Int->Int->Option J
 |0,_,_,_,_,_,_,_,_,_,_=>none
 |M+1,a,b,c,d,e,f,g,h,i,j=>Z11 N a b c d e f g h i j (λa b c d e f g h i j=>Z10L N k0 M a b c d e f g h i j) k0
def Z10 N a b c d e f g h i j k0:=(Z10L N k0 N a b c d e f g h i j:Option J)
def Z9 N a b c d e f g h i j kn:=(Z10 N a b c d e f g h i j kn:Option J)
def Z7 N a b c d e f g h i kn:=(Z8 N a b c d e f g h i (λa b j c d e f g h i=>Z9 N a b j c d e f g h i kn):Option J)
def Z12{J:Type}(N:Nat)(a:LI)(d e b c:Int)(kr:LI->I2 (Option J)):Option J :=
 kr a b c
def Z6 N f a g h i b c d e kr:=(Z7 N f a g h i b c d e (λa b c d e=>Z12 N a b c d e kr):Option J)
def Z4 N a b c d e f g h kr:=(Z5 N a b c d e f g h (λi a b c d e f g h=>Z6 N i a b c d e f g h kr):Option J)
def Z2 N a b c d e kr:=(Z3 N a b c d e (λf a b c d e g h=>Z4 N f a b c d e g h kr):Option J)
def Z0 N a kr:=(Z1 N a (λb c d e f=>Z2 N b c d e f kr):Option J)
def Spec:Prop:=∀ (v0:MT),Ty.bd (.pair (.int .i64) (.pair (.int .i64) (.sl 0 (.int .i64)))) v0->P v0=true->∃N0,∀N,N0<=N->Z0 N v0 (λv2_2 v2_0 v2_1=>some ((),((v2_0,(v2_1,v2_2)),())))=some ((),((g v0),()))
def loop{J:Type}{N:Nat}{m:Int×Int×List Int}(hd:aO m=true){l:List (List Int)}(hl:∀o∈l,dF o m.1=true)(hl2:l.length<=4000)(k0:List Int->Int->Int->Int->Int->Option J)(t0 t1:Int) :
  ∀(M j:Nat) (b:List Int),j<=l.length->l.length-j<M->Z10L N k0 M l b (j:Int) m.1 m.2.1 m.2.2 t0 t1 m.1 m.2.1=k0 (cU (ca m) b (l.drop j)) t0 t1 m.1 m.2.1:=by
 intro M;induction M with
 |zero=>intro j b _ h;omega
 |succ M ih =>
  intro j b hj hM;simp only[Z10L,Z11];by_cases h:j<l.length
  ·have hP:bM.P (m.1,(m.2.1,m.2.2)) (l.getD j [])=true:=by have:=hl _ (bO (l:=l) [] h);simp only[bM.P,Bool.and_eq_true];exact⟨hd,this⟩
   have e1:(bM.g (m.1,(m.2.1,m.2.2)) (l.getD j [])).2.2=ca m (l.getD j []):=rfl;have e2:(bM.g (m.1,(m.2.1,m.2.2)) (l.getD j [])).1=m.1:=rfl;have e3:(bM.g (m.1,(m.2.1,m.2.2)) (l.getD j [])).2.1=m.2.1:=rfl;have e4:dP.g (ca m (l.getD j [])) b=bK (ca m (l.getD j [])) b:=rfl;rw[ct (dt (by omega)),ct (aN h)];simp only[Int.toNat_natCast,fG,e1,e2,e3,e4,aD,hP,cond_true];rw[bh (by rw[bv];omega),ih (j+1) _ h (by omega),ih (j+1) _ h (by omega),dB (l:=l) [] h];have e5:cU (ca m) b (l.getD j []::l.drop (j+1))=cU (ca m) (if bK (ca m (l.getD j [])) b=true then ca m (l.getD j [])else b) (l.drop (j+1)):=rfl;rw[e5];cases bK (ca m (l.getD j [])) b<;>rfl
  ·rw[cf (df (by omega)),List.drop_of_length_le (by omega)];rfl
def ok:Spec:=λm hb hp=>⟨5000,λN hN=>by
 simp only[P,Bool.and_eq_true,decide_eq_true_eq]at hp;obtain⟨hd,hr⟩:=hp;obtain⟨n,r,hn,hr',hn1,hn5,hnr,hr8,hl⟩:=bf hd;have hlen:m.2.2.length<=8*5:=by rw[hl];exact Nat.mul_le_mul hr8 hn5
 have e1:m.1.toNat=n:=by omega
 have h5:5 ^ n<=5 ^ 5:=Nat.pow_le_pow_right (by omega) hn5;have hOP:da.P [] m.1 []=true:=by simp only[da.P,List.length_nil,Bool.and_eq_true,decide_eq_true_eq,e1,Nat.sub_zero,Nat.zero_add];exact⟨by omega,by omega,by omega,Nat.le_trans h5 (by decide)⟩
 have hO:da.g [] m.1 []=dv n n []:=by rw[da.g,e1];rfl
 have hol:=yD n hn5 n [];have hol:(dv n n []).length<=4000:=Nat.le_trans hol (Nat.le_trans h5 (by decide));have hnm:∀o∈dv n n [],dF o m.1=true:=λo ho=>by rw[hn];exact oA hn5 ((qJ hn5 o).2 ho)
 simp only[Z0,Z1,Z2,Z3];rw[ct (show dY.P (m.1,(m.2.1,m.2.2))=true from dt (show m.2.2.length<1099511627776 by omega))];simp only[Z4,Z5];rw[ct hOP,hO];simp only[Z6,Z7,Z8,Z9,Z10];refine(loop hd hnm hol _ _ _ N 0 _ (Nat.zero_le _) (by omega)).trans ?_;rw[List.drop_zero,g,bL,e1];rfl⟩
end cO
namespace fh
def g(a b:List Int):Bool:=decide (a=b)
def Z1{J:Type}(N:Nat)(a b:LI)(kn:LI->LI->Option J):Option J :=
 kn a b
def Z3{J:Type}(N:Nat)(a b:LI)(kn:LI->LI->Option J)(kr:Bool->Option J):Option J :=
 cond (lk N (!(decide ((a.length:Int)=(b.length:Int)))))
 (
  kr false)
 (
  kn a b)
def Z6{J:Type}(N:Nat)(a b:LI)(kn:LI->LI->Int->Option J):Option J :=
 kn a b 0
def Z9{J:Type}(N:Nat)(b c:LI)(a:Int)(kn:LI->LI->Int->Option J)(k0:Option J)(kr:Bool->Option J):Option J :=
 cond (lk N (decide (a<(b.length:Int))))
 (
  cond (lk N (ax a b.length)) (
   cond (lk N (ax a c.length)) (
    cond (lk N (!(decide ((b.getD a.toNat 0)=(c.getD a.toNat 0)))))
    (
     kr false)
    (
     kn b c (ac (a+1)))) none) none)
 (
  k0)
def Z8L{J:Type}(N:Nat)(k0:Option J)(kr:Bool->Option J):Nat->LI->LI->Int->Option J
 |0,_,_,_=>none
 |M+1,a,b,c=>Z9 N a b c (λa b c=>Z8L N k0 kr M a b c) k0 kr
def Z8 N a b c k0 kr:=(Z8L N k0 kr N a b c:Option J)
def Z7 N a b c kn kr:=(Z8 N a b c kn kr:Option J)
def Z5 N a b kn kr:=(Z6 N a b (λa b c=>Z7 N a b c kn kr):Option J)
def Z10{J:Type}(N:Nat) (kr:Bool->Option J):Option J :=
 kr true
def Z4 N a b kr:=(Z5 N a b (Z10 N kr) kr:Option J)
def Z2 N a b kr:=(Z3 N a b (λa b=>Z4 N a b kr) kr:Option J)
def Z0 N a b kr:=(Z1 N a b (λa b=>Z2 N a b kr):Option J)
def Spec:Prop:=∀ (v0 v1:LI),Ty.bd (.sl 0 (.int .i64)) v0->Ty.bd (.sl 0 (.int .i64)) v1->∃N0,∀N,N0<=N->Z0 N v0 v1 (λv4=>some ((),(v4,())))=some ((),((g v0 v1),()))
def loop{J:Type}(N:Nat)(k0:Option J)(kr:Bool->Option J)(a b:List Int)(hl:a.length=b.length)(ha:a.length<=maxLen):∀(M j:Nat),j<=a.length->a.length-j<M ->
  Z8L N k0 kr M a b (j:Int)=if a.drop j=b.drop j then k0 else kr false:=by
 intro M;induction M with
 |zero=>intro j _ h;omega
 |succ M ih =>
  intro j hj hM;simp only[Z8L,Z9];by_cases h:j<a.length
  ·rw[ct (dt (by omega)),ct (aN h),ct (aN (by omega)),Int.toNat_natCast,bh (by omega),ih (j+1) h (by omega),dB 0 h,dB (l:=b) (j:=j) 0 (by omega)];by_cases e:a.getD j 0=b.getD j 0;·rw[cf (nf e),e];simp only[List.cons.injEq,true_and]
   ·rw[ct (nt e),if_neg (by simp only[List.cons.injEq];exact λh=>e h.1)]
  ·rw[cf (df (by omega)),if_pos (by rw[List.drop_of_length_le (by omega),List.drop_of_length_le (by omega)])]
def ok:Spec:=λa b ha hb=>⟨a.length+1,λN hN=>by
 simp only[Z1,Z3,Z6,Z9,Z8,Z7,Z5,Z10,Z4,Z2,Z0];by_cases hl:a.length=b.length;·rw[cf (nf (by omega))];rw[show(0:Int)=((0:Nat):Int)from rfl,loop _ _ _ a b hl ha.1 N 0 (by omega) (by omega)];by_cases e:a=b<;>simp[e,g]
 ·rw[ct (nt (by omega))];have:a≠b:=λe=>hl (by rw[e]);simp[g,this]⟩
end fh
namespace bE
def P(m:Int×Int×List Int):Bool:=(bg m&&!decide (bq m=[]))&&decide (m.2.1=m.1)
def g(m:Int×Int×List Int):List (Int×Int×List Int)×Bool:=match fV m with
 |some S=>(S,true)
 |none=>([],false)
def Z1{J:Type}(N:Nat)(a:MT)(kn:I2 (LI->Option J)):Option J :=
 kn a.1 a.2.1 a.2.2
def Z3{J:Type}(N:Nat)(a b:Int)(c:LI)(kn:LM->I2 (LI->Option J)):Option J :=
 cond (lk N (cO.P (a,(b,c)))) (
  kn ([(cO.g (a,(b,c)))]:List (MT)) a b c) none
def Z6{J:Type}(N:Nat)(a:LM)(b c:Int)(d:LI)(kn:LM->I3 (LI->Option J)):Option J :=
 kn a 0 b c d
def Z10{J:Type}(N:Nat)(a:LM)(b c d:Int)(e:LI)(kn:LM->I3 (LI->Option J))(k0:LM->Option J):Option J :=
 cond (lk N (decide (b<(a.length:Int))))
 (
  kn a b c d e)
 (
  k0 a)
def Z14{J:Type}(N:Nat)(a:LM)(b c d:Int)(e:LI)(kn:LM->I4 (LI->Option J)):Option J :=
 kn a b 0 c d e
def Z18{J:Type}(N:Nat)(b:LM)(c d a e:Int)(f:LI)(kn:LM->I4 (LI->Option J))(k2:LM->I3 (LI->Option J)):Option J :=
 cond (lk N (decide (d<a)))
 (
  kn b c d a e f)
 (
  k2 b c a e f)
def Z22{J:Type}(N:Nat)(a:LM)(b c d e:Int)(f:LI)(kn:LM->LI->I4 (LI->I2 (Option J))):Option J :=
 cond (lk N (ax b a.length)) (
  cond (lk N (bC.P (a.getD b.toNat (0,(0,[]))) c)) (
   kn a (bC.g (a.getD b.toNat (0,(0,[]))) c).2.2 b c d e f (bC.g (a.getD b.toNat (0,(0,[]))) c).1 (bC.g (a.getD b.toNat (0,(0,[]))) c).2.1) none) none
def Z24{J:Type}(N:Nat)(d:LM)(a:LI)(e f h i:Int)(j:LI)(b c:Int)(kn:LM->LI->I4 (LI->I2 (Option J)))(kr:LM->Bool->Option J):Option J :=
 cond (!(lk N ((cj.g (b,(c,a))))))
 (
  kr ([]:List (MT)) false)
 (
  kn d a e f h i j b c)
def Z26{J:Type}(N:Nat)(d:LM)(a:LI)(e f h i:Int)(j:LI)(b c:Int)(kn:LM->LI->I4 (LI->I2 (Option J))):Option J :=
 cond (lk N (cO.P (b,(c,a)))) (
  kn d (cO.g (b,(c,a))).2.2 e f h i j (cO.g (b,(c,a))).1 (cO.g (b,(c,a))).2.1) none
def Z28{J:Type}(N:Nat)(a:LM)(b:LI)(c d e f:Int)(g:LI)(h i:Int)(kn:LM->LI->I2 (Bool->I2 (LI->I2 (Option J)))):Option J :=
 kn a b c d false e f g h i
def Z31{J:Type}(N:Nat)(a:LM)(b:LI)(c d:Int)(e:Bool)(f g:Int)(h:LI)(i j:Int)(kn:LM->LI->I2 (Bool->I3 (LI->I2 (Option J)))):Option J :=
 kn a b c d e 0 f g h i j
def Z34{J:Type}(N:Nat)(a:LM)(c:LI)(d e:Int)(m:Bool)(b f h:Int)(i:LI)(j l:Int)(kn:LM->LI->I2 (Bool->I3 (LI->I2 (Option J))))(k4:LM->LI->I2 (Bool->I2 (LI->I2 (Option J)))):Option J :=
 cond (lk N (decide (b<(a.length:Int))))
 (
  cond (m)
  (
   kn a c d e true (ac (b+1)) f h i j l)
  (
   cond (lk N (ax b a.length)) (
    kn a c d e (lk N ((fh.g (a.getD b.toNat (0,(0,[]))).2.2 c))) (ac (b+1)) f h i j l) none))
 (
  k4 a c d e m f h i j l)
def Z33L{J:Type}(N:Nat)(k4:LM->LI->I2 (Bool->I2 (LI->I2 (Option J)))):Nat->LM->LI->Int->Int->Bool->Int->Int->Int->LI->Int->Int->Option J
 |0,_,_,_,_,_,_,_,_,_,_,_=>none
 |M+1,a,b,c,d,e,f,g,h,i,j,l=>Z34 N a b c d e f g h i j l (λa b c d e f g h i j l=>Z33L N k4 M a b c d e f g h i j l) k4
def Z33 N a b c d e f g h i j l k4:=(Z33L N k4 N a b c d e f g h i j l:Option J)
def Z32 N a b c d e f g h i j l kn:=(Z33 N a b c d e f g h i j l kn:Option J)
def Z30 N a b c d e f g h i j kn:=(Z31 N a b c d e f g h i j (λa b c d e l f g h i j=>Z32 N a b c d e l f g h i j kn):Option J)
def Z35{J:Type}(N:Nat)(a:LM)(b:LI)(e f:Int)(j:Bool)(g h:Int)(i:LI)(c d:Int)(kn:LM->I4 (LI->Option J))(kr:LM->Bool->Option J):Option J :=
 cond (!(j))
 (
  cond (lk N (Nat.blt (a.length+([(c,(d,b))]:List (MT)).length) 1099511627776)) (
   cond (lk N (decide (100<((a++([(c,(d,b))]:List (MT))).length:Int))))
   (
    kr ([]:List (MT)) false)
   (
    kn (a++([(c,(d,b))]:List (MT))) e f g h i)) none)
 (
  cond (lk N (decide (100<(a.length:Int))))
  (
   kr ([]:List (MT)) false)
  (
   kn a e f g h i))
def Z29 N a b c d e f g h i j kn kr:=(Z30 N a b c d e f g h i j (λa b c d e f g h i j=>Z35 N a b c d e f g h i j kn kr):Option J)
def Z27 N a b c d e f g h i kn kr:=(Z28 N a b c d e f g h i (λa b c d j e f g h i=>Z29 N a b c d j e f g h i kn kr):Option J)
def Z25 N a b c d e f g h i kn kr:=(Z26 N a b c d e f g h i (λa b c d e f g h i=>Z27 N a b c d e f g h i kn kr):Option J)
def Z23 N a b c d e f g h i kn kr:=(Z24 N a b c d e f g h i (λa b c d e f g h i=>Z25 N a b c d e f g h i kn kr) kr:Option J)
def Z21 N a b c d e f kn kr:=(Z22 N a b c d e f (λa g b c d e f h i=>Z23 N a g b c d e f h i kn kr):Option J)
def Z20 N a b c d e f kn kr:=(Z21 N a b c d e f kn kr:Option J)
def Z36{J:Type}(N:Nat)(a:LM)(b c d e:Int)(f:LI)(kn:LM->I4 (LI->Option J)):Option J :=
 kn a b (ac (c+1)) d e f
def Z19 N a b c d e f kn kr:=(Z20 N a b c d e f (λa b c d e f=>Z36 N a b c d e f kn) kr:Option J)
def Z17 N a b c d e f kn k2 kr:=(Z18 N a b c d e f (λa b c d e f=>Z19 N a b c d e f kn kr) k2:Option J)
def Z16L{J:Type}(N:Nat)(k2:LM->I3 (LI->Option J))(kr:LM->Bool->Option J):Nat->LM->Int->Int->Int->Int->LI->Option J
 |0,_,_,_,_,_,_=>none
 |M+1,a,b,c,d,e,f=>Z17 N a b c d e f (λa b c d e f=>Z16L N k2 kr M a b c d e f) k2 kr
def Z16 N a b c d e f k2 kr:=(Z16L N k2 kr N a b c d e f:Option J)
def Z15 N a b c d e f kn kr:=(Z16 N a b c d e f kn kr:Option J)
def Z13 N a b c d e kn kr:=(Z14 N a b c d e (λa b f c d e=>Z15 N a b f c d e kn kr):Option J)
def Z12 N a b c d e kn kr:=(Z13 N a b c d e kn kr:Option J)
def Z37{J:Type}(N:Nat)(a:LM)(b c d:Int)(e:LI)(kn:LM->I3 (LI->Option J)):Option J :=
 kn a (ac (b+1)) c d e
def Z11 N a b c d e kn kr:=(Z12 N a b c d e (λa b c d e=>Z37 N a b c d e kn) kr:Option J)
def Z9 N a b c d e kn k0 kr:=(Z10 N a b c d e (λa b c d e=>Z11 N a b c d e kn kr) k0:Option J)
def Z8L{J:Type}(N:Nat)(k0:LM->Option J)(kr:LM->Bool->Option J):Nat->LM->Int->Int->Int->LI->Option J
 |0,_,_,_,_,_=>none
 |M+1,a,b,c,d,e=>Z9 N a b c d e (λa b c d e=>Z8L N k0 kr M a b c d e) k0 kr
def Z8 N a b c d e k0 kr:=(Z8L N k0 kr N a b c d e:Option J)
def Z7 N a b c d e kn kr:=(Z8 N a b c d e kn kr:Option J)
def Z5 N a b c d kn kr:=(Z6 N a b c d (λa e b c d=>Z7 N a e b c d kn kr):Option J)
def Z38{J:Type}(N:Nat)(a:LM)(kr:LM->Bool->Option J):Option J :=
 kr a true
def Z4 N a b c d kr:=(Z5 N a b c d (λa=>Z38 N a kr) kr:Option J)
def Z2 N a b c kr:=(Z3 N a b c (λd a b c=>Z4 N d a b c kr):Option J)
def Z0 N a kr:=(Z1 N a (λb c d=>Z2 N b c d kr):Option J)
def Spec:Prop:=∀ (v0:MT),Ty.bd (.pair (.int .i64) (.pair (.int .i64) (.sl 0 (.int .i64)))) v0->P v0=true->∃N0,∀N,N0<=N->Z0 N v0 (λv2 v3=>some ((),(v2,(v3,()))))=some ((),((g v0).1,((g v0).2,())))
section
variable {J : Type} {N : Nat}
def Pg(k4:List (Int×Int×List Int)->List Int->Int->Int->Bool->Int->Int->List Int->Int->Int->Option J){S:List (Int×Int×List Int)}{d:List Int}{at_ k m0 m1 p0 p1:Int}{m2:List Int}(hS:S.length<=4000) :
  ∀(M i:Nat) (f:Bool),i<=S.length->S.length-i<M->Z33L N k4 M S d at_ k f (i:Int) m0 m1 m2 p0 p1=k4 S d at_ k (f||eL (S.drop i) d) m0 m1 m2 p0 p1:=by
 intro M;induction M with
 |zero=>intro i f _ h;omega
 |succ M ih =>
  intro i f hi hM;simp only[Z33L,Z34];by_cases h:i<S.length
  ·have e:eL (S.drop i) d=(decide ((S.getD i z3).2.2=d)||eL (S.drop (i+1)) d):=by rw[dB z3 h];rfl
   rw[ct (dt (by omega)),bh (by rw[bv];omega),e];cases f;·rw[fI rfl,ct (aN h),Int.toNat_natCast,ih (i+1) _ h (by omega),aD];rfl
   ·rw[gi rfl,ih (i+1) _ h (by omega)];rfl
  ·rw[cf (df (by omega)),List.drop_of_length_le (by omega)];simp[eL]
variable {m : Int × Int × List Int} {n : Nat} (hn : m.1 = (n : Int)) (hN : 4000 ≤ N)
include hn hN
theorem row{k2:List (Int×Int×List Int)->Int->Int->Int->List Int->Option J}{kr:List (Int×Int×List Int)->Bool->Option J}{a:Nat}{x:Int×Int×List Int}(hx:bU m.1 x) :
  ∀(M r k:Nat) {S:List (Int×Int×List Int)},k+r=n->r<M->d9 m.1 S->S.length<=100->a<S.length->S.getD a z3=x ->
   Z16L N k2 kr M S (a:Int) (k:Int) m.1 m.2.1 m.2.2=match dU x k r S with
    |some S'=>k2 S' (a:Int) m.1 m.2.1 m.2.2
    |none=>kr [] false:=by
 intro M;induction M with
 |zero=>intro r k S _ h;omega
 |succ M ih =>
  intro r k S hk hM hS hl ha hxa;simp only[Z16L,Z17,Z18];cases r with
  |zero =>rw[cf (df (by omega))];rfl
  |succ r =>
   have hs:=hx.shaped;have h0:=hx.2.1;have hb5:=hx.bound;have hP:bC.P x (k:Int)=true:=by simp only[bC.P,hs,Bool.true_and,Bool.and_eq_true,decide_eq_true_eq];omega
   have hg:bC.g x (k:Int)=aU x k:=rfl;rw[ct (dt (by omega))];simp only[Z19,Z20,Z21,Z22];rw[ct (aN ha),Int.toNat_natCast,hxa,ct hP,hg];simp only[Z23,Z24,aD,cj.g];rw[show((aU x k).1,((aU x k).2.1,(aU x k).2.2))=aU x k from rfl];have e1:dU x k (r+1) S=(d8 x k S).bind (dU x (k+1) r):=rfl;rw[e1];unfold d8;cases hz:bg (aU x k);·rw[gi (show(!false)=true from rfl),if_neg (by simp)];rfl
   ·have hf:=hx.mut (k:=k) (by omega) hz;have hcP:cO.P (aU x k)=true:=by simp only[cO.P,Bool.and_eq_true,decide_eq_true_eq];exact⟨hf.dim,hf.2.2.trans hf.2.1.symm⟩
    have hcg:cO.g (aU x k)=cE x k:=rfl;rw[fI (show(!true)=false from rfl),if_pos rfl];simp only[Z25,Z26];rw[show((aU x k).1,((aU x k).2.1,(aU x k).2.2))=aU x k from rfl,ct hcP,hcg];simp only[Z27,Z28,Z29,Z30,Z31,Z32,Z33];refine(Pg _ (by omega) N 0 false (Nat.zero_le _) (by omega)).trans ?_;have e2:(eM S (cE x k))=if eL S (cE x k).2.2=true then S else S++[cE x k]:=rfl
    rw[List.drop_zero,Bool.false_or,e2];have e3:((cE x k).1,((cE x k).2.1,(cE x k).2.2))=cE x k:=rfl;have stp:∀{S':List (Int×Int×List Int)},d8 x k S=some S'->Z36 N S' (a:Int) (k:Int) m.1 m.2.1 m.2.2 (λout at5 kx m0 m1 m2=>Z16L N k2 kr M out at5 kx m0 m1 m2)=match dU x (k+1) r S' with
      |some S'=>k2 S' (a:Int) m.1 m.2.1 m.2.2
      |none=>kr [] false:=by
     intro S' h;obtain⟨e,f1,f2,f3⟩:=yQ hS hx (by omega) h;simp only[Z36];rw[bh (by rw[bv];omega)];exact ih r (k+1) (by omega) (by omega) f1 f3 (by omega) (by rw[e,yP ha,hxa])
    simp only[Z35,e3];cases hh:eL S (cE x k).2.2
    ·have hb:Nat.blt (S.length+([cE x k]:List (Int×Int×List Int)).length) 1099511627776=true:=Nat.ble_eq_true_of_le (by simp;omega);rw[gi (show(!false)=true from rfl),ct hb];simp only[Bool.false_eq_true,if_false];by_cases h100:(S++[cE x k]).length<=100;·rw[cf (df (by omega)),if_pos h100];refine(stp (S':=S++[cE x k]) ?_).trans rfl;unfold d8;rw[if_pos hz,e2,hh];simp only[Bool.false_eq_true,if_false];rw[if_pos h100]
     ·rw[ct (dt (by omega)),if_neg h100];rfl
    ·rw[fI (show(!true)=false from rfl),cf (df (by omega))];simp only[if_true];rw[if_pos hl];refine(stp (S':=S) ?_).trans rfl;unfold d8;rw[if_pos hz,e2,hh];simp only[if_true];rw[if_pos hl]
theorem run{k0:List (Int×Int×List Int)->Option J}{kr:List (Int×Int×List Int)->Bool->Option J} :
  ∀(M F a:Nat) {S:List (Int×Int×List Int)},d9 m.1 S->S.length<=100->a<=S.length->101-a<M->101-a<F ->
   Z8L N k0 kr M S (a:Int) m.1 m.2.1 m.2.2=match eN n F a S with
    |some S'=>k0 S'
    |none=>kr [] false:=by
 intro M;induction M with
 |zero=>intro F a S _ _ _ h;omega
 |succ M ih =>
  intro F a S hS hl ha hM hF;obtain⟨F,rfl⟩:∃F',F=F'+1:=⟨F-1,by omega⟩;simp only[Z8L,Z9,Z10];have e1:eN n (F+1) a S=if a<S.length then(dU (S.getD a z3) 0 n S).bind (eN n F (a+1))else some S:=rfl
  rw[e1];by_cases h:a<S.length
  ·rw[ct (dt (by omega)),if_pos h];simp only[Z11,Z12,Z13,Z14,Z15,Z16];have hx:=qM hS h;have hb:=hx.bound;refine(row hn hN hx N n 0 (by omega) (by omega) hS hl h rfl).trans ?_;cases hr:dU (S.getD a z3) 0 n S with
   |none=>rfl
   |some S' =>obtain⟨f1,f2,f3,f4⟩:=qN hx n 0 (by omega) hS hl hr;simp only[Option.bind_some,Z37];rw[bh (by rw[bv];omega)];exact ih F (a+1) f1 f3 (by omega) (by omega) (by omega)
  ·rw[cf (df (by omega)),if_neg h]
end
def Ph{m:Int×Int×List Int}(hp:P m=true):bU m.1 m:=by simp only[P,Bool.and_eq_true,decide_eq_true_eq]at hp;obtain⟨d,hR⟩:=DW (m:=m) (by simpa using hp.1);exact⟨⟨d,hR⟩,rfl,hp.2⟩
def ok:Spec:=λm hb hp=>⟨4000,λN hN=>by
 have hf:=Ph hp;obtain⟨b1,b2,_⟩:=hf.bound;obtain⟨n,hn⟩:=Int.eq_ofNat_of_zero_le (show 0<=m.1 by omega);have hcP:cO.P m=true:=by simp only[cO.P,Bool.and_eq_true,decide_eq_true_eq];exact⟨hf.dim,hf.2.2⟩
 have hcg:cO.g m=bL m:=rfl;simp only[Z0,Z1,Z2,Z3];rw[show(m.1,(m.2.1,m.2.2))=m from rfl,ct hcP,hcg];simp only[Z4,Z5,Z6,Z7,Z8];refine(run (J:=Unit×(List (Int×Int×List Int)×(Bool×Unit))) hn hN N 102 0 (S:=[bL m]) (λx hx=>by rw[List.mem_singleton.1 hx];exact hf.can) (by simp) (Nat.zero_le _) (by omega) (by omega)).trans ?_;have e:fV m=eN n 102 0 [bL m]:=by unfold fV;rw[show m.1.toNat=n by omega]
 unfold g;rw[e];cases eN n 102 0 [bL m]<;>rfl⟩
end bE
namespace bJ
def P(l:List (List Int)):Bool:=decide (l.length<=4000)
def g(l:List (List Int)):List (List Int):=gj l
def Z1{J:Type}(N:Nat)(a:LL)(kn:LL->Option J):Option J :=
 kn a
def Z3{J:Type}(N:Nat)(a:LL)(kn:LL->Option J):Option J :=
 cond (lk N (Nat.blt (([]:List (LI)).length+a.length) 1099511627776)) (
  kn (([]:List (LI))++a)) none
def Z6{J:Type}(N:Nat)(a:LL)(kn:LL->Int->Option J):Option J :=
 kn a 1
def Z10{J:Type}(N:Nat)(a:LL)(b:Int)(kn:LL->Int->Option J)(k0:LL->Option J):Option J :=
 cond (lk N (decide (b<(a.length:Int))))
 (
  kn a b)
 (
  k0 a)
def Z14{J:Type}(N:Nat)(a:LL)(b:Int)(kn:LL->LL->Int->Option J):Option J :=
 kn a ([]:List (LI)) b
def Z17{J:Type}(N:Nat)(a b:LL)(c:Int)(kn:LL->LL->I2 (Option J)):Option J :=
 kn a b c 0
def Z21{J:Type}(N:Nat)(a b:LL)(c d:Int)(kn:LL->LL->I2 (Option J))(k2:LL->Int->Option J):Option J :=
 cond (lk N (decide (d<(a.length:Int))))
 (
  kn a b c d)
 (
  k2 b c)
def Z25{J:Type}(N:Nat)(b c:LL)(d a:Int)(kn:LL->LL->I3 (Option J)):Option J :=
 kn b c d a a
def Z27{J:Type}(N:Nat)(a d:LL)(b c e:Int)(kn:LL->LL->I4 (Option J)):Option J :=
 kn a d b c e (mn (ac (c+b)) (a.length:Int))
def Z29{J:Type}(N:Nat)(b c:LL)(d e f a:Int)(kn:LL->LL->I5 (Option J)):Option J :=
 kn b c d e f a a
def Z31{J:Type}(N:Nat)(a d:LL)(b c e f g:Int)(kn:LL->LL->I6 (Option J)):Option J :=
 kn a d b c e f g (mn (ac (c+(ac (2*b)))) (a.length:Int))
def Z34{J:Type}(N:Nat)(a d:LL)(h i b c e f:Int)(kn:LL->LL->I6 (Option J))(k4:LL->LL->I2 (Option J)):Option J :=
 let x1_:=(
   cond (lk N (ax b a.length)) (
   cond (lk N (Nat.blt (d.length+([(a.getD b.toNat [])]:List (LI)).length) 1099511627776)) (
   kn a (d++([(a.getD b.toNat [])]:List (LI))) h i (ac (b+1)) c e f) none) none)
 let x2_:=(
   cond (lk N (ax c a.length)) (
   cond (lk N (Nat.blt (d.length+([(a.getD c.toNat [])]:List (LI)).length) 1099511627776)) (
   kn a (d++([(a.getD c.toNat [])]:List (LI))) h i b (ac (c+1)) e f) none) none)
 let x0_:=(
   cond (lk N (decide (f<=c)))
   x1_
   (
   cond (lk N (decide (b<e)))
   (
   cond (lk N (ax c a.length)) (
   cond (lk N (ax b a.length)) (
   cond (!(lk N ((dP.g (a.getD c.toNat []) (a.getD b.toNat [])))))
   x1_
   x2_) none) none)
   x2_))
 cond (lk N (decide (b<e)))
 x0_
 (
 cond (lk N (decide (c<f)))
 x0_
 (
 k4 a d h i))
def Z33L{J:Type}(N:Nat)(k4:LL->LL->I2 (Option J)):Nat->LL->LL->Int->Int->Int->Int->Int->Int->Option J
 |0,_,_,_,_,_,_,_,_=>none
 |M+1,a,b,c,d,e,f,g,h=>Z34 N a b c d e f g h (λa b c d e f g h=>Z33L N k4 M a b c d e f g h) k4
def Z33 N a b c d e f g h k4:=(Z33L N k4 N a b c d e f g h:Option J)
def Z32 N a b c d e f g h kn:=(Z33 N a b c d e f g h kn:Option J)
def Z30 N a b c d e f g kn:=(Z31 N a b c d e f g (λa b c d e f g h=>Z32 N a b c d e f g h kn):Option J)
def Z28 N a b c d e f kn:=(Z29 N a b c d e f (λa b c d e f g=>Z30 N a b c d e f g kn):Option J)
def Z26 N a b c d e kn:=(Z27 N a b c d e (λa b c d e f=>Z28 N a b c d e f kn):Option J)
def Z24 N a b c d kn:=(Z25 N a b c d (λa b c d e=>Z26 N a b c d e kn):Option J)
def Z23 N a b c d kn:=(Z24 N a b c d kn:Option J)
def Z35{J:Type}(N:Nat)(b c:LL)(a d:Int)(kn:LL->LL->I2 (Option J)):Option J :=
 kn b c a (ac (d+(ac (2*a))))
def Z22 N a b c d kn:=(Z23 N a b c d (λa b c d=>Z35 N a b c d kn):Option J)
def Z20 N a b c d kn k2:=(Z21 N a b c d (λa b c d=>Z22 N a b c d kn) k2:Option J)
def Z19L{J:Type}(N:Nat)(k2:LL->Int->Option J):Nat->LL->LL->Int->Int->Option J
 |0,_,_,_,_=>none
 |M+1,a,b,c,d=>Z20 N a b c d (λa b c d=>Z19L N k2 M a b c d) k2
def Z19 N a b c d k2:=(Z19L N k2 N a b c d:Option J)
def Z18 N a b c d kn:=(Z19 N a b c d kn:Option J)
def Z16 N a b c kn:=(Z17 N a b c (λa b c d=>Z18 N a b c d kn):Option J)
def Z36{J:Type}(N:Nat)(a:LL)(b:Int)(kn:LL->Int->Option J):Option J :=
 kn a b
def Z15 N c a b kn:=(Z16 N c a b (λa b=>Z36 N a b kn):Option J)
def Z13 N a b kn:=(Z14 N a b (λa c b=>Z15 N a c b kn):Option J)
def Z12 N a b kn:=(Z13 N a b kn:Option J)
def Z37{J:Type}(N:Nat)(a:LL)(b:Int)(kn:LL->Int->Option J):Option J :=
 kn a (ac (b*2))
def Z11 N a b kn:=(Z12 N a b (λa b=>Z37 N a b kn):Option J)
def Z9 N a b kn k0:=(Z10 N a b (λa b=>Z11 N a b kn) k0:Option J)
def Z8L{J:Type}(N:Nat)(k0:LL->Option J):Nat->LL->Int->Option J
 |0,_,_=>none
 |M+1,a,b=>Z9 N a b (λa b=>Z8L N k0 M a b) k0
def Z8 N a b k0:=(Z8L N k0 N a b:Option J)
def Z7 N a b kn:=(Z8 N a b kn:Option J)
def Z5 N a kn:=(Z6 N a (λa b=>Z7 N a b kn):Option J)
def Z38{J:Type}(N:Nat)(a:LL)(kr:LL->Option J):Option J :=
 kr a
def Z4 N a kr:=(Z5 N a (λa=>Z38 N a kr):Option J)
def Z2 N a kr:=(Z3 N a (λb=>Z4 N b kr):Option J)
def Z0 N a kr:=(Z1 N a (λa=>Z2 N a kr):Option J)
def Spec:Prop:=∀(v0:LL),Ty.bd (.sl 0 (.sl 0 (.int .i64))) v0->P v0=true->∃N0,∀N,N0<=N->Z0 N v0 (λv2=>some v2)=some (g v0)
section
variable {J : Type} {N : Nat}
def part{l:List (List Int)}{i m:Nat}(h:i<m)(hm:m<=l.length):(l.drop i).take (m-i)=l.getD i []::(l.drop (i+1)).take (m-(i+1)):=by rw[dB [] (by omega),show m-i=(m-(i+1))+1 by omega,List.take_succ_cons]
def Pi(a b:List Int):(!(dP.g a b))=dm b a:=rfl
def inner(k4:List (List Int)->List (List Int)->Int->Int->Option J){out:List (List Int)}{size at_:Int}{mid en:Nat}(hm:mid<=out.length)(he:en<=out.length)(hl:out.length<=4000) :
  ∀(M i j:Nat) (next:List (List Int)),i<=mid->j<=en->(mid-i)+(en-j)<M->next.length+(mid-i)+(en-j)<=4000 ->
   Z33L N k4 M out next size at_ (i:Int) (j:Int) (mid:Int) (en:Int)=k4 out (next++((out.drop i).take (mid-i)).merge ((out.drop j).take (en-j)) dm) size at_:=by
 intro M;induction M with
 |zero=>intro i j next _ _ h;omega
 |succ M ih =>
  intro i j next hi hj hM hn
  simp only[Z33L,Z34];have hb:∀x:List Int,(mid-i)+(en-j)≠0->Nat.blt (next.length+([x]:List (List Int)).length) 1099511627776=true:=λx _=>Nat.ble_eq_true_of_le (by simp;omega);have wi:i<mid->ac ((i:Int)+1)=((i+1:Nat):Int):=λh=>bh (by rw[bv];omega);have wj:j<en->ac ((j:Int)+1)=((j+1:Nat):Int):=λh=>bh (by rw[bv];omega);by_cases h1:i<mid
  ·rw[ct (dt (by omega)),part h1 hm];have left:∀r,k4 out (next++[out.getD i []]++r) size at_=k4 out (next++(out.getD i []::r)) size at_:=λr=>by rw[List.append_assoc];rfl
   by_cases h2:j<en
   ·rw[cf (df (by omega)),ct (dt (by omega)),ct (aN (by omega)),ct (aN (by omega)),Int.toNat_natCast,Int.toNat_natCast,aD,Pi,part h2 he];cases hle:dm (out.getD i []) (out.getD j []);·rw[fI rfl,ct (aN (by omega)),ct (hb _ (by omega)),wj h2,ih i (j+1) _ hi (by omega) (by omega) (by simp;omega),part h1 hm];simp only[List.cons_merge_cons,hle];simp
    ·rw[gi rfl,ct (aN (by omega)),ct (hb _ (by omega)),wi h1,ih (i+1) j _ (by omega) hj (by omega) (by simp;omega),part h2 he];simp only[List.cons_merge_cons,hle];simp
   ·have e:j=en:=by omega
    subst e;rw[ct (dt (by omega)),ct (aN (by omega)),Int.toNat_natCast,ct (hb _ (by omega)),wi h1,ih (i+1) j _ (by omega) hj (by omega) (by simp;omega),Nat.sub_self,List.take_zero,List.merge_right,List.merge_right,left]
  ·have e:i=mid:=by omega
   subst e;rw[cf (df (by omega)),Nat.sub_self,List.take_zero,List.nil_merge];by_cases h2:j<en;·rw[ct (dt (by omega)),cf (df (by omega)),cf (df (by omega)),ct (aN (by omega)),Int.toNat_natCast,ct (hb _ (by omega)),wj h2,ih i (j+1) _ (Nat.le_refl _) (by omega) (by omega) (by simp;omega),Nat.sub_self,List.take_zero,List.nil_merge,part h2 he,List.append_assoc];rfl
   ·have e:j=en:=by omega
    subst e;rw[cf (df (by omega)),Nat.sub_self,List.take_zero,List.append_nil]
def Pj(k2:List (List Int)->Int->Option J)(hN:9000<=N){out:List (List Int)}{s:Nat}(hs:0<s)(hs2:s<=4000)(hl:out.length<=4000) :
  ∀(F M a:Nat) (next:List (List Int)),out.length-a<=F->out.length-a<M->next.length+(out.length-a)<=4000->a<=20000 ->
   Z19L N k2 M out next (s:Int) (a:Int)=k2 (next++iF s F (out.drop a)) (s:Int):=by
 intro F;induction F with
 |zero =>
  intro M a next hF hM hn ha
  obtain⟨M,rfl⟩:∃M',M=M'+1:=⟨M-1,by omega⟩;simp only[Z19L,Z20,Z21];rw[cf (df (by omega)),List.drop_of_length_le (by omega)];simp[iF]
 |succ F ih =>
  intro M a next hF hM hn ha
  obtain⟨M,rfl⟩:∃M',M=M'+1:=⟨M-1,by omega⟩;simp only[Z19L,Z20,Z21];by_cases h:a<out.length
  ·rw[ct (dt (by omega))];simp only[Z22,Z23,Z24,Z25,Z26,Z27,Z28,Z29,Z30,Z31,Z32,Z33];have w1:ac ((a:Int)+(s:Int))=((a+s:Nat):Int):=by rw[aM (by omega) (by omega)];omega
   have w2:ac (2*(s:Int))=((2*s:Nat):Int):=by rw[aM (by omega) (by omega)];omega
   have w3:ac ((a:Int)+((2*s:Nat):Int))=((a+2*s:Nat):Int):=by rw[aM (by omega) (by omega)];omega
   have m1:mn ((a+s:Nat):Int) (out.length:Int)=((min (a+s) out.length:Nat):Int):=by rw[CX];omega
   have m2:mn ((a+2*s:Nat):Int) (out.length:Int)=((min (a+2*s) out.length:Nat):Int):=by rw[CX];omega
   rw[w1,w2,w3,m1,m2];refine(inner _ (Nat.min_le_right _ _) (Nat.min_le_right _ _) hl N a (min (a+s) out.length) next (by omega) (by omega) (by omega) (by omega)).trans ?_;simp only[Z35,w2,w3];have t1:(out.drop a).take (min (a+s) out.length-a)=(out.drop a).take s:=by rw[List.take_eq_take_iff];simp;omega
   have t2:(out.drop (min (a+s) out.length)).take (min (a+2*s) out.length-min (a+s) out.length)=((out.drop a).drop s).take s:=by
    rw[List.drop_drop];by_cases hq:a+s<=out.length;·rw[Nat.min_eq_left hq,List.take_eq_take_iff];simp;omega
    ·rw[List.drop_of_length_le (by omega),List.drop_of_length_le (by omega)];simp
   rw[t1,t2,ih M (a+2*s) _ (by omega) (by omega) (by rw[List.length_append,DR];simp;omega) (by omega)];have e:iF s (F+1) (out.drop a)=((out.drop a).take s).merge (((out.drop a).drop s).take s) dm++iF s F ((out.drop a).drop (2*s)):=by show(if out.drop a=[]then[]else _)=_;rw[if_neg (by intro h0;have:=congrArg List.length h0;simp at this;omega)]
   rw[e,List.append_assoc,show out.drop (a+2*s)=(out.drop a).drop (2*s) by rw[List.drop_drop]]
  ·rw[cf (df (by omega)),List.drop_of_length_le (by omega)];simp[iF]
def Pk(k0:List (List Int)->Option J)(hN:9000<=N){l:List (List Int)}(hl:l.length<=4000) :
  ∀(M s:Nat) (out:List (List Int)),0<s->s<=8000->l.length-s<M->out.Perm l->oC s out->Z8L N k0 M out (s:Int)=k0 (gj l):=by
 intro M;induction M with
 |zero=>intro s out _ _ h;omega
 |succ M ih =>
  intro s out hs hs2 hM hp hb;have hlen:=hp.length_eq;simp only[Z8L,Z9,Z10];by_cases h:s<out.length
  ·rw[ct (dt (by omega))];simp only[Z11,Z12,Z13,Z14,Z15,Z16,Z17,Z18,Z19];refine(Pj _ hN hs (by omega) (by omega) out.length N 0 [] (by omega) (by omega) (by simp;omega) (by omega)).trans ?_;simp only[Z36,Z37,List.nil_append,List.drop_zero];have w:ac ((s:Int)*2)=((2*s:Nat):Int):=by rw[aM (by omega) (by omega)];omega
   obtain⟨p1,p2⟩:=DS hs out.length out (Nat.le_refl _) hb;rw[w];exact ih (2*s) _ (by omega) (by omega) (by omega) (p1.trans hp) p2
  ·rw[cf (df (by omega)),DQ hp (NY hb (by omega))]
end
def ok:Spec:=λl hb hp=>⟨9000,λN hN=>by
 have hl:l.length<=4000:=by simpa[P]using hp
 simp only[Z0,Z1,Z2,Z3,Z4,Z5,Z6,Z7,Z8];have hc:Nat.blt (([]:List (List Int)).length+l.length) 1099511627776=true:=Nat.ble_eq_true_of_le (by simp;omega);rw[ct hc,List.nil_append];refine(Pk _ hN hl N 1 l (by omega) (by omega) (by omega) (List.Perm.refl _) (NX l)).trans ?_;simp only[Z38,g]⟩
end bJ
namespace cy
def g(m:Int×Int×List Int):List (Int×Int×List Int)×Bool:=dG m
def Z1{J:Type}(N:Nat)(a:MT)(kn:I2 (LI->Option J)):Option J :=
 kn a.1 a.2.1 a.2.2
def Z3{J:Type}(N:Nat)(a b:Int)(c:LI)(kn:I2 (LI->Option J))(kr:LM->Bool->Option J):Option J :=
 cond (!(lk N ((jq.g (a,(b,c))))))
 (
  kr ([]:List (MT)) false)
 (
  cond (lk N (!(decide (b=a))))
  (
   kr ([]:List (MT)) false)
  (
   kn a b c))
def Z5{J:Type}(N:Nat)(a b:Int)(c:LI)(kn:LM->Bool->I2 (LI->Option J)):Option J :=
 cond (lk N (bE.P (a,(b,c)))) (
  kn (bE.g (a,(b,c))).1 (lk N ((bE.g (a,(b,c))).2)) a b c) none
def Z7{J:Type}(N:Nat)(a:LM)(b:Bool)(c d:Int)(e:LI)(kn:LM->I2 (LI->Option J))(kr:LM->Bool->Option J):Option J :=
 cond (!(b))
 (
  kr ([]:List (MT)) false)
 (
  kn a c d e)
def Z9{J:Type}(N:Nat)(a:LM)(b c:Int)(d:LI)(kn:LM->LL->I2 (LI->Option J)):Option J :=
 kn a ([]:List (LI)) b c d
def Z12{J:Type}(N:Nat)(a:LM)(b:LL)(c d:Int)(e:LI)(kn:LM->LL->I3 (LI->Option J)):Option J :=
 kn a b 0 c d e
def Z15{J:Type}(N:Nat)(c:LL)(a:LM)(b d e:Int)(f:LI)(kn:LL->LM->I3 (LI->Option J))(k0:LL->I2 (LI->Option J)):Option J :=
 cond (lk N (decide (b<(a.length:Int))))
 (
  cond (lk N (ax b a.length)) (
   cond (lk N (Nat.blt (c.length+([(a.getD b.toNat (0,(0,[]))).2.2]:List (LI)).length) 1099511627776)) (
    kn (c++([(a.getD b.toNat (0,(0,[]))).2.2]:List (LI))) a (ac (b+1)) d e f) none) none)
 (
  k0 c d e f)
def Z14L{J:Type}(N:Nat)(k0:LL->I2 (LI->Option J)):Nat->LL->LM->Int->Int->Int->LI->Option J
 |0,_,_,_,_,_,_=>none
 |M+1,a,b,c,d,e,f=>Z15 N a b c d e f (λa b c d e f=>Z14L N k0 M a b c d e f) k0
def Z14 N a b c d e f k0:=(Z14L N k0 N b a c d e f:Option J)
def Z13 N a b c d e f kn:=(Z14 N a b c d e f kn:Option J)
def Z11 N a b c d e kn:=(Z12 N a b c d e (λa b f c d e=>Z13 N a b f c d e kn):Option J)
def Z17{J:Type}(N:Nat)(a:LL)(b c:Int)(d:LI)(kn:LL->I2 (LI->Option J)):Option J :=
 cond (lk N (bJ.P a)) (
  kn (bJ.g a) b c d) none
def Z19{J:Type}(N:Nat)(a:LL)(b c:Int)(d:LI)(kn:LL->LM->I2 (LI->Option J)):Option J :=
 kn a ([]:List (MT)) b c d
def Z22{J:Type}(N:Nat)(a:LL)(b:LM)(c d:Int)(e:LI)(kn:LL->LM->I3 (LI->Option J)):Option J :=
 kn a b 0 c d e
def Z25{J:Type}(N:Nat)(a:LL)(d:LM)(b c e:Int)(f:LI)(kn:LL->LM->I3 (LI->Option J))(k2:LM->Option J):Option J :=
 cond (lk N (decide (b<(a.length:Int))))
 (
  cond (lk N (ax b a.length)) (
   cond (lk N (dX.P (a.getD b.toNat []))) (
    cond (lk N (Nat.blt (d.length+([(c,(c,(dX.g (a.getD b.toNat []))))]:List (MT)).length) 1099511627776)) (
     kn a (d++([(c,(c,(dX.g (a.getD b.toNat []))))]:List (MT))) (ac (b+1)) c e f) none) none) none)
 (
  k2 d)
def Z24L{J:Type}(N:Nat)(k2:LM->Option J):Nat->LL->LM->Int->Int->Int->LI->Option J
 |0,_,_,_,_,_,_=>none
 |M+1,a,b,c,d,e,f=>Z25 N a b c d e f (λa b c d e f=>Z24L N k2 M a b c d e f) k2
def Z24 N a b c d e f k2:=(Z24L N k2 N a b c d e f:Option J)
def Z23 N a b c d e f kn:=(Z24 N a b c d e f kn:Option J)
def Z21 N a b c d e kn:=(Z22 N a b c d e (λa b f c d e=>Z23 N a b f c d e kn):Option J)
def Z26{J:Type}(N:Nat)(a:LM)(kr:LM->Bool->Option J):Option J :=
 kr a true
def Z20 N b a c d e kr:=(Z21 N b a c d e (λa=>Z26 N a kr):Option J)
def Z18 N a b c d kr:=(Z19 N a b c d (λa e b c d=>Z20 N a e b c d kr):Option J)
def Z16 N a b c d kr:=(Z17 N a b c d (λa b c d=>Z18 N a b c d kr):Option J)
def Z10 N e a b c d kr:=(Z11 N e a b c d (λa b c d=>Z16 N a b c d kr):Option J)
def Z8 N a b c d kr:=(Z9 N a b c d (λa e b c d=>Z10 N a e b c d kr):Option J)
def Z6 N a e b c d kr:=(Z7 N a e b c d (λa b c d=>Z8 N a b c d kr) kr:Option J)
def Z4 N a b c kr:=(Z5 N a b c (λd e a b c=>Z6 N d e a b c kr):Option J)
def Z2 N a b c kr:=(Z3 N a b c (λa b c=>Z4 N a b c kr) kr:Option J)
def Z0 N a kr:=(Z1 N a (λb c d=>Z2 N b c d kr):Option J)
def Spec:Prop:=∀ (v0:MT),Ty.bd (.pair (.int .i64) (.pair (.int .i64) (.sl 0 (.int .i64)))) v0->∃N0,∀N,N0<=N->Z0 N v0 (λv2 v3=>some ((),(v2,(v3,()))))=some ((),((g v0).1,((g v0).2,())))
section
variable {J : Type} {N : Nat}
def one(k0:List (List Int)->Int->Int->List Int->Option J){l:List (Int×Int×List Int)}{m0 m1:Int}{m2:List Int}(hl:l.length<=4000) :
  ∀(M i:Nat) (d:List (List Int)),i<=l.length->l.length-i<M->d.length+(l.length-i)<=4000->Z14L N k0 M d l (i:Int) m0 m1 m2=k0 (d++(l.drop i).map (·.2.2)) m0 m1 m2:=by
 intro M;induction M with
 |zero=>intro i d _ h;omega
 |succ M ih =>
  intro i d hi hM hd;simp only[Z14L,Z15];by_cases h:i<l.length;·have hb:∀x:List Int,Nat.blt (d.length+([x]:List (List Int)).length) 1099511627776=true:=λx=>Nat.ble_eq_true_of_le (by simp;omega);rw[ct (dt (by omega)),ct (aN h),ct (hb _),Int.toNat_natCast,bh (by rw[bv];omega),ih (i+1) _ h (by omega) (by simp;omega),dB z3 h,List.map_cons,List.append_assoc];rfl
  ·rw[cf (df (by omega)),List.drop_of_length_le (by omega)];simp
def two(k2:List (Int×Int×List Int)->Option J){d:List (List Int)}{m0 m1:Int}{m2:List Int}(hl:d.length<=4000)(hd:∀x∈d,x.length<=4000) :
  ∀(M i:Nat) (o:List (Int×Int×List Int)),i<=d.length->d.length-i<M->o.length+(d.length-i)<=4000->Z24L N k2 M d o (i:Int) m0 m1 m2=k2 (o++(d.drop i).map λx=>(m0,(m0,x))):=by
 intro M;induction M with
 |zero=>intro i d _ h;omega
 |succ M ih =>
  intro i o hi hM ho;simp only[Z24L,Z25];by_cases h:i<d.length;·have hb:∀x:Int×Int×List Int,Nat.blt (o.length+([x]:List (Int×Int×List Int)).length) 1099511627776=true:=λx=>Nat.ble_eq_true_of_le (by simp;omega);have hP:dX.P (d.getD i [])=true:=dt (by have:=hd _ (bO (l:=d) [] h);omega);rw[ct (dt (by omega)),ct (aN h),Int.toNat_natCast,ct hP,ct (hb _),bh (by rw[bv];omega),ih (i+1) _ h (by omega) (by simp;omega),dB [] h,List.map_cons,List.append_assoc];rfl
  ·rw[cf (df (by omega)),List.drop_of_length_le (by omega)];simp
end
def ok:Spec:=λm hb=>⟨9000,λN hN=>by
 simp only[Z0,Z1,Z2,Z3,aD];have e0:((m.1,(m.2.1,m.2.2)):Int×Int×List Int)=m:=rfl;have e1:jq.g m=(bg m&&!decide (bq m=[])):=rfl;rw[e0,e1];unfold g dG fW;cases h1:(bg m&&!decide (bq m=[]));·rfl
 by_cases h2:m.2.1=m.1
 ·rw[dt h2];simp only[Bool.not_true,cond_false,Bool.and_self,if_true];have hp:((bg m&&!decide (bq m=[]))&&decide (m.2.1=m.1))=true:=by rw[h1,dt h2];rfl
  have hP:bE.P m=true:=hp;have hg:bE.g m=match fV m with
   |some S=>(S,true)
   |none=>([],false):=rfl
  simp only[Z4,Z5,aD,e0];try rw[ct hP]
  try simp only[hP,cond_true]
  rw[hg];cases hc:fV m with
  |none=>rfl
  |some S =>
   obtain⟨hf,_,hl⟩:=mX hp hc;have hx:∀x∈S,x.2.2.length<=25:=λx hx=>(hf x hx).len.2;simp only[Z6,Z7,Bool.not_true,cond_false,Z8,Z9,Z10,Z11,Z12,Z13,Z14];refine(one _ (by omega) N 0 [] (Nat.zero_le _) (by omega) (by simp;omega)).trans ?_;simp only[List.drop_zero,List.nil_append,Z16,Z17];have hSP:bJ.P (S.map (·.2.2))=true:=dt (by simp;omega)
   have hSg:bJ.g (S.map (·.2.2))=gj (S.map (·.2.2)):=rfl
   rw[ct hSP,hSg];simp only[Z18,Z19,Z20,Z21,Z22,Z23,Z24];have hpm:=lr (S.map (·.2.2))
   have hlen:(gj (S.map (·.2.2))).length=S.length:=by rw[hpm.length_eq];simp
   refine(two _ (by omega) (λx hx'=>?_) N 0 [] (Nat.zero_le _) (by omega) (by simp;omega)).trans ?_;·obtain⟨y,hy,rfl⟩:=List.mem_map.1 (hpm.mem_iff.1 hx');have:=hx y hy;omega
   ·simp only[List.drop_zero,List.nil_append,Z26];rfl
 ·rw[df h2];rfl⟩
end cy
namespace jv
def g(m:Int×Int×List Int):Int×Int×List Int:=if(bn m&&!decide (bq m=[]))=true then iG m else(0,0,[])
def Z0{J:Type}(N:Nat)(a:MT)(kr:LI->I2 (Option J)):Option J :=
 cond (!(lk N ((fB.g a))))
 (
  kr ([]:List Int) 0 0)
 (
  cond (lk N (bT 0 (ac (a.1*a.1))&&bT (ac (a.1*a.1)) a.2.2.length)) (
   cond (lk N (cZ.P (a.2.2.take (ac (a.1*a.1)).toNat))) (
    kr (cZ.g (a.2.2.take (ac (a.1*a.1)).toNat)) a.1 a.1) none) none)
def Spec:Prop:=∀ (v0:MT),Ty.bd (.pair (.int .i64) (.pair (.int .i64) (.sl 0 (.int .i64)))) v0->∃N0,∀N,N0<=N->Z0 N v0 (λv2_2 v2_0 v2_1=>some ((),((v2_0,(v2_1,v2_2)),())))=some ((),((g v0),()))
def ok:Spec:=λm hb=>⟨0,λN hN=>by
 simp only[Z0,aD,g,fB.g];cases h:(bn m&&!decide (bq m=[]));·rfl
 ·have hd:aO m=true:=by simp only[Bool.and_eq_true]at h;have hs:=h.1;simp only[bg,bn,Bool.and_eq_true]at hs;first | exact hs.1.1 | exact hs.1
  obtain⟨h1,h2,h3,h4⟩:=N3 hd;have hP:cZ.P (m.2.2.take (m.1*m.1).toNat)=true:=dt (by rw[List.length_take];omega);rw[h1,jD h2,jD h4,hP];rfl⟩
end jv
namespace bR
def g(m:Int×Int×List Int):List (Int×Int×List Int)×Bool:=jO m
def Z1{J:Type}(N:Nat)(a:MT)(kn:I2 (LI->Option J)):Option J :=
 kn a.1 a.2.1 a.2.2
def Z3{J:Type}(N:Nat)(a b:Int)(c:LI)(kn:LM->Bool->Option J):Option J :=
 kn (b7.g (jv.g (a,(b,c)))).1 (lk N ((b7.g (jv.g (a,(b,c)))).2))
def Z5{J:Type}(N:Nat)(a:LM)(b:Bool)(kn:LM->Option J)(kr:LM->Bool->Option J):Option J :=
 cond (!(b))
 (
  kr ([]:List (MT)) false)
 (
  kn a)
def Z8{J:Type}(N:Nat)(a:LM)(kn:LM->I2 (Option J)):Option J :=
 kn a (a.length:Int) 0
def Z12{J:Type}(N:Nat)(c:LM)(a b:Int)(kn:LM->I2 (Bool->Option J)):Option J :=
 kn c a b (lk N (decide (b<a)))
def Z14{J:Type}(N:Nat)(a:LM)(b c:Int)(d:Bool)(kn:LM->I2 (Option J))(k0:LM->Option J):Option J :=
 cond (d)
 (
  kn a b c)
 (
  k0 a)
def Z18{J:Type}(N:Nat)(a:LM)(c b:Int)(kn:LM->I4 (LI->Option J)):Option J :=
 cond (lk N (ax b a.length)) (
  kn a c b (a.getD b.toNat (0,(0,[]))).1 (a.getD b.toNat (0,(0,[]))).2.1 (a.getD b.toNat (0,(0,[]))).2.2) none
def Z20{J:Type}(N:Nat)(a:LM)(b c d e:Int)(f:LI)(kn:LM->I5 (LI->Option J)):Option J :=
 kn a 0 b c d e f
def Z24{J:Type}(N:Nat)(a:LM)(b c d e f:Int)(g:LI)(kn:LM->I5 (LI->Option J))(k2:LM->I2 (Option J)):Option J :=
 cond (lk N (decide (b<e)))
 (
  kn a b c d e f g)
 (
  k2 a c d)
def Z28{J:Type}(N:Nat)(a:LM)(b c d e f:Int)(g:LI)(kn:LM->I6 (LI->Option J)):Option J :=
 kn a b 0 c d e f g
def Z31{J:Type}(N:Nat)(f:LM)(b c h i a d:Int)(e:LI)(kn:LM->I6 (LI->Option J))(k4:LM->I5 (LI->Option J))(kr:LM->Bool->Option J):Option J :=
 cond (lk N (decide (c<a)))
 (
  cond (lk N (cS.P (a,(d,e)) b c)) (
   cond (lk N (cS.P (a,(d,e)) c b)) (
    cond (lk N (decide ((ac ((cS.g (a,(d,e)) b c)*(cS.g (a,(d,e)) c b)))<(-3))))
    (
     kr ([]:List (MT)) false)
    (
     kn f b (ac (c+1)) h i a d e)) none) none)
 (
  k4 f b h i a d e)
def Z30L{J:Type}(N:Nat)(k4:LM->I5 (LI->Option J))(kr:LM->Bool->Option J):Nat->LM->Int->Int->Int->Int->Int->Int->LI->Option J
 |0,_,_,_,_,_,_,_,_=>none
 |M+1,a,b,c,d,e,f,g,h=>Z31 N a b c d e f g h (λa b c d e f g h=>Z30L N k4 kr M a b c d e f g h) k4 kr
def Z30 N a b c d e f g h k4 kr:=(Z30L N k4 kr N a b c d e f g h:Option J)
def Z29 N a b c d e f g h kn kr:=(Z30 N a b c d e f g h kn kr:Option J)
def Z27 N a b c d e f g kn kr:=(Z28 N a b c d e f g (λa b h c d e f g=>Z29 N a b h c d e f g kn kr):Option J)
def Z26 N a b c d e f g kn kr:=(Z27 N a b c d e f g kn kr:Option J)
def Z32{J:Type}(N:Nat)(a:LM)(b c d e f:Int)(g:LI)(kn:LM->I5 (LI->Option J)):Option J :=
 kn a (ac (b+1)) c d e f g
def Z25 N a b c d e f g kn kr:=(Z26 N a b c d e f g (λa b c d e f g=>Z32 N a b c d e f g kn) kr:Option J)
def Z23 N a b c d e f g kn k2 kr:=(Z24 N a b c d e f g (λa b c d e f g=>Z25 N a b c d e f g kn kr) k2:Option J)
def Z22L{J:Type}(N:Nat)(k2:LM->I2 (Option J))(kr:LM->Bool->Option J):Nat->LM->Int->Int->Int->Int->Int->LI->Option J
 |0,_,_,_,_,_,_,_=>none
 |M+1,a,b,c,d,e,f,g=>Z23 N a b c d e f g (λa b c d e f g=>Z22L N k2 kr M a b c d e f g) k2 kr
def Z22 N a b c d e f g k2 kr:=(Z22L N k2 kr N a b c d e f g:Option J)
def Z21 N a b c d e f g kn kr:=(Z22 N a b c d e f g kn kr:Option J)
def Z19 N a b c d e f kn kr:=(Z20 N a b c d e f (λa g b c d e f=>Z21 N a g b c d e f kn kr):Option J)
def Z17 N a b c kn kr:=(Z18 N a b c (λa b c d e f=>Z19 N a b c d e f kn kr):Option J)
def Z16 N a b c kn kr:=(Z17 N a b c kn kr:Option J)
def Z33{J:Type}(N:Nat)(a:LM)(b c:Int)(kn:LM->I2 (Option J)):Option J :=
 kn a b (ac (c+1))
def Z15 N a b c kn kr:=(Z16 N a b c (λa b c=>Z33 N a b c kn) kr:Option J)
def Z13 N a b c d kn k0 kr:=(Z14 N a b c d (λa b c=>Z15 N a b c kn kr) k0:Option J)
def Z11 N a b c kn k0 kr:=(Z12 N a b c (λa b c d=>Z13 N a b c d kn k0 kr):Option J)
def Z10L{J:Type}(N:Nat)(k0:LM->Option J)(kr:LM->Bool->Option J):Nat->LM->Int->Int->Option J
 |0,_,_,_=>none
 |M+1,a,b,c=>Z11 N a b c (λa b c=>Z10L N k0 kr M a b c) k0 kr
def Z10 N a b c k0 kr:=(Z10L N k0 kr N a b c:Option J)
def Z9 N a b c kn kr:=(Z10 N a b c kn kr:Option J)
def Z7 N a kn kr:=(Z8 N a (λa b c=>Z9 N a b c kn kr):Option J)
def Z34{J:Type}(N:Nat)(a:LM)(kr:LM->Bool->Option J):Option J :=
 kr a true
def Z6 N a kr:=(Z7 N a (λa=>Z34 N a kr) kr:Option J)
def Z4 N a b kr:=(Z5 N a b (λa=>Z6 N a kr) kr:Option J)
def Z2 N a b c kr:=(Z3 N a b c (λd e=>Z4 N d e kr):Option J)
def Z0 N a kr:=(Z1 N a (λb c d=>Z2 N b c d kr):Option J)
def Spec:Prop:=∀ (v0:MT),Ty.bd (.pair (.int .i64) (.pair (.int .i64) (.sl 0 (.int .i64)))) v0->∃N0,∀N,N0<=N->Z0 N v0 (λv2 v3=>some ((),(v2,(v3,()))))=some ((),((g v0).1,((g v0).2,())))
section
variable {J : Type} {N : Nat} {l : List (Int × Int × List Int)} {t0 t1 : Int}
theorem inner{n:Int}{m:Int×Int×List Int}(hf:bU n m){k4:List (Int×Int×List Int)->Int->Int->Int->Int->Int->List Int->Option J}{kr:List (Int×Int×List Int)->Bool->Option J}{i:Nat}(hi:i<m.1.toNat) :
  ∀(M r j:Nat),j+r=m.1.toNat->r<M->Z30L N k4 kr M l (i:Int) (j:Int) t0 t1 m.1 m.2.1 m.2.2=cond ((List.range' j r).all λj=>!decide (fy m i j < -3)) (k4 l (i:Int) t0 t1 m.1 m.2.1 m.2.2) (kr [] false):=by
 have hd:=hf.dim;obtain⟨q,rr,hn,hr',hn1,hn5,hnr,hr8,hl⟩:=bf hd;intro M;induction M with
 |zero=>intro r j _ h;omega
 |succ M ih =>
  intro r j hj hM;simp only[Z30L,Z31];cases r with
  |zero=>rw[cf (df (by omega))];rfl
  |succ r =>
   have p1:cS.P (m.1,(m.2.1,m.2.2)) (i:Int) (j:Int)=true:=jF hd (by omega) (by omega);have p2:cS.P (m.1,(m.2.1,m.2.2)) (j:Int) (i:Int)=true:=jF hd (by omega) (by omega);have g1:cS.g (m.1,(m.2.1,m.2.2)) (i:Int) (j:Int)=aj m i j:=jE (by omega) i j;have g2:cS.g (m.1,(m.2.1,m.2.2)) (j:Int) (i:Int)=aj m j i:=jE (by omega) j i;have hb:=OC hf i j;have hw:ac (aj m i j*aj m j i)=fy m i j:=aM (by unfold fy at hb;omega) (by unfold fy at hb;omega);rw[ct (dt (by omega)),ct p1,ct p2,g1,g2,hw,bh (by rw[bv];omega),List.range'_succ,List.all_cons];by_cases h:fy m i j < -3;·rw[ct (dt h),dt h];rfl
   ·rw[cf (df h),df h,ih r (j+1) (by omega) (by omega)];rfl
theorem outer{n:Int}{m:Int×Int×List Int}(hf:bU n m)(hN:200<=N){k2:List (Int×Int×List Int)->Int->Int->Option J}{kr:List (Int×Int×List Int)->Bool->Option J} :
  ∀(M r i:Nat),i+r=m.1.toNat->r<M->Z22L N k2 kr M l (i:Int) t0 t1 m.1 m.2.1 m.2.2=cond ((List.range' i r).all λi=>(List.range' 0 m.1.toNat).all λj=>!decide (fy m i j < -3)) (k2 l t0 t1) (kr [] false):=by
 obtain⟨q,rr,hn,hr',hn1,hn5,hnr,hr8,hl⟩:=bf hf.dim;intro M;induction M with
 |zero=>intro r i _ h;omega
 |succ M ih =>
  intro r i hi hM;simp only[Z22L,Z23,Z24];cases r with
  |zero=>rw[cf (df (by omega))];rfl
  |succ r =>
   rw[ct (dt (by omega))];simp only[Z25,Z26,Z27,Z28,Z29,Z30];refine(inner hf (by omega) N m.1.toNat 0 (by omega) (by omega)).trans ?_;rw[List.range'_succ,List.all_cons];cases(List.range' 0 m.1.toNat).all λj=>!decide (fy m i j < -3);·rfl
   ·simp only[cond_true,Z32,Bool.true_and];rw[bh (by rw[bv];omega)];exact ih r (i+1) (by omega) (by omega)
theorem loop{n:Int}(hN:200<=N){k0:List (Int×Int×List Int)->Option J}{kr:List (Int×Int×List Int)->Bool->Option J}(hl:d9 n l)(hlen:l.length<=100) :
  ∀(M r i:Nat),i+r=l.length->r<M->Z10L N k0 kr M l (l.length:Int) (i:Int)=cond ((l.drop i).all m7) (k0 l) (kr [] false):=by
 intro M;induction M with
 |zero=>intro r i _ h;omega
 |succ M ih =>
  intro r i hi hM;simp only[Z10L,Z11,Z12,Z13,Z14,aD];cases r with
  |zero=>rw[fI (df (by omega)),List.drop_of_length_le (by omega)];rfl
  |succ r =>
   have hf:=qM hl (a:=i) (by omega);obtain⟨b1,b2,_⟩:=hf.bound;have h1:=hf.2.1;rw[gi (dt (by omega))];simp only[Z15,Z16,Z17,Z18];rw[ct (aN (by omega)),Int.toNat_natCast];simp only[Z19,Z20,Z21,Z22];refine(outer hf hN N (l.getD i z3).1.toNat 0 (by omega) (by omega)).trans ?_;rw[dB z3 (by omega:i<l.length),List.all_cons];show cond (m7 (l.getD i z3)) _ _=_;cases m7 (l.getD i z3);·rfl
   ·simp only[cond_true,Z33,Bool.true_and];rw[bh (by rw[bv];omega)];exact ih r (i+1) (by omega) (by omega)
end
def ok:Spec:=λm hb=>⟨200,λN hN=>by
 simp only[Z0,Z1,Z2,Z3,aD];have e0:((m.1,(m.2.1,m.2.2)):Int×Int×List Int)=m:=rfl;have e1:b7.g (jv.g m)=dG (jN m):=by unfold jv.g jN;rw[jL];rfl
 rw[e0,e1];simp only[Z4,Z5,g];unfold jO;cases h2:(dG (jN m)).2;·rfl
 ·obtain⟨_,f1,f2,f3⟩:=OE h2;simp only[Bool.not_true,cond_false,Z6,Z7,Z8,Z9,Z10];refine(loop hN f1 f3 N (dG (jN m)).1.length 0 (by omega) (by omega)).trans ?_;simp only[List.drop_zero,Z34,Bool.true_and];cases(dG (jN m)).1.all m7<;>rfl⟩
end bR
namespace kK
def g(m:Int×Int×List Int):Bool:=(jO m).2
def Z0{J:Type}(N:Nat)(a:MT)(kr:Bool->Option J):Option J :=
 kr (lk N ((bR.g a).2))
def Spec:Prop:=∀ (v0:MT),Ty.bd (.pair (.int .i64) (.pair (.int .i64) (.sl 0 (.int .i64)))) v0->∃N0,∀N,N0<=N->Z0 N v0 (λv2=>some ((),(v2,())))=some ((),((g v0),()))
def ok:Spec:=λm hb=>⟨0,λN hN=>by simp only[Z0,aD,g];rfl⟩
end kK
namespace jV
abbrev g(_:Int×Int×List Int):List (List Int)×Bool:=([],false)
abbrev P(_:Int×Int×List Int):Bool:=false
def ok:True:=trivial
end jV
namespace kM
abbrev g(_:Int×Int×List Int)(_:List Int):ByteArray:=ByteArray.empty
abbrev P(_:Int×Int×List Int)(_:List Int):Bool:=false
def ok:True:=trivial
end kM
namespace kN
abbrev g(l:List ByteArray):List ByteArray:=l
abbrev P(_:List ByteArray):Bool:=false
def ok:True:=trivial
end kN
namespace bW
def P(m:Int×Int×List Int):Bool:=!(jO m).2
def g(_:Int×Int×List Int):ByteArray:=ByteArray.empty
def Z1{J:Type}(N:Nat)(a:MT)(kn:I2 (LI->Option J)):Option J :=
 kn a.1 a.2.1 a.2.2
def Z3{J:Type}(N:Nat)(a b:Int)(c:LI)(kn:LM->Bool->Option J):Option J :=
 kn (bR.g (a,(b,c))).1 (lk N ((bR.g (a,(b,c))).2))
def Z5{J:Type}(N:Nat)(a:LM)(b:Bool)(kn:LM->Option J)(kr:ByteArray->Option J):Option J :=
 cond (!(b))
 (
  kr ByteArray.empty)
 (
  kn a)
def Z8{J:Type}(N:Nat)(a:LM)(kn:LM->I2 (Option J)):Option J :=
 kn a (a.length:Int) 0
def Z12{J:Type}(N:Nat)(c:LM)(a b:Int)(kn:LM->I2 (Bool->Option J)):Option J :=
 kn c a b (lk N (decide (b<a)))
def Z14{J:Type}(N:Nat)(a:LM)(b c:Int)(d:Bool)(kn:LM->I2 (Option J))(k0:Option J):Option J :=
 cond (d)
 (
  kn a b c)
 (
  k0)
def Z18{J:Type}(N:Nat)(a:LM)(c b:Int)(kn:LM->I4 (LI->Option J)):Option J :=
 cond (lk N (ax b a.length)) (
  kn a c b (a.getD b.toNat (0,(0,[]))).1 (a.getD b.toNat (0,(0,[]))).2.1 (a.getD b.toNat (0,(0,[]))).2.2) none
def Z20{J:Type}(N:Nat)(d:LM)(e f a b:Int)(c:LI)(kn:LL->LM->Bool->I4 (LI->Option J)):Option J :=
 cond (lk N (jV.P (a,(b,c)))) (
  kn (jV.g (a,(b,c))).1 d (lk N ((jV.g (a,(b,c))).2)) e f a b c) none
def Z22{J:Type}(N:Nat)(b:LL)(a:LM)(c:Bool)(d e f g:Int)(h:LI)(kn:LL->LM->I2 (LI->Option J))(k1:LM->I2 (Option J)):Option J :=
 cond (!(c))
 (
  k1 a d e)
 (
  kn b a f g h)
def Z24{J:Type}(N:Nat)(a:LL)(b:LM)(c d:Int)(e:LI)(kn:LL->LM->I2 (LI->Option J)):Option J :=
 kn a b c d e
def Z27{J:Type}(N:Nat)(a:LL)(b:LM)(c d:Int)(e:LI)(kn:LM->LL->I4 (LI->Option J)):Option J :=
 kn b a (a.length:Int) 0 c d e
def Z30{J:Type}(N:Nat)(f:List ByteArray)(i:LM)(b:LL)(h a c d:Int)(e:LI)(kn:List ByteArray->LM->LL->I4 (LI->Option J))(k2:List ByteArray->Option J):Option J :=
 cond (lk N (decide (a<h)))
 (
  cond (lk N (ax a b.length)) (
   cond (lk N (kM.P (c,(d,e)) (b.getD a.toNat []))) (
    cond (lk N (Nat.blt (f.length+([(kM.g (c,(d,e)) (b.getD a.toNat []))]:List ByteArray).length) 1099511627776)) (
     kn (f++([(kM.g (c,(d,e)) (b.getD a.toNat []))]:List ByteArray)) i b h (ac (a+1)) c d e) none) none) none)
 (
  k2 f)
def Z29L{J:Type}(N:Nat)(k2:List ByteArray->Option J):Nat->List ByteArray->LM->LL->Int->Int->Int->Int->LI->Option J
 |0,_,_,_,_,_,_,_,_=>none
 |M+1,a,b,c,d,e,f,g,h=>Z30 N a b c d e f g h (λa b c d e f g h=>Z29L N k2 M a b c d e f g h) k2
def Z29 N a b c d e f g k2:=(Z29L N k2 N ([]:List ByteArray) a b c d e f g:Option J)
def Z28 N a b c d e f g kn:=(Z29 N a b c d e f g kn:Option J)
def Z26 N e a b c d kn:=(Z27 N e a b c d (λa f g h b c d=>Z28 N a f g h b c d kn):Option J)
def Z31{J:Type}(N:Nat)(a:List ByteArray)(kr:ByteArray->Option J):Option J :=
 cond (lk N (kN.P a)) (
  cond (lk N (strings_Join.P (kN.g a) (⟨#[32]⟩:ByteArray))) (
   kr (strings_Join.g (kN.g a) (⟨#[32]⟩:ByteArray))) none) none
def Z25 N a b c d e kr:=(Z26 N a b c d e (λf=>Z31 N f kr):Option J)
def Z23 N a b c d e kr:=(Z24 N a b c d e (λa b c d e=>Z25 N a b c d e kr):Option J)
def Z21 N a b f g h c d e k1 kr:=(Z22 N a b f g h c d e (λa b c d e=>Z23 N a b c d e kr) k1:Option J)
def Z19 N a b c d e f k1 kr:=(Z20 N a b c d e f (λg a h b c d e f=>Z21 N g a h b c d e f k1 kr):Option J)
def Z17 N a b c k1 kr:=(Z18 N a b c (λa b c d e f=>Z19 N a b c d e f k1 kr):Option J)
def Z16 N a b c kn kr:=(Z17 N a b c kn kr:Option J)
def Z32{J:Type}(N:Nat)(a:LM)(b c:Int)(kn:LM->I2 (Option J)):Option J :=
 kn a b (ac (c+1))
def Z15 N a b c kn kr:=(Z16 N a b c (λa b c=>Z32 N a b c kn) kr:Option J)
def Z13 N a b c d kn k0 kr:=(Z14 N a b c d (λa b c=>Z15 N a b c kn kr) k0:Option J)
def Z11 N a b c kn k0 kr:=(Z12 N a b c (λa b c d=>Z13 N a b c d kn k0 kr):Option J)
def Z10L{J:Type}(N:Nat)(k0:Option J)(kr:ByteArray->Option J):Nat->LM->Int->Int->Option J
 |0,_,_,_=>none
 |M+1,a,b,c=>Z11 N a b c (λa b c=>Z10L N k0 kr M a b c) k0 kr
def Z10 N a b c k0 kr:=(Z10L N k0 kr N a b c:Option J)
def Z9 N a b c kn kr:=(Z10 N a b c kn kr:Option J)
def Z7 N a kn kr:=(Z8 N a (λb c d=>Z9 N b c d kn kr):Option J)
def Z33{J:Type}(N:Nat) (kr:ByteArray->Option J):Option J :=
 kr ByteArray.empty
def Z6 N a kr:=(Z7 N a (Z33 N kr) kr:Option J)
def Z4 N a b kr:=(Z5 N a b (λa=>Z6 N a kr) kr:Option J)
def Z2 N a b c kr:=(Z3 N a b c (λd e=>Z4 N d e kr):Option J)
def Z0 N a kr:=(Z1 N a (λb c d=>Z2 N b c d kr):Option J)
def Spec:Prop:=∀ (v0:MT),Ty.bd (.pair (.int .i64) (.pair (.int .i64) (.sl 0 (.int .i64)))) v0->P v0=true->∃N0,∀N,N0<=N->Z0 N v0 (λv2=>some ((),(v2,())))=some ((),((g v0),()))
def ok:Spec:=λm hb hp=>⟨200,λN hN=>by
 have gf:bR.g (m.1,(m.2.1,m.2.2))=jO m:=rfl;have hf:(jO m).2=false:=by simpa[P]using hp
 simp only[Z1,Z3,Z5,Z8,Z12,Z14,Z18,Z20,Z22,Z24,Z27,Z30,Z29,Z28,Z26,Z31,Z25,Z23,Z21,Z19,Z17,Z16,Z32,Z15,Z13,Z11,Z10,Z9,Z7,Z33,Z6,Z4,Z2,Z0,gf,aD,hf];rfl⟩
end bW
namespace db
def g(m:Int×Int×List Int)(ks:List Int):(Int×Int×List Int)×Bool :=
 if((bn m&&!decide (bq m=[]))&&decide ((ks.length:Int)<=40))=true then eY cu.g m ks else yY
def Z1{J:Type}(N:Nat)(a:MT)(b:LI)(kn:LI->I2 (LI->I2 (Option J))):Option J :=
 kn b a.1 a.2.1 a.2.2 0 0
def Z3{J:Type}(N:Nat)(a:LI)(b c:Int)(d:LI)(e f:Int)(kn:LI->I2 (LI->I2 (Option J)))(kr:LI->Bool->I2 (Option J)):Option J :=
 cond (!(lk N ((fB.g (b,(c,d))))))
 (
  kr ([]:List Int) false 0 0)
 (
  cond (lk N (decide (40<(a.length:Int))))
  (
   kr ([]:List Int) false 0 0)
  (
   kn a b c d e f))
def Z5{J:Type}(N:Nat)(b:LI)(c d:Int)(a:LI)(e f:Int)(kn:LI->LI->I4 (Option J)):Option J :=
 ce (
  cond (lk N (cZ.P a)) (
   bo (
    kn (cZ.g a) b e f c d)) none)
 (
  cond (lk N (cZ.P a)) (
   kn (cZ.g a) b e f c d) none)
def Z7{J:Type}(N:Nat)(a b:LI)(c d e f:Int)(kn:LI->LI->I4 (Option J)):Option J :=
 kn a b c d e f
def Z10{J:Type}(N:Nat)(b a:LI)(c d e f:Int)(kn:LI->LI->I6 (Option J)):Option J :=
 kn b a (a.length:Int) 0 c d e f
def Z13{J:Type}(N:Nat)(c b:LI)(f a h i d e:Int)(kn:LI->LI->I6 (Option J))(k0:LI->I4 (Option J))(kr:LI->Bool->I2 (Option J)):Option J :=
 cond (lk N (decide (a<f)))
 (
  cond (lk N (ax a b.length)) (
   cond (!(lk N ((cu.g (d,(e,c)) (b.getD a.toNat 0)).2)))
   (
    kr ([]:List Int) false 0 0)
   (
    kn (cu.g (d,(e,c)) (b.getD a.toNat 0)).1.2.2 b f (ac (a+1)) h i (cu.g (d,(e,c)) (b.getD a.toNat 0)).1.1 (cu.g (d,(e,c)) (b.getD a.toNat 0)).1.2.1)) none)
 (
  k0 c h i d e)
def Z12L{J:Type}(N:Nat)(k0:LI->I4 (Option J))(kr:LI->Bool->I2 (Option J)):Nat->LI->LI->Int->Int->Int->Int->Int->Int->Option J
 |0,_,_,_,_,_,_,_,_=>none
 |M+1,a,b,c,d,e,f,g,h=>Z13 N a b c d e f g h (λa b c d e f g h=>Z12L N k0 kr M a b c d e f g h) k0 kr
def Z12 N a b c d e f g h k0 kr:=(Z12L N k0 kr N a b c d e f g h:Option J)
def Z11 N a b c d e f g h kn kr:=(Z12 N a b c d e f g h kn kr:Option J)
def Z9 N a f b c d e kn kr:=(Z10 N a f b c d e (λa g h i b c d e=>Z11 N a g h i b c d e kn kr):Option J)
def Z14{J:Type}(N:Nat)(a:LI)(d e b c:Int)(kr:LI->Bool->I2 (Option J)):Option J :=
 kr a true b c
def Z8 N a f b c d e kr:=(Z9 N a f b c d e (λa b c d e=>Z14 N a b c d e kr) kr:Option J)
def Z6 N a b c d e f kr:=(Z7 N a b c d e f (λa b c d e f=>Z8 N a b c d e f kr):Option J)
def Z4 N a d e f b c kr:=(Z5 N a d e f b c (λg a b c h i=>Z6 N g a b c h i kr):Option J)
def Z2 N a b c d e f kr:=(Z3 N a b c d e f (λa b c d e f=>Z4 N a b c d e f kr) kr:Option J)
def Z0 N b a kr:=(Z1 N b a (λa c d e f g=>Z2 N a c d e f g kr):Option J)
def Spec:Prop:=∀ (v0:MT) (v1:LI),Ty.bd (.pair (.int .i64) (.pair (.int .i64) (.sl 0 (.int .i64)))) v0->Ty.bd (.sl 0 (.int .i64)) v1->∃N0,∀N,N0<=N->Z0 N v0 v1 (λv4_2 v5 v4_0 v4_1=>some ((),((v4_0,(v4_1,v4_2)),(v5,()))))=some ((),((g v0 v1).1,((g v0 v1).2,())))
def loop{J:Type}(N:Nat)(kr:List Int->Bool->Int->Int->Option J)(t0 t1:Int)(ks:List Int)(hk:ks.length<=maxLen):∀(M j:Nat) (m:Int×Int×List Int),j<=ks.length->ks.length-j<M ->
  Z12L N (λa b c d e=>Z14 N a b c d e kr) kr M m.2.2 ks (ks.length:Int) (j:Int) t0 t1 m.1 m.2.1=kr (eY cu.g m (ks.drop j)).1.2.2 (eY cu.g m (ks.drop j)).2 (eY cu.g m (ks.drop j)).1.1 (eY cu.g m (ks.drop j)).1.2.1:=by
 intro M;induction M with
 |zero=>intro j _ _ h;omega
 |succ M ih =>
  intro j m hj hM;simp only[Z12L,Z13];by_cases h:j<ks.length
  ·have hv:cu.g (m.1,(m.2.1,m.2.2)) (ks.getD j 0)=cu.g m (ks.getD j 0):=rfl;rw[ct (dt (by omega)),ct (aN h),Int.toNat_natCast,hv,dB 0 h,eY,bh (by omega)];cases hb:(cu.g m (ks.getD j 0)).2;·rw[gi (by rw[aD];rfl),if_neg (by simp)];rfl
   ·rw[fI (by rw[aD];rfl),if_pos rfl];exact ih (j+1) _ h (by omega)
  ·rw[cf (df (by omega)),List.drop_of_length_le (by omega),eY];rfl
def ok:Spec:=λm ks hb hv=>⟨ks.length+10,λN hN=>by
 have e0:fB.g (m.1,(m.2.1,m.2.2))=(bn m&&!decide (bq m=[])):=rfl;simp only[Z0,Z1,Z2,Z3,e0,g,aD];cases h1:(bn m&&!decide (bq m=[]));·rfl
 have hs:bn m=true:=by simp only[Bool.and_eq_true]at h1;exact h1.1
 have hd:=dE hs;obtain⟨n,r,hn,hr,hn1,hn5,hnr,hr8,hl⟩:=bf hd;have hlen:m.2.2.length<=8*5:=by rw[hl];exact Nat.mul_le_mul hr8 hn5
 by_cases h2:(ks.length:Int)<=40;·rw[df (show ¬ (40:Int)<ks.length by omega),dt h2];simp only[Bool.not_true,cond_false,Z4,Z5];rw[ct (show cZ.P m.2.2=true from dt (by omega)),ct (show cZ.P m.2.2=true from dt (by omega))];simp only[bo,fG];simp only[Z6,Z7,Z8,Z9,Z10,Z11,Z12];have:=loop (J:=Unit×(Int×Int×List Int)×Bool×Unit) N (λt4_2 t5 t4_0 t4_1=>some ((),((t4_0,(t4_1,t4_2)),(t5,())))) 0 0 ks hv.1 N 0 m (by omega) (by omega);rw[show((0:Nat):Int)=0 from rfl,List.drop_zero]at this;exact this
 ·rw[dt (show(40:Int)<ks.length by omega),df h2];rfl⟩
end db
namespace eR
def g(a b:List Int):Bool:=decide (a=b)
def Z1{J:Type}(N:Nat)(a b:LI)(kn:LI->LI->Option J):Option J :=
 kn a b
def Z3{J:Type}(N:Nat)(a b:LI)(kn:LI->LI->Option J)(kr:Bool->Option J):Option J :=
 cond (lk N (!(decide ((a.length:Int)=(b.length:Int)))))
 (
  kr false)
 (
  kn a b)
def Z6{J:Type}(N:Nat)(a b:LI)(kn:LI->LI->Int->Option J):Option J :=
 kn a b 0
def Z9{J:Type}(N:Nat)(b c:LI)(a:Int)(kn:LI->LI->Int->Option J)(k0:Option J)(kr:Bool->Option J):Option J :=
 cond (lk N (decide (a<(b.length:Int))))
 (
  cond (lk N (ax a b.length)) (
   cond (lk N (ax a c.length)) (
    cond (lk N (!(decide ((b.getD a.toNat 0)=(c.getD a.toNat 0)))))
    (
     kr false)
    (
     kn b c (ac (a+1)))) none) none)
 (
  k0)
def Z8L{J:Type}(N:Nat)(k0:Option J)(kr:Bool->Option J):Nat->LI->LI->Int->Option J
 |0,_,_,_=>none
 |M+1,a,b,c=>Z9 N a b c (λa b c=>Z8L N k0 kr M a b c) k0 kr
def Z8 N a b c k0 kr:=(Z8L N k0 kr N a b c:Option J)
def Z7 N a b c kn kr:=(Z8 N a b c kn kr:Option J)
def Z5 N a b kn kr:=(Z6 N a b (λa b c=>Z7 N a b c kn kr):Option J)
def Z10{J:Type}(N:Nat) (kr:Bool->Option J):Option J :=
 kr true
def Z4 N a b kr:=(Z5 N a b (Z10 N kr) kr:Option J)
def Z2 N a b kr:=(Z3 N a b (λa b=>Z4 N a b kr) kr:Option J)
def Z0 N a b kr:=(Z1 N a b (λa b=>Z2 N a b kr):Option J)
def Spec:Prop:=∀ (v0 v1:LI),Ty.bd (.sl 0 (.int .i64)) v0->Ty.bd (.sl 0 (.int .i64)) v1->∃N0,∀N,N0<=N->Z0 N v0 v1 (λv4=>some ((),(v4,())))=some ((),((g v0 v1),()))
def loop{J:Type}(N:Nat)(k0:Option J)(kr:Bool->Option J)(a b:List Int)(hl:a.length=b.length)(ha:a.length<=maxLen):∀(M j:Nat),j<=a.length->a.length-j<M ->
  Z8L N k0 kr M a b (j:Int)=if a.drop j=b.drop j then k0 else kr false:=by
 intro M;induction M with
 |zero=>intro j _ h;omega
 |succ M ih =>
  intro j hj hM;simp only[Z8L,Z9];by_cases h:j<a.length
  ·rw[ct (dt (by omega)),ct (aN h),ct (aN (by omega)),Int.toNat_natCast,bh (by omega),ih (j+1) h (by omega),dB 0 h,dB (l:=b) (j:=j) 0 (by omega)];by_cases e:a.getD j 0=b.getD j 0;·rw[cf (nf e),e];simp only[List.cons.injEq,true_and]
   ·rw[ct (nt e),if_neg (by simp only[List.cons.injEq];exact λh=>e h.1)]
  ·rw[cf (df (by omega)),if_pos (by rw[List.drop_of_length_le (by omega),List.drop_of_length_le (by omega)])]
def ok:Spec:=λa b ha hb=>⟨a.length+1,λN hN=>by
 simp only[Z1,Z3,Z6,Z9,Z8,Z7,Z5,Z10,Z4,Z2,Z0];by_cases hl:a.length=b.length;·rw[cf (nf (by omega))];rw[show(0:Int)=((0:Nat):Int)from rfl,loop _ _ _ a b hl ha.1 N 0 (by omega) (by omega)];by_cases e:a=b<;>simp[e,g]
 ·rw[ct (nt (by omega))];have:a≠b:=λe=>hl (by rw[e]);simp[g,this]⟩
end eR
namespace iT
def g(a b:Int×Int×List Int):Bool:=decide (a=b)
def Z0{J:Type}(N:Nat)(a b:MT)(kr:Bool->Option J):Option J :=
 cond (lk N (decide (a.1=b.1)))
 (
  cond (lk N (decide (a.2.1=b.2.1)))
  (
   kr (lk N ((eR.g a.2.2 b.2.2))))
  (
   kr false))
 (
  kr false)
def Spec:Prop:=∀ (v0 v1:MT),Ty.bd (.pair (.int .i64) (.pair (.int .i64) (.sl 0 (.int .i64)))) v0->Ty.bd (.pair (.int .i64) (.pair (.int .i64) (.sl 0 (.int .i64)))) v1->∃N0,∀N,N0<=N->Z0 N v0 v1 (λv4=>some ((),(v4,())))=some ((),((g v0 v1),()))
def ok:Spec:=λa b ha hb=>⟨0,λN hN=>by
 obtain⟨a1,a2,a3⟩:=a;obtain⟨b1,b2,b3⟩:=b;simp only[Z0,aD,g,eR.g];by_cases h1:a1=b1
 ·by_cases h2:a2=b2;·by_cases h3:a3=b3<;>simp[h1,h2,h3]
  ·simp[h1,h2]
 ·simp[h1]⟩
end iT
namespace fC
def g(a b:List Int):Bool:=bK a b
def Z1{J:Type}(N:Nat)(a b:LI)(kn:LI->LI->Option J):Option J :=
 kn a b
def Z4{J:Type}(N:Nat)(a b:LI)(kn:LI->LI->Int->Option J):Option J :=
 kn a b 0
def Z7{J:Type}(N:Nat)(b c:LI)(a:Int)(kn:LI->LI->Int->Option J)(k0:LI->LI->Option J)(kr:Bool->Option J):Option J :=
 cond (lk N (decide (a<(b.length:Int))))
 (
  cond (lk N (decide (a<(c.length:Int))))
  (
   cond (lk N (ax a b.length)) (
    cond (lk N (ax a c.length)) (
     cond (lk N (!(decide ((b.getD a.toNat 0)=(c.getD a.toNat 0)))))
     (
      cond (lk N (ax a b.length)) (
       cond (lk N (ax a c.length)) (
        kr (lk N (decide ((b.getD a.toNat 0)<(c.getD a.toNat 0))))) none) none)
     (
      kn b c (ac (a+1)))) none) none)
  (
   k0 b c))
 (
  k0 b c)
def Z6L{J:Type}(N:Nat)(k0:LI->LI->Option J)(kr:Bool->Option J):Nat->LI->LI->Int->Option J
 |0,_,_,_=>none
 |M+1,a,b,c=>Z7 N a b c (λa b c=>Z6L N k0 kr M a b c) k0 kr
def Z6 N a b c k0 kr:=(Z6L N k0 kr N a b c:Option J)
def Z5 N a b c kn kr:=(Z6 N a b c kn kr:Option J)
def Z3 N a b kn kr:=(Z4 N a b (λa b c=>Z5 N a b c kn kr):Option J)
def Z8{J:Type}(N:Nat)(a b:LI)(kr:Bool->Option J):Option J :=
 kr (lk N (decide ((a.length:Int)<(b.length:Int))))
def Z2 N a b kr:=(Z3 N a b (λa b=>Z8 N a b kr) kr:Option J)
def Z0 N a b kr:=(Z1 N a b (λa b=>Z2 N a b kr):Option J)
def Spec:Prop:=∀ (v0 v1:LI),Ty.bd (.sl 0 (.int .i64)) v0->Ty.bd (.sl 0 (.int .i64)) v1->∃N0,∀N,N0<=N->Z0 N v0 v1 (λv4=>some ((),(v4,())))=some ((),((g v0 v1),()))
def same{J:Type}{N:Nat}{k0:List Int->List Int->Option J}{kr:Bool->Option J}:∀(M:Nat) (a b:List Int) (i:Int),Z6L N k0 kr M a b i=dP.Z6L N k0 kr M a b i
 |0,_,_,_=>rfl
 |M+1,a,b,i=>by simp only[Z6L,dP.Z6L,Z7,dP.Z7,same M]
def ok:Spec:=λa b ha hb=>by obtain⟨N0,h⟩:=dP.ok a b ha hb;exact⟨N0,λN hN=>(same N a b 0).trans (h N hN)⟩
end fC
namespace cp
def g(_:List Int):Bool:=true
def Z1{J:Type}(N:Nat)(a:List Int)(kn:List Int->Option J):Option J :=
 kn a
def Z3{J:Type}(N:Nat)(a:List Int)(kn:List Int->Option J)(kr:Bool->Option J):Option J :=
 cond (lk N ((kG.g a)))
 (
  kr true)
 (
  kn a)
def Z5{J:Type}(N:Nat)(a:List Int)(kn:LI->LI->I2 (Option J)):Option J :=
 kn (gr.g a).2 (gr.g a).1.2.2 (gr.g a).1.1 (gr.g a).1.2.1
def Z7{J:Type}(N:Nat)(d a:LI)(b c:Int)(kn:LI->LM->LI->Bool->I2 (Option J)):Option J :=
 kn d (b7.g (b,(c,a))).1 a (lk N ((b7.g (b,(c,a))).2)) b c
def Z9{J:Type}(N:Nat)(d:LI)(e:LM)(a:LI)(f:Bool)(b c:Int)(kn:LI->LM->LI->Bool->Bool->I2 (Option J)):Option J :=
 kn d e a f (lk N ((cy.g (b,(c,a))).2)) b c
def Z11{J:Type}(N:Nat)(b:LI)(c:LM)(d:LI)(a e:Bool)(f g:Int)(kn:LI->LM->LI->Bool->I2 (Option J))(kr:Bool->Option J):Option J :=
 cond (lk N (!((a == e))))
 (
  kr false)
 (
  kn b c d a f g)
def Z13{J:Type}(N:Nat)(d:LI)(e:LM)(a:LI)(f:Bool)(b c:Int)(kn:LI->LM->LI->I2 (Option J))(kr:Bool->Option J):Option J :=
 cond (!(f))
 (
  cond (!(lk N ((kK.g (b,(c,a))))))
  (
   cond (lk N (bW.P (b,(c,a)))) (
    kr (lk N (gu (bW.g (b,(c,a))) ByteArray.empty))) none)
  (
   kr false))
 (
  kn d e a b c)
def Z15{J:Type}(N:Nat)(d:LI)(e:LM)(a:LI)(b c:Int)(kn:LM->LI->LI->Bool->I4 (Option J)):Option J :=
 kn e a (db.g (b,(c,a)) d).1.2.2 (lk N ((db.g (b,(c,a)) d).2)) b c (db.g (b,(c,a)) d).1.1 (db.g (b,(c,a)) d).1.2.1
def Z17{J:Type}(N:Nat)(a:LM)(b c:LI)(d:Bool)(e f g h:Int)(kn:LM->LI->LI->I4 (Option J))(kr:Bool->Option J):Option J :=
 cond (!(d))
 (
  kr false)
 (
  kn a b c e f g h)
def Z19{J:Type}(N:Nat)(d:LM)(e a:LI)(f h b c:Int)(kn:LM->LM->LI->Bool->I2 (Option J)):Option J :=
 kn d (b7.g (b,(c,a))).1 e (lk N ((b7.g (b,(c,a))).2)) f h
def Z21{J:Type}(N:Nat)(a b:LM)(c:LI)(d:Bool)(e f:Int)(kn:LM->LM->LI->I2 (Option J))(kr:Bool->Option J):Option J :=
 cond (!(d))
 (
  kr false)
 (
  cond (lk N (!(decide ((b.length:Int)=(a.length:Int)))))
  (
   kr false)
  (
   kn a b c e f))
def Z23{J:Type}(N:Nat)(d e:LM)(a:LI)(b c:Int)(kn:LM->LM->LI->Bool->I2 (Option J)):Option J :=
 kn d e (cb.g (b,(c,a))).1.2.2 (lk N ((cb.g (b,(c,a))).2)) (cb.g (b,(c,a))).1.1 (cb.g (b,(c,a))).1.2.1
def Z25{J:Type}(N:Nat)(a b:LM)(c:LI)(d:Bool)(e f:Int)(kn:LM->LM->LI->Bool->Bool->I2 (Option J)):Option J :=
 kn a b c d false e f
def Z28{J:Type}(N:Nat)(a b:LM)(c:LI)(d e:Bool)(f g:Int)(kn:LM->LM->LI->Bool->Bool->I3 (Option J)):Option J :=
 kn a b c d e 0 f g
def Z31{J:Type}(N:Nat)(b c:LM)(d:LI)(h i:Bool)(a e f:Int)(kn:LM->LM->LI->Bool->Bool->I3 (Option J))(k0:Bool->Bool->Option J)(kr:Bool->Option J):Option J :=
 cond (lk N (decide (a<(b.length:Int))))
 (
  cond (lk N (ax a b.length)) (
   cond (lk N (ax a c.length)) (
    cond (!(lk N ((iT.g (b.getD a.toNat (0,(0,[]))) (c.getD a.toNat (0,(0,[])))))))
    (
     kr false)
    (
     cond (lk N (decide (0<a)))
     (
      cond (lk N (ax (ac (a-1)) b.length)) (
       cond (lk N (ax a b.length)) (
        cond (!(lk N ((fC.g (b.getD (ac (a-1)).toNat (0,(0,[]))).2.2 (b.getD a.toNat (0,(0,[]))).2.2))))
        (
         kr false)
        (
         cond (i)
         (
          kn b c d h true (ac (a+1)) e f)
         (
          cond (lk N (ax a b.length)) (
           kn b c d h (lk N ((iT.g (b.getD a.toNat (0,(0,[]))) (e,(f,d))))) (ac (a+1)) e f) none))) none) none)
     (
      cond (i)
      (
       kn b c d h true (ac (a+1)) e f)
      (
       cond (lk N (ax a b.length)) (
        kn b c d h (lk N ((iT.g (b.getD a.toNat (0,(0,[]))) (e,(f,d))))) (ac (a+1)) e f) none)))) none) none)
 (
  k0 h i)
def Z30L{J:Type}(N:Nat)(k0:Bool->Bool->Option J)(kr:Bool->Option J):Nat->LM->LM->LI->Bool->Bool->Int->Int->Int->Option J
 |0,_,_,_,_,_,_,_,_=>none
 |M+1,a,b,c,d,e,f,g,h=>Z31 N a b c d e f g h (λa b c d e f g h=>Z30L N k0 kr M a b c d e f g h) k0 kr
def Z30 N a b c d e f g h k0 kr:=(Z30L N k0 kr N a b c d e f g h:Option J)
def Z29 N a b c d e f g h kn kr:=(Z30 N a b c d e f g h kn kr:Option J)
def Z27 N a b c d e f g kn kr:=(Z28 N a b c d e f g (λa b c d e h f g=>Z29 N a b c d e h f g kn kr):Option J)
def Z32{J:Type}(N:Nat)(a b:Bool)(kr:Bool->Option J):Option J :=
 cond (a)
 (
  kr b)
 (
  kr false)
def Z26 N c d e a b f g kr:=(Z27 N c d e a b f g (λa b=>Z32 N a b kr) kr:Option J)
def Z24 N a b c d e f kr:=(Z25 N a b c d e f (λa b c d g e f=>Z26 N a b c d g e f kr):Option J)
def Z22 N a b c d e kr:=(Z23 N a b c d e (λa b f g h i=>Z24 N a b f g h i kr):Option J)
def Z20 N a b c f d e kr:=(Z21 N a b c f d e (λa b c d e=>Z22 N a b c d e kr) kr:Option J)
def Z18 N a b e c d f g kr:=(Z19 N a b e c d f g (λa h b i c d=>Z20 N a h b i c d kr):Option J)
def Z16 N a b c h d e f g kr:=(Z17 N a b c h d e f g (λa b c d e f g=>Z18 N a b c d e f g kr) kr:Option J)
def Z14 N e a b c d kr:=(Z15 N e a b c d (λa b f g c d h i=>Z16 N a b f g c d h i kr):Option J)
def Z12 N a b c f d e kr:=(Z13 N a b c f d e (λa b c d e=>Z14 N a b c d e kr) kr:Option J)
def Z10 N a b c d g e f kr:=(Z11 N a b c d g e f (λa b c d e f=>Z12 N a b c d e f kr) kr:Option J)
def Z8 N a b c d e f kr:=(Z9 N a b c d e f (λa b c d g e f=>Z10 N a b c d g e f kr):Option J)
def Z6 N a b c d kr:=(Z7 N a b c d (λa e b f c d=>Z8 N a e b f c d kr):Option J)
def Z4 N a kr:=(Z5 N a (λb c d e=>Z6 N b c d e kr):Option J)
def Z2 N a kr:=(Z3 N a (λa=>Z4 N a kr) kr:Option J)
def Z0 N a kr:=(Z1 N a (λa=>Z2 N a kr):Option J)
def Spec:Prop:=∀ (v0:List Int),Ty.bd (.sl 0 (.int .u8)) v0->∃N0,∀N,N0<=N->Z0 N v0 (λv2=>some ((),(v2,())))=some ((),((g v0),()))
def Pl{n:Int}{x:Int×Int×List Int}(hx:bU n x){k:Nat}(hk:k<n.toNat)(hz:bg (aU x k)=true):cu.g x (k:Int)=(aU x k,true):=by
 have hb5:=hx.bound;have h0:=hx.2.1;obtain⟨d,hR⟩:=hx.1;have hkk:bz (k:Int) 0 (x.1-1)=true:=by rw[cC];omega
 have hok:=hR.ok;have hal:=yL hok (k:=k) (by omega);unfold cu.g;rw[jL,hok,Int.toNat_natCast];simp only[hal];rw[hkk];simp[hz]
def EU{n:Int}{S:List (Int×Int×List Int)}(hS:Cl n S):∀(ks:List Int) {x:Int×Int×List Int},(∀k∈ks,0<=k/\k<n)->bU n x->bL x∈S ->
  (eY cu.g x ks).2=true/\bU n (eY cu.g x ks).1/\bL (eY cu.g x ks).1∈S/\∀T,Cl n T->bL (eY cu.g x ks).1∈T->bL x∈T
 |[],x,_,hx,hc=>⟨rfl,hx,hc,λ_ _ h=>h⟩
 |k::ks,x,hk,hx,hc=>by
  obtain⟨h1,h2⟩:=hk k List.mem_cons_self;obtain⟨k,rfl⟩:=Int.eq_ofNat_of_zero_le h1;have hkn:k<n.toNat:=by omega
  obtain⟨hz,hc2⟩:=EH hS hx hc hkn;have e:=Pl hx hkn hz;obtain⟨a1,a2,a3,a4⟩:=EU hS ks (λk' h=>hk k' (List.mem_cons_of_mem _ h)) (hx.mut hkn hz) hc2;have e2:eY cu.g x ((k:Int)::ks)=eY cu.g (aU x k) ks:=by rw[eY,e];exact if_pos rfl
  rw[e2];exact⟨a1,a2,a3,λT hT h=>O7 hT hx hkn hz (a4 T hT h)⟩
def Pm{n:Int}{S:List (Int×Int×List Int)}(hn:ie S){i:Nat}(h0:0<i)(hi:i<(dw n S).length):bK ((dw n S).getD (i-1) z3).2.2 ((dw n S).getD i z3).2.2=true:=by
 have hp:=lr (S.map (·.2.2))
 have hl:(dw n S).length=(gj (S.map (·.2.2))).length:=by simp[dw]
 have e:∀j,j<(dw n S).length->((dw n S).getD j z3).2.2=(gj (S.map (·.2.2))).getD j []:=λj hj=>by rw[List.getD_eq_getElem?_getD,List.getD_eq_getElem?_getD,List.getElem?_eq_getElem hj,List.getElem?_eq_getElem (by omega)];simp[dw]
 rw[e _ (by omega),e _ hi];have hs:=tJ (S.map (·.2.2))
 have hnd:(gj (S.map (·.2.2))).Nodup:=hp.nodup_iff.2 hn
 have h1:i-1<(gj (S.map (·.2.2))).length:=by omega
 have h2:i<(gj (S.map (·.2.2))).length:=by omega
 have a:=(List.pairwise_iff_getElem.1 hs) (i-1) i h1 h2 (by omega);have b:=(List.pairwise_iff_getElem.1 hnd) (i-1) i h1 h2 (by omega);rw[List.getD_eq_getElem?_getD,List.getD_eq_getElem?_getD,List.getElem?_eq_getElem h1,List.getElem?_eq_getElem h2];simp only[Option.getD_some];cases hh:bK (gj (S.map (·.2.2)))[i-1] (gj (S.map (·.2.2)))[i]
 ·refine absurd (mU hh ?_) b;simpa[dm]using a
 ·rfl
def loop{J:Type}{N:Nat}(k0:Bool->Bool->Option J)(kr:Bool->Option J){l:List (Int×Int×List Int)}(c:Int×Int×List Int)(r:Bool)(hl:l.length<=100)(hs:∀i,0<i->i<l.length->bK (l.getD (i-1) z3).2.2 (l.getD i z3).2.2=true) :
  ∀(M i:Nat) (f:Bool),i<=l.length->l.length-i<M->Z30L N k0 kr M l l c.2.2 r f (i:Int) c.1 c.2.1=k0 r (f||(l.drop i).any λx=>decide (x=c)):=by
 intro M;induction M with
 |zero=>intro i _ _ h;omega
 |succ M ih =>
  intro i f hi hM;simp only[Z30L,Z31];by_cases h:i<l.length
  ·have e1:iT.g (l.getD i z3) (l.getD i z3)=true:=dt rfl;have e2:iT.g (l.getD i z3) (c.1,(c.2.1,c.2.2))=decide (l.getD i z3=c):=rfl;have hw:ac ((i:Int)+1)=((i+1:Nat):Int):=bh (by rw[bv];omega);have nx:∀f',Z30L N k0 kr M l l c.2.2 r f' (ac ((i:Int)+1)) c.1 c.2.1=k0 r (f'||(l.drop (i+1)).any λx=>decide (x=c)):=λf'=>by rw[hw];exact ih (i+1) f' (by omega) (by omega)
   have b1:ax (i:Int) l.length=true:=aN h;rw[dB z3 h,List.any_cons];by_cases h0:0<i
   ·have hw2:ac ((i:Int)-1)=((i-1:Nat):Int):=by rw[aM (by omega) (by omega)];omega
    have b2:ax ((i-1:Nat):Int) l.length=true:=aN (by omega);have e3:fC.g (l.getD (i-1) z3).2.2 (l.getD i z3).2.2=true:=hs i h0 h;simp only[aD,dt (show(i:Int)<(l.length:Int) by omega),dt (show(0:Int)<(i:Int) by omega),b1,Int.toNat_natCast,e1,hw2,b2,e3,e2,nx,cond_true,Bool.not_true,cond_false];cases f<;>simp
   ·simp only[aD,dt (show(i:Int)<(l.length:Int) by omega),df (show ¬ (0:Int)<(i:Int) by omega),b1,Int.toNat_natCast,e1,e2,nx,cond_true,Bool.not_true,cond_false];cases f<;>simp
  ·rw[fI (by rw[aD];exact df (by omega)),List.drop_of_length_le (by omega)];simp
def ok:Spec:=λb hb=>⟨400,λN hN=>by
 simp only[Z0,Z1,Z2,Z3,aD];cases hbig:kG.g b
 ·rw[cond_false];have h0:=gr.cur0 hb.1;obtain⟨c1,d1,n4,hsq⟩:=cJ.facts h0;obtain⟨d,hR⟩:=O3 h0;have em:(gr.g b).1=(cJ.g b (ci.g b)).2:=rfl;have ek:(gr.g b).2=(cW.g b (cJ.g b (ci.g b)).1 (cJ.g b (ci.g b)).2.1 4).2:=rfl;obtain⟨n,r,hn,hr,hn1,hn5,hnr,_,hlen⟩:=bf d1;have hks:=cW.range (b:=b) (r:=(cJ.g b (ci.g b)).1) (n:=(cJ.g b (ci.g b)).2.1) (most:=4) (by omega) (by omega) (by omega);simp only[Z4,Z5,Z6,Z7,Z8,Z9,aD];rw[em,ek];generalize(cW.g b (cJ.g b (ci.g b)).1 (cJ.g b (ci.g b)).2.1 4).2=ks at hks;generalize(cJ.g b (ci.g b)).2=m at d1 n4 hsq hR hn hr hlen hks;have e0:((m.1,(m.2.1,m.2.2)):Int×Int×List Int)=m:=rfl;have hp:fW m=true:=by unfold fW;rw[hR.ok,dt hsq];rfl
  have g1:b7.g m=dG m:=rfl;have g2:cy.g m=dG m:=rfl;simp only[e0,g1,g2,Z10,Z11,beq_self_eq_true,Bool.not_true,cond_false,aD,Z12,Z13];cases hc:fV m with
  |none =>
   have hmc:dG m=([],false):=by unfold dG;rw[if_pos hp,hc]
   have hsK:jN m=m:=by
    unfold jN;rw[if_pos hR.ok];unfold iG;have hrn:r=n:=by omega
    have hlm:m.2.2.length<=(m.1*m.1).toNat:=by rw[hlen,hn,hrn,<-Int.natCast_mul,Int.toNat_natCast];exact Nat.le_refl _
    rw[List.take_of_length_le hlm];exact Prod.ext rfl (Prod.ext hsq.symm rfl)
   have hft:(jO m).2=false:=by unfold jO;rw[hsK,hmc];rfl
   have g3:kK.g m=(jO m).2:=rfl;have p3:bW.P m=true:=by show(!(jO m).2)=true;rw[hft];rfl
   rw[hmc];have g7:gu (bW.g m) ByteArray.empty=true:=by show gu ByteArray.empty ByteArray.empty=true;simp[gu]
   simp only[g3,hft,p3,g7,Bool.not_false,cond_true];rfl
  |some S =>
   obtain⟨f1,f2,f3⟩:=mX hp hc;obtain⟨k1,k2⟩:=zg hp hc;have hF:=tN hp;obtain⟨w1,w2,w3,w4⟩:=EU k1 ks (λk hk=>by have:=hks.1 k hk;omega) hF k2;have g4:db.g m ks=eY cu.g m ks:=by unfold db.g;rw[jL,hR.ok,dt (by omega)];rfl
   have hmc:dG m=(dw m.1 S,true):=by unfold dG;rw[if_pos hp,hc]
   simp only[hmc,Bool.not_true,cond_false,Z14,Z15,Z16,Z17,aD,g4,w1];generalize(eY cu.g m ks).1=x at w2 w3 w4;have hpx:fW x=true:=by obtain⟨⟨d',hR'⟩,x1,x2⟩:=w2;unfold fW;rw[hR'.ok,dt (x2.trans x1.symm)];rfl
   obtain⟨S',q1,q2,q3⟩:=O8 hp hpx w2.2.1 hc w3 w4;have hmx:dG x=(dw m.1 S,true):=by unfold dG;rw[if_pos hpx,q1];simp only[q2]
   have ex:((x.1,(x.2.1,x.2.2)):Int×Int×List Int)=x:=rfl;have g5:b7.g x=dG x:=rfl;have g6:cb.g m=(bL m,true):=by unfold cb.g;rw[jL,hR.ok,dt hsq,Bool.and_self,if_pos rfl,yG d1 hsq]
   have hll:(dw m.1 S).length=S.length:=yX;simp only[Z18,Z19,Z20,Z21,ex,g5,hmx,Bool.not_true,cond_false,aD,nf (rfl:((dw m.1 S).length:Int)=(dw m.1 S).length),Z22,Z23,e0,g6,Z24,Z25,Z26,Z27,Z28,Z29,Z30];refine(loop _ _ (bL m) true (by omega) (λi=>Pm q3) N 0 false (Nat.zero_le _) (by omega)).trans ?_;have:((dw m.1 S).drop 0).any (λx=>decide (x=bL m))=true:=by rw[List.drop_zero,List.any_eq_true];refine⟨bL m, ?_,dt rfl⟩;obtain⟨_,y1,y2⟩:=f1 _ k2;unfold dw;refine List.mem_map.2 ⟨(bL m).2.2,(lr _).mem_iff.2 (List.mem_map_of_mem k2), ?_⟩;exact Prod.ext y1.symm (Prod.ext y2.symm rfl)
   simp only[this,Z32,Bool.or_true,cond_true];rfl
 ·rfl⟩
end cp
end
end Go.Fw
