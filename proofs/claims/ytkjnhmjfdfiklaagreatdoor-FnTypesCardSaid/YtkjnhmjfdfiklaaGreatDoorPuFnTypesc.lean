/- The plain part: what the functions compute, in lists and numbers. Nothing is assumed. -/
import Derived.Test.YtkjnhmjfdfiklaaGreatDoorFwd
import Derived.Test.YtkjnhmjfdfiklaaGreatDoorPuFnTypesb
import Derived.Test.YtkjnhmjfdfiklaaGreatDoorPuFnTypesa
noncomputable section
set_option linter.defProp false
set_option linter.defProp false
set_option linter.unusedSectionVars false
set_option linter.unusedVariables false
set_option linter.unusedSimpArgs false
set_option maxRecDepth 100000
namespace Go.Fw
section
variable {J : Type}
namespace bK
def P(n:Int):Bool:=decide (0<=n)&&decide (n<=5)
def g(n:Int):List (List Int):=eR n.toNat
def Z1{J:Type}(N:Nat)(a:Int)(kn:Int->Option J):Option J :=
 kn a
def Z3{J:Type}(N:Nat)(a:Int)(kn:LL->Int->Option J):Option J :=
 kn ([([]:List Int)]:List (LI)) a
def Z6{J:Type}(N:Nat)(a:LL)(b:Int)(kn:LL->I2 (Option J)):Option J :=
 kn a b 0
def Z10{J:Type}(N:Nat)(a:LL)(b c:Int)(kn:LL->I2 (Option J))(k0:LL->Option J):Option J :=
 cond (lk N (decide (c<b)))
 (
  kn a b c)
 (
  k0 a)
def Z14{J:Type}(N:Nat)(a:LL)(b c:Int)(kn:LL->I2 (Option J)):Option J :=
 kn a b c
def Z17{J:Type}(N:Nat)(a:LL)(b c:Int)(kn:LL->I4 (Option J)):Option J :=
 kn a b c (a.length:Int) 0
def Z21{J:Type}(N:Nat)(c d:LL)(e f a b:Int)(kn:LL->LL->I4 (Bool->Option J)):Option J :=
 kn c d e f a b (lk N (decide (b<a)))
def Z23{J:Type}(N:Nat)(a d:LL)(b c e f:Int)(g:Bool)(kn:LL->LL->I4 (Option J))(k2:LL->I2 (Option J)):Option J :=
 cond (g)
 (
  kn a d b c e f)
 (
  k2 a b c)
def Z27{J:Type}(N:Nat)(c a:LL)(d e f b:Int)(kn:LL->LL->I2 (LI->I2 (Option J))):Option J :=
 cond (lk N (ax b a.length)) (
  kn c a d e (a.getD b.toNat []) f b) none
def Z29{J:Type}(N:Nat)(a b:LL)(c d:Int)(e:LI)(f g:Int)(kn:LL->LL->I2 (LI->I3 (Option J))):Option J :=
 kn a b c d e 0 f g
def Z32{J:Type}(N:Nat)(d e:LL)(f b:Int)(a:LI)(c h i:Int)(kn:LL->LL->I2 (LI->I3 (Option J)))(k4:LL->LL->I4 (Option J)):Option J :=
 cond (lk N (decide (c<=(a.length:Int))))
 (
  cond (lk N (dh.P a)) (
   cond (lk N (jS.P (dh.g a) c ([b]:List Int))) (
    cond (lk N (Nat.blt (d.length+([(jS.g (dh.g a) c ([b]:List Int))]:List (LI)).length) 1099511627776)) (
     kn (d++([(jS.g (dh.g a) c ([b]:List Int))]:List (LI))) e f b a (ac (c+1)) h i) none) none) none)
 (
  k4 d e f b h i)
def Z31L{J:Type}(N:Nat)(k4:LL->LL->I4 (Option J)):Nat->LL->LL->Int->Int->LI->Int->Int->Int->Option J
 |0,_,_,_,_,_,_,_,_=>none
 |M+1,a,b,c,d,e,f,g,h=>Z32 N a b c d e f g h (λa b c d e f g h=>Z31L N k4 M a b c d e f g h) k4
def Z31 N a b c d e f g h k4:=(Z31L N k4 N a b c d e f g h:Option J)
def Z30 N a b c d e f g h kn:=(Z31 N a b c d e f g h kn:Option J)
def Z28 N a b c d e f g kn:=(Z29 N a b c d e f g (λa b c d e h f g=>Z30 N a b c d e h f g kn):Option J)
def Z26 N a b c d e f kn:=(Z27 N a b c d e f (λa b c d g e f=>Z28 N a b c d g e f kn):Option J)
def Z25 N a b c d e f kn:=(Z26 N a b c d e f kn:Option J)
def Z33{J:Type}(N:Nat)(a b:LL)(c d e f:Int)(kn:LL->LL->I4 (Option J)):Option J :=
 kn a b c d e (ac (f+1))
def Z24 N a b c d e f kn:=(Z25 N a b c d e f (λa b c d e f=>Z33 N a b c d e f kn):Option J)
def Z22 N a b c d e f g kn k2:=(Z23 N a b c d e f g (λa b c d e f=>Z24 N a b c d e f kn) k2:Option J)
def Z20 N a b c d e f kn k2:=(Z21 N a b c d e f (λa b c d e f g=>Z22 N a b c d e f g kn k2):Option J)
def Z19L{J:Type}(N:Nat)(k2:LL->I2 (Option J)):Nat->LL->LL->Int->Int->Int->Int->Option J
 |0,_,_,_,_,_,_=>none
 |M+1,a,b,c,d,e,f=>Z20 N a b c d e f (λa b c d e f=>Z19L N k2 M a b c d e f) k2
def Z19 N a b c d e k2:=(Z19L N k2 N ([]:List (LI)) a b c d e:Option J)
def Z18 N a b c d e kn:=(Z19 N a b c d e kn:Option J)
def Z16 N c a b kn:=(Z17 N c a b (λd a b e f=>Z18 N d a b e f kn):Option J)
def Z34{J:Type}(N:Nat)(a:LL)(b c:Int)(kn:LL->I2 (Option J)):Option J :=
 kn a b c
def Z15 N c a b kn:=(Z16 N c a b (λd a b=>Z34 N d a b kn):Option J)
def Z13 N a b c kn:=(Z14 N a b c (λa b c=>Z15 N a b c kn):Option J)
def Z12 N a b c kn:=(Z13 N a b c kn:Option J)
def Z35{J:Type}(N:Nat)(a:LL)(b c:Int)(kn:LL->I2 (Option J)):Option J :=
 kn a b (ac (c+1))
def Z11 N a b c kn:=(Z12 N a b c (λa b c=>Z35 N a b c kn):Option J)
def Z9 N a b c kn k0:=(Z10 N a b c (λa b c=>Z11 N a b c kn) k0:Option J)
def Z8L{J:Type}(N:Nat)(k0:LL->Option J):Nat->LL->Int->Int->Option J
 |0,_,_,_=>none
 |M+1,a,b,c=>Z9 N a b c (λa b c=>Z8L N k0 M a b c) k0
def Z8 N a b c k0:=(Z8L N k0 N a b c:Option J)
def Z7 N a b c kn:=(Z8 N a b c kn:Option J)
def Z5 N a b kn:=(Z6 N a b (λa b c=>Z7 N a b c kn):Option J)
def Z36{J:Type}(N:Nat)(a:LL)(kr:LL->Option J):Option J :=
 kr a
def Z4 N a b kr:=(Z5 N a b (λa=>Z36 N a kr):Option J)
def Z2 N a kr:=(Z3 N a (λb a=>Z4 N b a kr):Option J)
def Z0 N a kr:=(Z1 N a (λa=>Z2 N a kr):Option J)
def Spec:Prop:=∀ (v0:Int),P v0=true->∃N0,∀N,N0<=N->Z0 N v0 (λv2=>some ((),(v2,())))=some ((),((g v0),()))
def inner{J:Type}{N:Nat}{l:List Int}(hl:l.length<=5)(t15:List (List Int))(n k t16 t17:Int)(k4:List (List Int)->List (List Int)->Int->Int->Int->Int->Option J):∀(M i:Nat) (next:List (List Int)),i<=l.length+1->next.length+(l.length+1-i)<=10000->l.length+1-i<M ->
  Z31L N k4 M next t15 n k l (i:Int) t16 t17=k4 (next++((List.range (l.length+1)).drop i).map λi=>gT l ((i:Nat):Int) [k]) t15 n k t16 t17:=by
 intro M;induction M with
 |zero=>intro i next _ _ h;omega
 |succ M ih =>
  intro i next hi hs hM
  simp only[Z31L,Z32];by_cases h:i<l.length+1
  ·have h1:dh.P l=true:=dt (by omega);have h1g:dh.g l=l:=rfl;have h2:jS.P l (i:Int) [k]=true:=by show np l (i:Int) [k]=true;simp only[np,Bool.and_eq_true,decide_eq_true_eq,Int.toNat_natCast];exact⟨Nat.ble_eq_true_of_le (by omega),by omega,rfl,Nat.ble_eq_true_of_le (by simp;omega)⟩
   have h2g:jS.g l (i:Int) [k]=gT l (i:Int) [k]:=rfl;have h3:Nat.blt (next.length+([gT l (i:Int) [k]]:List (List Int)).length) 1099511627776=true:=Nat.ble_eq_true_of_le (by simp;omega);rw[ct (dt (by omega)),ct h1,h1g,ct h2,h2g,ct h3,a8 (by rw[bn];omega),ih (i+1) _ h (by simp;omega) (by omega),kJ h,List.map_cons,List.append_assoc];rfl
  ·rw[cf (df (by omega)),List.drop_of_length_le (by simp;omega)];simp
def mid{J:Type}{N:Nat}(hN:10<=N){t15:List (List Int)}(ht:∀o∈t15,o.length<=5)(ht2:t15.length<=1000)(n k:Int)(k2:List (List Int)->Int->Int->Option J):∀(M j:Nat) (next:List (List Int)),j<=t15.length->next.length+(t15.length-j)*6<=10000->t15.length-j<M ->
  Z19L N k2 M next t15 n k (t15.length:Int) (j:Int)=k2 (next++(t15.drop j).flatMap (D2 k)) n k:=by
 intro M;induction M with
 |zero=>intro i next _ _ h;omega
 |succ M ih =>
  intro j next hj hs hM
  simp only[Z19L,Z20,Z21,Z22,Z23];by_cases h:j<t15.length
  ·have hl:=ht _ (bz (l:=t15) [] h);rw[ct (dt (by omega))];simp only[Z24,Z25,Z26,Z27];rw[ct (aN h),Int.toNat_natCast];simp only[Z28,Z29,Z30,Z31];have hin:=inner (J:=J) (N:=N) hl t15 n k (t15.length:Int) (j:Int) (λnext5 t15 n0 k4 t16 t17=>Z33 N next5 t15 n0 k4 t16 t17 (λnext5 t15 n0 k4 t16 t17=>Z19L N k2 M next5 t15 n0 k4 t16 t17)) N 0 next (by omega) (by omega) (by omega)
   rw[show((0:Nat):Int)=0 from rfl,List.drop_zero]at hin;rw[hin];simp only[Z33];have e:(t15.length-j)*6=(t15.length-(j+1))*6+6:=by omega
   rw[a8 (by rw[bn];omega),ih (j+1) _ h (by rw[List.length_append,List.length_map,List.length_range];omega) (by omega),fb (l:=t15) [] h,List.flatMap_cons,List.append_assoc];rfl
  ·rw[cf (df (by omega)),List.drop_of_length_le (by omega)];simp
def outer{J:Type}{N n:Nat}(hN:1000<=N)(hn:n<=5)(k0:List (List Int)->Option J):∀(M k:Nat),k<=n->n-k<M ->
  Z8L N k0 M (eR k) (n:Int) (k:Int)=k0 (eR n):=by
 intro M;induction M with
 |zero=>intro k _ h;omega
 |succ M ih =>
  intro k hk hM;simp only[Z8L,Z9,Z10];by_cases h:k<n;·rw[ct (dt (by omega))];simp only[Z11,Z12,Z13,Z14,Z15,Z16,Z17,Z18,Z19];have hlen:=D4 (n:=k) (by omega);have hm:=mid (J:=J) (N:=N) (by omega) (t15:=eR k) (λo ho=>by rw[NT (by omega) o ho];omega) (by omega) (n:Int) (k:Int) (λnext5 n0 k4=>Z34 N next5 n0 k4 (λout3 n0 k4=>Z35 N out3 n0 k4 (λout3 n0 k4=>Z8L N k0 M out3 n0 k4))) N 0 [] (Nat.zero_le _) (by simp;omega) (by omega);rw[show((0:Nat):Int)=0 from rfl,List.drop_zero,List.nil_append]at hm;rw[hm];simp only[Z34,Z35];rw[a8 (by rw[bn];omega)];exact ih (k+1) h (by omega)
  ·rw[cf (df (by omega)),show k=n by omega]
def ok:Spec:=λn hp=>⟨1000,λN hN=>by simp only[P,Bool.and_eq_true,decide_eq_true_eq]at hp;obtain⟨n,rfl⟩:=Int.eq_ofNat_of_zero_le hp.1;simp only[Z0,Z1,Z2,Z3,Z4,Z5,Z6,Z7,Z8];refine(outer hN (by omega) _ N 0 (Nat.zero_le _) (by omega)).trans ?_;rw[g,Int.toNat_natCast];rfl⟩
end bK
namespace fz
def go(v:Int):List Int->Nat->Int
 |[],_=>-1
 |x::xs,j=>if v=x then(j:Int)else go v xs (j+1)
def g(s:List Int)(v:Int):Int:=go v s 0
def Z1{J:Type}(N:Nat)(a:LI)(b:Int)(kn:LI->Int->Option J):Option J :=
 kn a b
def Z4{J:Type}(N:Nat)(a:LI)(b:Int)(kn:LI->I3 (Option J)):Option J :=
 kn a b (a.length:Int) 0
def Z7{J:Type}(N:Nat)(b:LI)(c d a:Int)(kn:LI->I3 (Option J))(k0:Option J)(kr:Int->Option J):Option J :=
 cond (lk N (decide (a<d)))
 (
  cond (lk N (ax a b.length)) (
   cond (lk N (decide (c=(b.getD a.toNat 0))))
   (
    kr a)
   (
    kn b c d (ac (a+1)))) none)
 (
  k0)
def Z6L{J:Type}(N:Nat)(k0:Option J)(kr:Int->Option J):Nat->LI->Int->Int->Int->Option J
 |0,_,_,_,_=>none
 |M+1,a,b,c,d=>Z7 N a b c d (λa b c d=>Z6L N k0 kr M a b c d) k0 kr
def Z6 N a b c d k0 kr:=(Z6L N k0 kr N a b c d:Option J)
def Z5 N a b c d kn kr:=(Z6 N a b c d kn kr:Option J)
def Z3 N a b kn kr:=(Z4 N a b (λa b c d=>Z5 N a b c d kn kr):Option J)
def Z8{J:Type}(N:Nat) (kr:Int->Option J):Option J :=
 kr (-1)
def Z2 N a b kr:=(Z3 N a b (Z8 N kr) kr:Option J)
def Z0 N a b kr:=(Z1 N a b (λa b=>Z2 N a b kr):Option J)
def Spec:Prop:=∀ (v0:LI) (v1:Int),Ty.bd (.sl 0 (.int .i64)) v0->∃N0,∀N,N0<=N->Z0 N v0 v1 (λv4=>some ((),(v4,())))=some ((),((g v0 v1),()))
def loop{J:Type}(N:Nat)(kr:Int->Option J)(v:Int)(a:List Int)(ha:a.length<=maxLen):∀(M j:Nat),j<=a.length->a.length-j<M ->
  Z6L N (kr (-1)) kr M a v (a.length:Int) (j:Int)=kr (go v (a.drop j) j):=by
 intro M;induction M with
 |zero=>intro j _ h;omega
 |succ M ih =>
  intro j hj hM;simp only[Z6L,Z7];by_cases h:j<a.length
  ·rw[ct (dt (by omega)),ct (aN h),Int.toNat_natCast,a8 (by omega),ih (j+1) h (by omega),fb 0 h,go];by_cases e:v=a.getD j 0;·rw[ct (dt e),if_pos e]
   ·rw[cf (df e),if_neg e]
  ·rw[cf (df (by omega)),List.drop_of_length_le (by omega),go]
def ok:Spec:=λa v ha=>⟨a.length+1,λN hN=>by simp only[Z1,Z4,Z7,Z6,Z5,Z3,Z8,Z2,Z0];exact(loop N (λt=>some ((),(t,()))) v a ha.1 N 0 (by omega) (by omega)).trans rfl⟩
def go_pos(v:Int):∀(l:List Int) (j:Nat),0<=go v l j↔v∈l
 |[],j=>by simp[go]
 |x::xs,j=>by
  rw[go];by_cases h:v=x;·rw[if_pos h];simp[h]
  ·rw[if_neg h,go_pos v xs];simp[h]
end fz
namespace la
def g(s:List Int)(v:Int):Bool:=s.any λx=>decide (x=v)
def Z0{J:Type}(N:Nat)(a:LI)(b:Int)(kr:Bool->Option J):Option J :=
 kr (lk N (decide (0<=(fz.g a b))))
def Spec:Prop:=∀ (v0:LI) (v1:Int),Ty.bd (.sl 0 (.int .i64)) v0->∃N0,∀N,N0<=N->Z0 N v0 v1 (λv4=>some ((),(v4,())))=some ((),((g v0 v1),()))
def ok:Spec:=λa v ha=>⟨0,λN hN=>by
 simp only[Z0,aD,g];have:=(show 0<=fz.g a v↔v∈a from fz.go_pos v a 0);have h2:(a.any λx=>decide (x=v))=true↔v∈a:=by simp
 cases e:a.any λx=>decide (x=v);·rw[df (λh=>by rw[h2.2 (this.1 h)]at e;cases e)]
 ·rw[dt (this.2 (h2.1 e))]⟩
end la
namespace eV
def g(l:List Int)(n:Int):Bool:=dJ l n
def Z1{J:Type}(N:Nat)(a:LI)(b:Int)(kn:LI->Int->Option J):Option J :=
 kn a b
def Z3{J:Type}(N:Nat)(a:LI)(b:Int)(kn:LI->Int->Option J)(kr:Bool->Option J):Option J :=
 cond (lk N (!(decide ((a.length:Int)=b))))
 (
  kr false)
 (
  kn a b)
def Z6{J:Type}(N:Nat)(a:LI)(b:Int)(kn:LI->Int->LI->I2 (Option J)):Option J :=
 kn a b a (a.length:Int) 0
def Z9{J:Type}(N:Nat)(c:LI)(d:Int)(b:LI)(e a:Int)(kn:LI->Int->LI->I2 (Option J))(k0:Option J)(kr:Bool->Option J):Option J :=
 cond (lk N (decide (a<e)))
 (
  cond (lk N (ax a b.length)) (
   cond (!(lk N ((gy.g (b.getD a.toNat 0) 0 (ac (d-1))))))
   (
    kr false)
   (
    cond (lk N (bN 0 a&&bN a c.length)) (
     cond (lk N ((la.g (c.take a.toNat) (b.getD a.toNat 0))))
     (
      kr false)
     (
      kn c d b e (ac (a+1)))) none)) none)
 (
  k0)
def Z8L{J:Type}(N:Nat)(k0:Option J)(kr:Bool->Option J):Nat->LI->Int->LI->Int->Int->Option J
 |0,_,_,_,_,_=>none
 |M+1,a,b,c,d,e=>Z9 N a b c d e (λa b c d e=>Z8L N k0 kr M a b c d e) k0 kr
def Z8 N a b c d e k0 kr:=(Z8L N k0 kr N a b c d e:Option J)
def Z7 N a b c d e kn kr:=(Z8 N a b c d e kn kr:Option J)
def Z5 N a b kn kr:=(Z6 N a b (λa b c d e=>Z7 N a b c d e kn kr):Option J)
def Z10{J:Type}(N:Nat) (kr:Bool->Option J):Option J :=
 kr true
def Z4 N a b kr:=(Z5 N a b (Z10 N kr) kr:Option J)
def Z2 N a b kr:=(Z3 N a b (λa b=>Z4 N a b kr) kr:Option J)
def Z0 N a b kr:=(Z1 N a b (λa b=>Z2 N a b kr):Option J)
def Spec:Prop:=∀ (v0:LI) (v1:Int),Ty.bd (.sl 0 (.int .i64)) v0->∃N0,∀N,N0<=N->Z0 N v0 v1 (λv4=>some ((),(v4,())))=some ((),((g v0 v1),()))
def loop{J:Type}(N:Nat)(k0:Option J)(kr:Bool->Option J)(l:List Int)(hl:l.length<=maxLen):∀(M j:Nat),j<=l.length->l.length-j<M ->
  Z8L N k0 kr M l (l.length:Int) l (l.length:Int) (j:Int)=cond (((List.range l.length).drop j).all (oS l (l.length:Int))) k0 (kr false):=by
 intro M;induction M with
 |zero=>intro j _ h;omega
 |succ M ih =>
  intro j hj hM;simp only[Z8L,Z9];by_cases h:j<l.length
  ·have e1:gy.g (l.getD j 0) 0 (ac ((l.length:Int)-1))=bE (l.getD j 0) 0 ((l.length:Int)-1):=by rw[aR (by omega) (by rw[bn]at hl;omega)];rfl
   have e2:(bN 0 (j:Int)&&bN (j:Int) l.length)=true:=by rw[j8 (by omega),j8 (by omega)];rfl
   rw[ct (dt (by omega)),ct (aN h),Int.toNat_natCast,e1,ct e2,a8 (by omega),ih (j+1) h (by omega),kJ h,List.all_cons,oS];simp only[aD,la.g];cases bE (l.getD j 0) 0 ((l.length:Int)-1);·rfl
   ·cases((l.take j).any λx=>decide (x=l.getD j 0))<;>rfl
  ·rw[cf (df (by omega)),List.drop_of_length_le (by simp;omega)];rfl
def ok:Spec:=λl n hb=>⟨l.length+1,λN hN=>by
 simp only[Z1,Z3,Z6,Z9,Z8,Z7,Z5,Z10,Z4,Z2,Z0,g,dJ];by_cases h:(l.length:Int)=n;·subst h;have:=loop N (some ((),(true,()))) (λt=>some ((),(t,()))) l hb.1 N 0 (by omega) (by omega);rw[show((0:Nat):Int)=0 from rfl,List.drop_zero]at this;rw[cf (nf rfl),this,dt rfl];cases(List.range l.length).all (oS l (l.length:Int))<;>rfl
 ·rw[ct (nt h),df h];rfl⟩
end eV
namespace bM
def g(m:Int×Int×List Int)(names:List Int):(Int×Int×List Int)×Bool :=
 if((aX m&&!decide (ba m=[]))&&dJ names m.1)=true then(bV m names,true)else((0,0,[]),false)
def Z1{J:Type}(N:Nat)(a:MT)(b:LI)(kn:LI->I2 (LI->I2 (Option J))):Option J :=
 kn b a.1 a.2.1 a.2.2 0 0
def Z3{J:Type}(N:Nat)(b:LI)(a c:Int)(d:LI)(e f:Int)(kn:LI->I2 (LI->I2 (Option J)))(kr:LI->Bool->I2 (Option J)):Option J :=
 cond (!(lk N ((eU.g (a,(c,d))))))
 (
  kr ([]:List Int) false 0 0)
 (
  cond (!(lk N ((eV.g b a))))
  (
   kr ([]:List Int) false 0 0)
  (
   kn b a c d e f))
def Z5{J:Type}(N:Nat)(d:LI)(b c:Int)(a:LI)(e f:Int)(kn:LI->LI->I2 (LI->I4 (Option J))):Option J :=
 cj (
  cond (lk N (bN 0 (a.length:Int)&&decide ((a.length:Int)<1099511627776))) (
   bo (
    kn (List.replicate (a.length:Int).toNat (0:Int)) d b c a e f b c)) none)
 (
  cond (lk N (bN 0 (a.length:Int)&&decide ((a.length:Int)<1099511627776))) (
   kn (List.replicate (a.length:Int).toNat (0:Int)) d b c a e f b c) none)
def Z8{J:Type}(N:Nat)(a b:LI)(c d:Int)(e:LI)(f g h i:Int)(kn:LI->LI->I3 (LI->I4 (Option J))):Option J :=
 kn a b 0 c d e f g h i
def Z12{J:Type}(N:Nat)(a h:LI)(b i c:Int)(j:LI)(d e f g:Int)(kn:LI->LI->I3 (LI->I4 (Option J)))(k0:LI->I4 (Option J)):Option J :=
 cond (lk N (decide (b<c)))
 (
  kn a h b i c j d e f g)
 (
  k0 a d e f g)
def Z16{J:Type}(N:Nat)(b c:LI)(a d e:Int)(f:LI)(g h i j:Int)(kn:LI->LI->I4 (LI->I4 (Option J))):Option J :=
 kn b c a a d e f g h i j
def Z18{J:Type}(N:Nat)(d b:LI)(a l c e:Int)(f:LI)(g h i j:Int)(kn:LI->LI->I4 (LI->I4 (Option J))):Option J :=
 cond (lk N (decide (a<c)))
 (
  cond (lk N (ax a b.length)) (
   kn d b a (b.getD a.toNat 0) c e f g h i j) none)
 (
  kn d b a l c e f g h i j)
def Z20{J:Type}(N:Nat)(a b:LI)(c d e f:Int)(g:LI)(h i j l:Int)(kn:LI->LI->I5 (LI->I4 (Option J))):Option J :=
 kn a b c d 0 e f g h i j l
def Z23{J:Type}(N:Nat)(h c:LI)(d i a b e:Int)(f:LI)(j l m o:Int)(kn:LI->LI->I5 (LI->I4 (Option J)))(k2:LI->LI->I3 (LI->I4 (Option J))):Option J :=
 cond (lk N (decide (a<b)))
 (
  cond (lk N (ax a c.length)) (
   cond (lk N (b9.P (b,(e,f)) d a)) (
    cond (lk N (ax (ac ((ac (i*b))+(c.getD a.toNat 0))) h.length)) (
     kn (h.set (ac ((ac (i*b))+(c.getD a.toNat 0))).toNat (b9.g (b,(e,f)) d a)) c d i (ac (a+1)) b e f j l m o) none) none) none)
 (
  k2 h c d b e f j l m o)
def Z22L{J:Type}(N:Nat)(k2:LI->LI->I3 (LI->I4 (Option J))):Nat->LI->LI->Int->Int->Int->Int->Int->LI->Int->Int->Int->Int->Option J
 |0,_,_,_,_,_,_,_,_,_,_,_,_=>none
 |M+1,a,b,c,d,e,f,g,h,i,j,l,m=>Z23 N a b c d e f g h i j l m (λa b c d e f g h i j l m=>Z22L N k2 M a b c d e f g h i j l m) k2
def Z22 N a b c d e f g h i j l m k2:=(Z22L N k2 N a b c d e f g h i j l m:Option J)
def Z21 N a b c d e f g h i j l m kn:=(Z22 N a b c d e f g h i j l m kn:Option J)
def Z19 N a b c d e f g h i j l kn:=(Z20 N a b c d e f g h i j l (λa b c d m e f g h i j l=>Z21 N a b c d m e f g h i j l kn):Option J)
def Z17 N a b c d e f g h i j l kn:=(Z18 N a b c d e f g h i j l (λa b c d e f g h i j l=>Z19 N a b c d e f g h i j l kn):Option J)
def Z15 N a b c d e f g h i j kn:=(Z16 N a b c d e f g h i j (λa b c l d e f g h i j=>Z17 N a b c l d e f g h i j kn):Option J)
def Z14 N a b c d e f g h i j kn:=(Z15 N a b c d e f g h i j kn:Option J)
def Z24{J:Type}(N:Nat)(a b:LI)(c d e:Int)(f:LI)(g h i j:Int)(kn:LI->LI->I3 (LI->I4 (Option J))):Option J :=
 kn a b (ac (c+1)) d e f g h i j
def Z13 N a b c d e f g h i j kn:=(Z14 N a b c d e f g h i j (λa b c d e f g h i j=>Z24 N a b c d e f g h i j kn):Option J)
def Z11 N a b c d e f g h i j kn k0:=(Z12 N a b c d e f g h i j (λa b c d e f g h i j=>Z13 N a b c d e f g h i j kn) k0:Option J)
def Z10L{J:Type}(N:Nat)(k0:LI->I4 (Option J)):Nat->LI->LI->Int->Int->Int->LI->Int->Int->Int->Int->Option J
 |0,_,_,_,_,_,_,_,_,_,_=>none
 |M+1,a,b,c,d,e,f,g,h,i,j=>Z11 N a b c d e f g h i j (λa b c d e f g h i j=>Z10L N k0 M a b c d e f g h i j) k0
def Z10 N a b c d e f g h i j k0:=(Z10L N k0 N a b c d e f g h i j:Option J)
def Z9 N a b c d e f g h i j kn:=(Z10 N a b c d e f g h i j kn:Option J)
def Z7 N a b c d e f g h i kn:=(Z8 N a b c d e f g h i (λa b j c d e f g h i=>Z9 N a b j c d e f g h i kn):Option J)
def Z25{J:Type}(N:Nat)(a:LI)(d e b c:Int)(kr:LI->Bool->I2 (Option J)):Option J :=
 kr a true b c
def Z6 N a f g h i b c d e kr:=(Z7 N a f g h i b c d e (λa b c d e=>Z25 N a b c d e kr):Option J)
def Z4 N a b c d e f kr:=(Z5 N a b c d e f (λg a b c d e f h i=>Z6 N g a b c d e f h i kr):Option J)
def Z2 N a b c d e f kr:=(Z3 N a b c d e f (λa b c d e f=>Z4 N a b c d e f kr) kr:Option J)
def Z0 N b a kr:=(Z1 N b a (λa c d e f g=>Z2 N a c d e f g kr):Option J)
def Spec:Prop:=∀ (v0:MT) (v1:LI),Ty.bd (.pair (.int .i64) (.pair (.int .i64) (.sl 0 (.int .i64)))) v0->Ty.bd (.sl 0 (.int .i64)) v1->∃N0,∀N,N0<=N->Z0 N v0 v1 (λv4_2 v5 v4_0 v4_1=>some ((),((v4_0,(v4_1,v4_2)),(v5,()))))=some ((),((g v0 v1).1,((g v0 v1).2,())))
section
variable {J : Type} {N : Nat} {m : Int × Int × List Int} {L : List Nat}
def at_g(hd:0<=m.1)(a b:Nat):b9.g (m.1,(m.2.1,m.2.2)) (a:Int) (b:Int)=af m a b:=iS hd a b
def at_p(hd:aO m=true){a b:Nat}(ha:a<m.2.1.toNat)(hb:b<m.1.toNat):b9.P (m.1,(m.2.1,m.2.2)) (a:Int) (b:Int)=true:=iU hd ha hb
def cur(m:Int×Int×List Int)(L:List Nat)(st:List Int)(t:Nat):List Int:=iW m.2.2.length t (fh m.1.toNat L) (λp=>m.2.2.getD (fh m.1.toNat L p) 0) (λp=>st.getD p 0)
def inner(hd:aO m=true)(h1:L.Nodup)(h2:∀x∈L,x<m.1.toNat)(h3:L.length=m.1.toNat)(st:List Int)(k2:List Int->List Int->Int->Int->Int->List Int->Int->Int->Int->Int->Option J)(t0 t1 o0 o1:Int){i:Nat}(hi:i<m.2.1.toNat):∀(M j:Nat),j<=m.1.toNat->m.1.toNat-j<M ->
  Z22L N k2 M (cur m L st (i*m.1.toNat+j)) (an L) (i:Int) ((cy m.1.toNat L i:Nat):Int) (j:Int) m.1 m.2.1 m.2.2 t0 t1 o0 o1=k2 (cur m L st (i*m.1.toNat+m.1.toNat)) (an L) (i:Int) m.1 m.2.1 m.2.2 t0 t1 o0 o1:=by
 obtain⟨n,r,hn,hr,hn1,hn5,hnr,hr8,hl⟩:=aU hd;have hnr':m.1.toNat<=m.2.1.toNat:=by omega
 intro M;induction M with
 |zero=>intro j _ h;omega
 |succ M ih =>
  intro j hj hM;simp only[Z22L,Z23];by_cases h:j<m.1.toNat
  ·have hx:=h2 _ (bz (l:=L) (j:=j) 0 (by omega));have hrow:=yS h1 h2 h3 hnr' hi;have hlt:cy m.1.toNat L i*m.1.toNat+L.getD j 0<m.2.2.length:=by
    have:=iT (n:=m.1.toNat) (r:=m.2.1.toNat) hrow hx;rw[hl];have e:m.2.1.toNat*m.1.toNat=r*n:=by rw[hn,hr];rfl
    omega
   have hidx:ac (ac (((cy m.1.toNat L i:Nat):Int)*m.1)+((L.getD j 0:Nat):Int))=((cy m.1.toNat L i*m.1.toNat+L.getD j 0:Nat):Int):=by
    have e:((cy m.1.toNat L i:Nat):Int)*m.1=((cy m.1.toNat L i*m.1.toNat:Nat):Int):=by rw[hn,Int.natCast_mul];simp
    have hb:cy m.1.toNat L i*m.1.toNat<=8*5:=Nat.mul_le_mul (by omega) (by omega);have e2:ac (((cy m.1.toNat L i*m.1.toNat:Nat):Int))=((cy m.1.toNat L i*m.1.toNat:Nat):Int):=aR (by omega) (by omega);rw[e,e2,aR (by omega) (by omega)];omega
   have hset:(cur m L st (i*m.1.toNat+j)).set (cy m.1.toNat L i*m.1.toNat+L.getD j 0) (af m i j)=cur m L st (i*m.1.toNat+(j+1)):=by have e:=DT (total:=m.2.2.length) (t:=i*m.1.toNat+j) (p:=cy m.1.toNat L i*m.1.toNat+L.getD j 0) (back:=fh m.1.toNat L) (F:=λp=>m.2.2.getD (fh m.1.toNat L p) 0) (G:=λp=>st.getD p 0) hlt (ug h1 h2 h3 hnr' h) (λq _ hq=>DY h1 h2 h3 hnr' h hq);simp only[ug h1 h2 h3 hnr' h]at e;exact e
   rw[ct (dt (by omega)),ct (aN (by rw[bv];omega)),ct (at_p hd hi h)];simp only[Int.toNat_natCast,fc,hidx];rw[ct (aN (by rw[cur,rE];exact hlt)),at_g (by omega),hset,a8 (by rw[bn];omega)];exact ih (j+1) h (by omega)
  ·rw[cf (df (by omega)),show j=m.1.toNat by omega]
def outer(hN:10<=N)(hd:aO m=true)(h1:L.Nodup)(h2:∀x∈L,x<m.1.toNat)(h3:L.length=m.1.toNat)(st:List Int)(k0:List Int->Int->Int->Int->Int->Option J)(t0 t1 o0 o1:Int):∀(M i:Nat),i<=m.2.1.toNat->m.2.1.toNat-i<M ->
  Z10L N k0 M (cur m L st (i*m.1.toNat)) (an L) (i:Int) m.1 m.2.1 m.2.2 t0 t1 o0 o1=k0 (cur m L st (m.2.1.toNat*m.1.toNat)) t0 t1 o0 o1:=by
 obtain⟨n,r,hn,hr,hn1,hn5,hnr,hr8,hl⟩:=aU hd;intro M;induction M with
 |zero=>intro i _ h;omega
 |succ M ih =>
  intro i hi hM;simp only[Z10L,Z11,Z12];by_cases h:i<m.2.1.toNat
  ·have hin:=inner (J:=J) (N:=N) hd h1 h2 h3 st (λout5_2 names1 i6 m2_0 m2_1 m2_2 t4_0 t4_1 out5_0 out5_1=>Z24 N out5_2 names1 i6 m2_0 m2_1 m2_2 t4_0 t4_1 out5_0 out5_1 (λout5_2 names1 i6 m2_0 m2_1 m2_2 t4_0 t4_1 out5_0 out5_1=>Z10L N k0 M out5_2 names1 i6 m2_0 m2_1 m2_2 t4_0 t4_1 out5_0 out5_1)) t0 t1 o0 o1 h N 0 (by omega) (by omega);rw[show((0:Nat):Int)=0 from rfl,Nat.add_zero]at hin;have hnext:=ih (i+1) h (by omega);rw[Nat.add_mul,Nat.one_mul]at hnext;rw[ct (dt (by omega))];simp only[Z13,Z14,Z15,Z16,Z17,Z18];by_cases hin':i<m.1.toNat;·rw[ct (dt (by omega)),ct (aN (by rw[bv];omega)),Int.toNat_natCast,fc];rw[cy,if_pos hin']at hin;simp only[Z19,Z20,Z21,Z22];rw[hin];simp only[Z24];rw[a8 (by rw[bn];omega)];exact hnext
   ·rw[cf (df (by omega))];rw[cy,if_neg hin']at hin;simp only[Z19,Z20,Z21,Z22];rw[hin];simp only[Z24];rw[a8 (by rw[bn];omega)];exact hnext
  ·rw[cf (df (by omega)),show i=m.2.1.toNat by omega]
def cur_start(L:List Nat):cur m L (List.replicate m.2.2.length 0) 0=List.replicate m.2.2.length 0:=by unfold cur;rw[DU];exact rq 0 (by simp)
def cur_end(hd:aO m=true)(h1:L.Nodup)(h2:∀x∈L,x<m.1.toNat)(h3:L.length=m.1.toNat)(st:List Int):cur m L st (m.2.1.toNat*m.1.toNat)=(bV m (an L)).2.2:=by
 obtain⟨n,r,hn,hr,hn1,hn5,hnr,hr8,hl⟩:=aU hd;have e:m.2.1.toNat*m.1.toNat=m.2.2.length:=by rw[hl,hn,hr];simp
 rw[e];unfold cur bV;rw[gE];exact DV (λp hp=>by have:=DZ h1 h2 h3 (r:=m.2.1.toNat) (by omega) (by omega) (q:=p) (by omega);omega)
end
def ok:Spec:=λm names hb hv=>⟨10,λN hN=>by
 have e0:eU.g (m.1,(m.2.1,m.2.2))=(aX m&&!decide (ba m=[])):=rfl;have e1:eV.g names m.1=dJ names m.1:=rfl;simp only[Z0,Z1,Z2,Z3,e0,e1,g,aD];cases h1:(aX m&&!decide (ba m=[]));·rfl
 have hs:aX m=true:=by simp only[Bool.and_eq_true]at h1;exact h1.1
 have hd:=cI hs;cases hnm:dJ names m.1;·rfl
 obtain⟨L,rfl,g1,g2,g3⟩:=kK hnm;obtain⟨n,r,hn,hr,hn1,hn5,hnr,hr8,hl⟩:=aU hd;have hlen:m.2.2.length<=8*5:=by rw[hl];exact Nat.mul_le_mul hr8 hn5
 have hc:(bN 0 (m.2.2.length:Int)&&decide ((m.2.2.length:Int)<1099511627776))=true:=by rw[j8 (by omega),dt (by omega)];rfl
 simp only[Bool.not_true,cond_false,Z4,Z5];rw[ct hc,ct hc];simp only[bo,gP];rw[Int.toNat_natCast];simp only[Z6,Z7,Z8,Z9,Z10];have:=outer (J:=Unit×(Int×Int×List Int)×Bool×Unit) hN hd g1 g2 g3 (List.replicate m.2.2.length 0) (λout6_2 t4_0 t4_1 out6_0 out6_1=>Z25 N out6_2 t4_0 t4_1 out6_0 out6_1 (λt4_2 t5 t4_0 t4_1=>some ((),((t4_0,(t4_1,t4_2)),(t5,()))))) 0 0 m.1 m.2.1 N 0 (by omega) (by omega);rw[Nat.zero_mul,cur_start,cur_end hd g1 g2 g3]at this;exact this⟩
end bM
namespace jT
def g(_:Int):Bool:=false
def Z0{J:Type}(N:Nat)(a:Int)(kr:Bool->Option J):Option J :=
 kr (lk N (!(decide (a=a))))
def Spec:Prop:=∀ (v0:Int),∃N0,∀N,N0<=N->Z0 N v0 (λv2=>some ((),(v2,())))=some ((),((g v0),()))
def ok:Spec:=λx=>⟨0,λN hN=>by simp[Z0,aD,g]⟩
end jT
namespace jt
def g(x y:Int):Int:=if x=y then 0 else if x<y then -1 else 1
def Z0{J:Type}(N:Nat)(b a:Int)(kr:Int->Option J):Option J :=
 cond (lk N ((jT.g b)))
 (
  cond (lk N ((jT.g a)))
  (
   kr 0)
  (
   kr (-1)))
 (
  cond (lk N ((jT.g a)))
  (
   kr 1)
  (
   cond (lk N (decide (b<a)))
   (
    kr (-1))
   (
    cond (lk N (decide (a<b)))
    (
     kr 1)
    (
     kr 0))))
def Spec:Prop:=∀ (v0 v1:Int),∃N0,∀N,N0<=N->Z0 N v0 v1 (λv4=>some ((),(v4,())))=some ((),((g v0 v1),()))
def ok:Spec:=λx y=>⟨0,λN hN=>by
 simp only[Z0,aD,g,jT.g,cond_false];by_cases h:x<y;·rw[dt h,if_neg (by omega),if_pos h];rfl
 ·rw[df h];by_cases h2:y<x;·rw[dt h2,if_neg (by omega),if_neg h];rfl
  ·rw[df h2,if_pos (by omega)];rfl⟩
end jt
namespace eW
abbrev g(a b:List Int):Int:=ix a b
def Z1{J:Type}(N:Nat)(a b:LI)(kn:LI->LI->Option J):Option J :=
 kn a b
def Z4{J:Type}(N:Nat)(a b:LI)(kn:LI->LI->LI->I2 (Option J)):Option J :=
 kn a b a (a.length:Int) 0
def Z7{J:Type}(N:Nat)(d b c:LI)(e a:Int)(kn:LI->LI->LI->I2 (Option J))(k0:LI->LI->Option J)(kr:Int->Option J):Option J :=
 cond (lk N (decide (a<e)))
 (
  cond (lk N (ax a c.length)) (
   cond (lk N (decide ((b.length:Int)<=a)))
   (
    kr 1)
   (
    cond (lk N (ax a b.length)) (
     cond (lk N (!(decide ((jt.g (c.getD a.toNat 0) (b.getD a.toNat 0))=0))))
     (
      kr (jt.g (c.getD a.toNat 0) (b.getD a.toNat 0)))
     (
      kn d b c e (ac (a+1)))) none)) none)
 (
  k0 d b)
def Z6L{J:Type}(N:Nat)(k0:LI->LI->Option J)(kr:Int->Option J):Nat->LI->LI->LI->Int->Int->Option J
 |0,_,_,_,_,_=>none
 |M+1,a,b,c,d,e=>Z7 N a b c d e (λa b c d e=>Z6L N k0 kr M a b c d e) k0 kr
def Z6 N a b c d e k0 kr:=(Z6L N k0 kr N a b c d e:Option J)
def Z5 N a b c d e kn kr:=(Z6 N a b c d e kn kr:Option J)
def Z3 N a b kn kr:=(Z4 N a b (λa b c d e=>Z5 N a b c d e kn kr):Option J)
def Z8{J:Type}(N:Nat)(a b:LI)(kr:Int->Option J):Option J :=
 cond (lk N (decide ((a.length:Int)<(b.length:Int))))
 (
  kr (-1))
 (
  kr 0)
def Z2 N a b kr:=(Z3 N a b (λa b=>Z8 N a b kr) kr:Option J)
def Z0 N a b kr:=(Z1 N a b (λa b=>Z2 N a b kr):Option J)
def Spec:Prop:=∀ (v0 v1:LI),Ty.bd (.sl 0 (.int .i64)) v0->Ty.bd (.sl 0 (.int .i64)) v1->∃N0,∀N,N0<=N->Z0 N v0 v1 (λv4=>some ((),(v4,())))=some ((),((g v0 v1),()))
def loop{J:Type}(N:Nat)(k0:List Int->List Int->Option J)(kr:Int->Option J)(a b:List Int)(ha:a.length<=maxLen)(h0:k0 a b=if a.length<b.length then kr (-1)else kr 0):∀(M j:Nat),j<=a.length->j<=b.length->a.length-j<M ->
  Z6L N k0 kr M a b a (a.length:Int) (j:Int)=kr (ix (a.drop j) (b.drop j)):=by
 intro M;induction M with
 |zero=>intro j _ _ h;omega
 |succ M ih =>
  intro j hj hb hM;simp only[Z6L,Z7];by_cases h:j<a.length
  ·rw[ct (dt (by omega)),ct (aN h),fb 0 h];by_cases h2:j<b.length
   ·rw[cf (df (by omega)),ct (aN h2),Int.toNat_natCast,a8 (by omega),fb (l:=b) 0 h2,ix,ih (j+1) h h2 (by omega)];by_cases e:a.getD j 0=b.getD j 0;·rw[cf (nf (by rw[jt.g,if_pos e])),if_pos e]
    ·rw[ct (nt (by simp only[jt.g,if_neg e];split<;>omega)),if_neg e];simp only[jt.g,if_neg e]
   ·rw[ct (dt (by omega)),List.drop_of_length_le (l:=b) (by omega)];rfl
  ·rw[cf (df (by omega)),List.drop_of_length_le (by omega),h0];by_cases h2:j<b.length;·rw[if_pos (by omega),fb (l:=b) 0 h2];rfl
   ·rw[if_neg (by omega),List.drop_of_length_le (l:=b) (by omega)];rfl
def ok:Spec:=λa b ha hb=>⟨a.length+1,λN hN=>by
 simp only[Z1,Z4,Z7,Z6,Z5,Z3,Z8,Z2,Z0];refine(loop N _ (λt=>some ((),(t,()))) a b ha.1 ?_ N 0 (by omega) (by omega) (by omega)).trans rfl;by_cases h:a.length<b.length;·rw[ct (dt (by omega)),if_pos h]
 ·rw[cf (df (by omega)),if_neg h]⟩
end eW
namespace cF
def g(m:Int×Int×List Int):(Int×Int×List Int)×Bool:=if((aX m&&!decide (ba m=[]))&&decide (m.2.1=m.1))=true then(ny m,true)else((0,0,[]),false)
def Z1{J:Type}(N:Nat)(a:MT)(kn:I2 (LI->I2 (Option J))):Option J :=
 kn a.1 a.2.1 a.2.2 0 0
def Z3{J:Type}(N:Nat)(a b:Int)(c:LI)(d e:Int)(kn:I2 (LI->I2 (Option J)))(kr:LI->Bool->I2 (Option J)):Option J :=
 cond (!(lk N ((eU.g (a,(b,c))))))
 (
  kr ([]:List Int) false 0 0)
 (
  cond (lk N (!(decide (b=a))))
  (
   kr ([]:List Int) false 0 0)
  (
   kn a b c d e))
def Z5{J:Type}(N:Nat)(a b:Int)(c:LI)(d e:Int)(kn:I2 (LI->I4 (LI->Option J))):Option J :=
 kn a b c d e a b c
def Z8{J:Type}(N:Nat)(a b:Int)(c:LI)(d e f h:Int)(i:LI)(kn:LL->I4 (LI->I4 (LI->Option J))):Option J :=
 cond (lk N (bK.P a)) (
  kn (bK.g a) ((bK.g a).length:Int) 0 a b c d e f h i) none
def Z11{J:Type}(N:Nat)(b:LL)(j:LI)(f a c d:Int)(e:LI)(h i l m:Int)(kn:LL->LI->I4 (LI->I4 (Option J)))(k0:LI->I4 (Option J)):Option J :=
 cond (lk N (decide (a<f)))
 (
  cond (lk N (ax a b.length)) (
   cond (lk N (decide (a=0)))
   (
    kn b (bM.g (c,(d,e)) (b.getD a.toNat [])).1.2.2 f (ac (a+1)) c d e h i (bM.g (c,(d,e)) (b.getD a.toNat [])).1.1 (bM.g (c,(d,e)) (b.getD a.toNat [])).1.2.1)
   (
    cond (lk N (decide ((eW.g (bM.g (c,(d,e)) (b.getD a.toNat [])).1.2.2 j)<0)))
    (
     kn b (bM.g (c,(d,e)) (b.getD a.toNat [])).1.2.2 f (ac (a+1)) c d e h i (bM.g (c,(d,e)) (b.getD a.toNat [])).1.1 (bM.g (c,(d,e)) (b.getD a.toNat [])).1.2.1)
    (
     kn b j f (ac (a+1)) c d e h i l m))) none)
 (
  k0 j h i l m)
def Z12{J:Type}(N:Nat)(b:LL)(f a c d:Int)(e:LI)(h i l m:Int)(j:LI)(kn:LL->LI->I4 (LI->I4 (Option J)))(k0:LI->I4 (Option J)):Option J :=
 cond (lk N (decide (a<f)))
 (
  cond (lk N (ax a b.length)) (
   cond (lk N (decide (a=0)))
   (
    kn b (bM.g (c,(d,e)) (b.getD a.toNat [])).1.2.2 f (ac (a+1)) c d e h i (bM.g (c,(d,e)) (b.getD a.toNat [])).1.1 (bM.g (c,(d,e)) (b.getD a.toNat [])).1.2.1)
   (
    cond (lk N (decide ((eW.g (bM.g (c,(d,e)) (b.getD a.toNat [])).1.2.2 j)<0)))
    (
     kn b (bM.g (c,(d,e)) (b.getD a.toNat [])).1.2.2 f (ac (a+1)) c d e h i (bM.g (c,(d,e)) (b.getD a.toNat [])).1.1 (bM.g (c,(d,e)) (b.getD a.toNat [])).1.2.1)
    (
     none))) none)
 (
  none)
def Z10L{J:Type}(N:Nat)(k0:LI->I4 (Option J)):Nat->LL->LI->Int->Int->Int->Int->LI->Int->Int->Int->Int->Option J
 |0,_,_,_,_,_,_,_,_,_,_,_=>none
 |M+1,a,b,c,d,e,f,g,h,i,j,l=>Z11 N a b c d e f g h i j l (λa b c d e f g h i j l=>Z10L N k0 M a b c d e f g h i j l) k0
def Z10 N a b c d e f g h i j l k0:=(Z12 N a b c d e f g h i j l (λa l b c d e f g h i j=>Z10L N k0 N a l b c d e f g h i j) k0:Option J)
def Z9 N a b c d e f g h i j l kn:=(Z10 N a b c d e f g h i j l kn:Option J)
def Z7 N a b c d e f g h kn:=(Z8 N a b c d e f g h (λi j l a b c d e f g h=>Z9 N i j l a b c d e f g h kn):Option J)
def Z13{J:Type}(N:Nat)(a:LI)(d e b c:Int)(kr:LI->Bool->I2 (Option J)):Option J :=
 kr a true b c
def Z6 N f g h a b c d e kr:=(Z7 N f g h a b c d e (λe a b c d=>Z13 N e a b c d kr):Option J)
def Z4 N a b c d e kr:=(Z5 N a b c d e (λa b c d e f g h=>Z6 N a b c d e f g h kr):Option J)
def Z2 N a b c d e kr:=(Z3 N a b c d e (λa b c d e=>Z4 N a b c d e kr) kr:Option J)
def Z0 N a kr:=(Z1 N a (λb c d e f=>Z2 N b c d e f kr):Option J)
def Spec:Prop:=∀ (v0:MT),Ty.bd (.pair (.int .i64) (.pair (.int .i64) (.sl 0 (.int .i64)))) v0->∃N0,∀N,N0<=N->Z0 N v0 (λv2_2 v3 v2_0 v2_1=>some ((),((v2_0,(v2_1,v2_2)),(v3,()))))=some ((),((g v0).1,((g v0).2,())))
def Fu{m:Int×Int×List Int}(hok:(aX m&&!decide (ba m=[]))=true){o:List Int}(ho:dJ o m.1=true):bM.g (m.1,(m.2.1,m.2.2)) o=(bV m o,true):=by unfold bM.g;rw[if_pos];rw[show(m.1,(m.2.1,m.2.2))=m from rfl,hok,ho];rfl
def loop{J:Type}{N:Nat}{m:Int×Int×List Int}(hok:(aX m&&!decide (ba m=[]))=true){l:List (List Int)}(hl:∀o∈l,dJ o m.1=true)(hl2:l.length<=4000)(k0:List Int->Int->Int->Int->Int->Option J)(t0 t1:Int) :
  ∀(M j:Nat) (b:List Int),1<=j->j<=l.length->l.length-j<M->Z10L N k0 M l b (l.length:Int) (j:Int) m.1 m.2.1 m.2.2 t0 t1 m.1 m.2.1=k0 (du (cR m) b (l.drop j)) t0 t1 m.1 m.2.1:=by
 intro M;induction M with
 |zero=>intro j b _ _ h;omega
 |succ M ih =>
  intro j b h1 hj hM;simp only[Z10L,Z11];by_cases h:j<l.length;·have e0:=Fu hok (hl _ (bz (l:=l) [] h));have e1:decide ((eW.g (cR m (l.getD j [])) b)<0)=cd (cR m (l.getD j [])) b:=t6 _ _;rw[ct (dt (by omega)),ct (aN h),cf (df (by omega)),Int.toNat_natCast,e0];have e2:((bV m (l.getD j []),true):(Int×Int×List Int)×Bool).1.2.2=cR m (l.getD j []):=rfl;have e3:((bV m (l.getD j []),true):(Int×Int×List Int)×Bool).1.1=m.1:=rfl;have e4:((bV m (l.getD j []),true):(Int×Int×List Int)×Bool).1.2.1=m.2.1:=rfl;rw[e2,e3,e4,e1,aD,a8 (by rw[bn];omega),ih (j+1) _ (by omega) h (by omega),ih (j+1) _ (by omega) h (by omega),fb (l:=l) [] h];have e5:du (cR m) b (l.getD j []::l.drop (j+1))=du (cR m) (if cd (cR m (l.getD j [])) b=true then cR m (l.getD j [])else b) (l.drop (j+1)):=rfl;rw[e5];cases cd (cR m (l.getD j [])) b<;>rfl
  ·rw[cf (df (by omega)),List.drop_of_length_le (by omega)];rfl
def ok:Spec:=λm hb=>⟨5000,λN hN=>by
 have e0:eU.g (m.1,(m.2.1,m.2.2))=(aX m&&!decide (ba m=[])):=rfl;simp only[Z0,Z1,Z2,Z3,e0,aD,g];cases h1:(aX m&&!decide (ba m=[]));·rfl
 by_cases h2:m.2.1=m.1
 ·have hs:aX m=true:=by simp only[Bool.and_eq_true]at h1;exact h1.1
  have hd:=cI hs;obtain⟨n,r,hn,hr',hn1,hn5,hnr,hr8,hl⟩:=aU hd;have e1:m.1.toNat=n:=by omega
  have hOP:bK.P m.1=true:=by simp only[bK.P,Bool.and_eq_true,decide_eq_true_eq];exact⟨by omega,by omega⟩
  have hO:bK.g m.1=eR n:=by rw[bK.g,e1]
  have hcnt:=D4 hn5;have hnm:∀o∈eR n,dJ o m.1=true:=λo ho=>by rw[hn];exact rF hn5 ho
  have hid:=uk hn5;rw[dt h2];simp only[Bool.not_true,cond_false,Z4,Z5,Z6,Z7,Z8,hOP,aD,cond_true,hO];simp only[Z9,Z10,Z12];have hca:ny m=(m.1,m.2.1,yY (cR m) (eR n)):=by rw[ny,e1]
  rw[hca];generalize eR n=O at hcnt hnm hid;cases O with
  |nil=>cases hid
  |cons o os =>have e2:=Fu h1 (hnm o (List.mem_cons_self ..));have e3:(o::os).getD (0:Int).toNat []=o:=rfl;rw[ct (dt (by simp)),ct (show ax 0 (o::os).length=true from aN (j:=0) (by simp)),ct (show decide True=true from rfl),e3,e2];have hlp:=loop (J:=Unit×(Int×Int×List Int)×Bool×Unit) (N:=N) h1 hnm (by omega) (λbest4_2 t2_0 t2_1 best4_0 best4_1=>Z13 N best4_2 t2_0 t2_1 best4_0 best4_1 (λt2_2 t3 t2_0 t2_1=>some ((),((t2_0,(t2_1,t2_2)),(t3,()))))) 0 0 N 1 (cR m o) (by omega) (by simp) (by omega);exact hlp
 ·rw[df h2];rfl⟩
end cF
namespace strconv_Itoa
def g(n:Int):ByteArray:=bC n
def P(n:Int):Bool:=dG n
def ok:True:=trivial
end strconv_Itoa
namespace eo
def g(n:Int):ByteArray:=bC n
def P(n:Int):Bool:=dG n
def Z0{J:Type}(N:Nat)(a:Int)(kr:ByteArray->Option J):Option J :=
 cond (lk N (strconv_Itoa.P a)) (
  kr (strconv_Itoa.g a)) none
def Spec:Prop:=∀ (v0:Int),P v0=true->∃N0,∀N,N0<=N->Z0 N v0 (λv2=>some ((),(v2,())))=some ((),((g v0),()))
def ok:Spec:=λn hp=>⟨0,λN hN=>by simp only[Z0];rw[ct (show strconv_Itoa.P n=true from hp)];rfl⟩
end eo
namespace strings_Join
def g(xs:List ByteArray)(sep:ByteArray):ByteArray:=⟨(Lib.join (xs.map (·.data.toList)) sep.data.toList).toArray⟩
def P(xs:List ByteArray)(sep:ByteArray):Bool:=Nat.ble xs.length 140737488355328&&Nat.ble (Lib.join (xs.map (·.data.toList)) sep.data.toList).length 140737488355328
def ok:True:=trivial
end strings_Join
namespace dw
def g(l:List Int):ByteArray:=eQ l
def P(l:List Int):Bool:=lI l
def Z1{J:Type}(N:Nat)(a:LI)(kn:LI->Option J):Option J :=
 kn a
def Z3{J:Type}(N:Nat)(a:LI)(kn:LI->Option J):Option J :=
 kn a
def Z6{J:Type}(N:Nat)(a:LI)(kn:LI->I2 (Option J)):Option J :=
 kn a (a.length:Int) 0
def Z9{J:Type}(N:Nat)(c:List ByteArray)(b:LI)(d a:Int)(kn:List ByteArray->LI->I2 (Option J))(k0:List ByteArray->Option J):Option J :=
 cond (lk N (decide (a<d)))
 (
  cond (lk N (ax a b.length)) (
   cond (lk N (eo.P (b.getD a.toNat 0))) (
    cond (lk N (Nat.blt (c.length+([(eo.g (b.getD a.toNat 0))]:List ByteArray).length) 1099511627776)) (
     kn (c++([(eo.g (b.getD a.toNat 0))]:List ByteArray)) b d (ac (a+1))) none) none) none)
 (
  k0 c)
def Z8L{J:Type}(N:Nat)(k0:List ByteArray->Option J):Nat->List ByteArray->LI->Int->Int->Option J
 |0,_,_,_,_=>none
 |M+1,a,b,c,d=>Z9 N a b c d (λa b c d=>Z8L N k0 M a b c d) k0
def Z8 N a b c k0:=(Z8L N k0 N ([]:List ByteArray) a b c:Option J)
def Z7 N a b c kn:=(Z8 N a b c kn:Option J)
def Z5 N a kn:=(Z6 N a (λb c d=>Z7 N b c d kn):Option J)
def Z10{J:Type}(N:Nat)(a:List ByteArray)(kr:ByteArray->Option J):Option J :=
 cond (lk N (strings_Join.P a (⟨#[32]⟩:ByteArray))) (
  kr (strings_Join.g a (⟨#[32]⟩:ByteArray))) none
def Z4 N a kr:=(Z5 N a (λb=>Z10 N b kr):Option J)
def Z2 N a kr:=(Z3 N a (λa=>Z4 N a kr):Option J)
def Z0 N a kr:=(Z1 N a (λa=>Z2 N a kr):Option J)
def Spec:Prop:=∀ (v0:LI),Ty.bd (.sl 0 (.int .i64)) v0->P v0=true->∃N0,∀N,N0<=N->Z0 N v0 (λv2=>some ((),(v2,())))=some ((),((g v0),()))
def loop{J:Type}{N:Nat}(k0:List ByteArray->Option J){l:List Int}(hp:lI l=true):∀(M j:Nat),j<=l.length->l.length-j<M->Z8L N k0 M ((l.take j).map bC) l (l.length:Int) (j:Int)=k0 (l.map bC):=by
 simp only[lI,Bool.and_eq_true,decide_eq_true_eq]at hp;intro M;induction M with
 |zero=>intro j _ h;omega
 |succ M ih =>
  intro j hj hM;simp only[Z8L,Z9];by_cases h:j<l.length
  ·have h1:eo.P (l.getD j 0)=true:=List.all_eq_true.1 hp.2 _ (bz 0 h);have h2:eo.g (l.getD j 0)=bC (l.getD j 0):=rfl;have h3:∀x:ByteArray,Nat.blt (((l.take j).map bC).length+([x]:List ByteArray).length) 1099511627776=true:=λx=>Nat.ble_eq_true_of_le (by simp;omega);rw[ct (dt (by omega)),ct (aN h),Int.toNat_natCast,ct h1,h2,ct (h3 _),a8 (by rw[bn];omega)];have e:(l.take j).map bC++[bC (l.getD j 0)]=(l.take (j+1)).map bC:=by rw[<-rc 0 h,List.map_append];rfl
   rw[e];exact ih (j+1) h (by omega)
  ·rw[cf (df (by omega)),List.take_of_length_le (by omega)]
def ok:Spec:=λl hb hp=>⟨l.length+1,λN hN=>by
 have hp':=hp;simp only[P,lI,Bool.and_eq_true,decide_eq_true_eq]at hp';simp only[Z1,Z3,Z6,Z9,Z8,Z7,Z5,Z10,Z4,Z2,Z0];refine(loop _ hp N 0 (Nat.zero_le _) (by omega)).trans ?_;have e:((l.map bC).map (·.data.toList))=l.map Lib.itoa:=by rw[List.map_map];exact List.map_congr_left λn _=>yM n
 have hlen:=DD hp'.2;have e2:(⟨#[32]⟩:ByteArray).data.toList=[32]:=rfl;have hP:strings_Join.P (l.map bC) ⟨#[32]⟩=true:=by simp only[strings_Join.P,e,e2,Bool.and_eq_true,List.length_map];exact⟨Nat.ble_eq_true_of_le (by omega),Nat.ble_eq_true_of_le (show(eD l).length<=_ by omega)⟩
 have hg:strings_Join.g (l.map bC) ⟨#[32]⟩=eQ l:=by simp only[strings_Join.g,e,e2];rfl
 rw[ct hP,hg];rfl⟩
end dw
namespace nT
def g(a b:Int×Int×List Int):Int:=ix a.2.2 b.2.2
def Z0{J:Type}(N:Nat)(a b:MT)(kr:Int->Option J):Option J :=
 kr (eW.g a.2.2 b.2.2)
def Spec:Prop:=∀ (v0 v1:MT),Ty.bd (.pair (.int .i64) (.pair (.int .i64) (.sl 0 (.int .i64)))) v0->Ty.bd (.pair (.int .i64) (.pair (.int .i64) (.sl 0 (.int .i64)))) v1->∃N0,∀N,N0<=N->Z0 N v0 v1 (λv4=>some ((),(v4,())))=some ((),((g v0 v1),()))
def ok:Spec:=λa b ha hb=>⟨0,λN hN=>rfl⟩
end nT
namespace jU
abbrev g(l:List (Int×Int×List Int))(u:Unit):List (Int×Int×List Int):=kM l
abbrev P(l:List (Int×Int×List Int))(u:Unit):Bool:=Nat.blt 0 l.length&&Nat.blt l.length 4611686018427387904
def ok:True:=trivial
end jU
namespace cu
def g(m:Int×Int×List Int):List (Int×Int×List Int)×Bool:=fk m
def Z1{J:Type}(N:Nat)(a:MT)(kn:I2 (LI->Option J)):Option J :=
 kn a.1 a.2.1 a.2.2
def Z3{J:Type}(N:Nat)(a b:Int)(c:LI)(kn:LI->Bool->I2 (LI->I2 (Option J))):Option J :=
 kn (cF.g (a,(b,c))).1.2.2 (lk N ((cF.g (a,(b,c))).2)) a b c (cF.g (a,(b,c))).1.1 (cF.g (a,(b,c))).1.2.1
def Z5{J:Type}(N:Nat)(a:LI)(b:Bool)(c d:Int)(e:LI)(f g:Int)(kn:LI->I2 (LI->I2 (Option J)))(kr:LM->Bool->Option J):Option J :=
 cond (!(b))
 (
  kr ([]:List (MT)) false)
 (
  kn a c d e f g)
def Z7{J:Type}(N:Nat)(a:LI)(d e:Int)(f:LI)(b c:Int)(kn:LM->I2 (LI->I2 (LI->Option J))):Option J :=
 kn ([(b,(c,a))]:List (MT)) d e f b c a
def Z9{J:Type}(N:Nat)(b:LM)(c d:Int)(e:LI)(f h:Int)(a:LI)(kn:LM->I2 (LI->List ByteArray->Option J)):Option J :=
 cond (lk N (dw.P a)) (
  kn b c d e (jx ([]:List ByteArray) (dw.g a))) none
def Z12{J:Type}(N:Nat)(a:LM)(b c:Int)(d:LI)(e:List ByteArray)(kn:LM->I3 (LI->List ByteArray->Option J)):Option J :=
 kn a 0 b c d e
def Z16{J:Type}(N:Nat)(a:LM)(b c d:Int)(e:LI)(f:List ByteArray)(kn:LM->I3 (LI->List ByteArray->Option J))(k0:LM->Option J):Option J :=
 cond (lk N (decide (b<(a.length:Int))))
 (
  kn a b c d e f)
 (
  k0 a)
def Z20{J:Type}(N:Nat)(a:LM)(b c d:Int)(e:LI)(f:List ByteArray)(kn:LM->I4 (LI->List ByteArray->Option J)):Option J :=
 kn a b 0 c d e f
def Z23{J:Type}(N:Nat)(a:LM)(b c d f:Int)(h:LI)(e:List ByteArray)(kn:LM->I4 (LI->List ByteArray->Option J))(k2:LM->I3 (LI->List ByteArray->Option J))(kr:LM->Bool->Option J):Option J :=
 cond (lk N (decide (c<d)))
 (
  cond (lk N (ax b a.length)) (
   cond (!(lk N ((cE.g (a.getD b.toNat (0,(0,[]))) c).2)))
   (
    kr ([]:List (MT)) false)
   (
    cond (lk N (dw.P (cF.g (cE.g (a.getD b.toNat (0,(0,[]))) c).1).1.2.2)) (
     cond (!(lk N (fR e (dw.g (cF.g (cE.g (a.getD b.toNat (0,(0,[]))) c).1).1.2.2))))
     (
      cond (lk N (Nat.blt (a.length+([(cF.g (cE.g (a.getD b.toNat (0,(0,[]))) c).1).1]:List (MT)).length) 1099511627776)) (
       cond (lk N (decide (100<((a++([(cF.g (cE.g (a.getD b.toNat (0,(0,[]))) c).1).1]:List (MT))).length:Int))))
       (
        kr ([]:List (MT)) false)
       (
        kn (a++([(cF.g (cE.g (a.getD b.toNat (0,(0,[]))) c).1).1]:List (MT))) b (ac (c+1)) d f h (jx e (dw.g (cF.g (cE.g (a.getD b.toNat (0,(0,[]))) c).1).1.2.2)))) none)
     (
      cond (lk N (decide (100<(a.length:Int))))
      (
       kr ([]:List (MT)) false)
      (
       kn a b (ac (c+1)) d f h e))) none)) none)
 (
  k2 a b d f h e)
def Z22L{J:Type}(N:Nat)(k2:LM->I3 (LI->List ByteArray->Option J))(kr:LM->Bool->Option J):Nat->LM->Int->Int->Int->Int->LI->List ByteArray->Option J
 |0,_,_,_,_,_,_,_=>none
 |M+1,a,b,c,d,e,f,g=>Z23 N a b c d e f g (λa b c d e f g=>Z22L N k2 kr M a b c d e f g) k2 kr
def Z22 N a b c d e f g k2 kr:=(Z22L N k2 kr N a b c d e f g:Option J)
def Z21 N a b c d e f g kn kr:=(Z22 N a b c d e f g kn kr:Option J)
def Z19 N a b c d e f kn kr:=(Z20 N a b c d e f (λa b g c d e f=>Z21 N a b g c d e f kn kr):Option J)
def Z18 N a b c d e f kn kr:=(Z19 N a b c d e f kn kr:Option J)
def Z24{J:Type}(N:Nat)(a:LM)(b c d:Int)(e:LI)(f:List ByteArray)(kn:LM->I3 (LI->List ByteArray->Option J)):Option J :=
 kn a (ac (b+1)) c d e f
def Z17 N a b c d e f kn kr:=(Z18 N a b c d e f (λa b c d e f=>Z24 N a b c d e f kn) kr:Option J)
def Z15 N a b c d e f kn k0 kr:=(Z16 N a b c d e f (λa b c d e f=>Z17 N a b c d e f kn kr) k0:Option J)
def Z14L{J:Type}(N:Nat)(k0:LM->Option J)(kr:LM->Bool->Option J):Nat->LM->Int->Int->Int->LI->List ByteArray->Option J
 |0,_,_,_,_,_,_=>none
 |M+1,a,b,c,d,e,f=>Z15 N a b c d e f (λa b c d e f=>Z14L N k0 kr M a b c d e f) k0 kr
def Z14 N a b c d e f k0 kr:=(Z14L N k0 kr N a b c d e f:Option J)
def Z13 N a b c d e f kn kr:=(Z14 N a b c d e f kn kr:Option J)
def Z11 N a b c d e kn kr:=(Z12 N a b c d e (λa f b c d e=>Z13 N a f b c d e kn kr):Option J)
def Z25{J:Type}(N:Nat)(a:LM)(kr:LM->Bool->Option J):Option J :=
 cond (lk N (jU.P a ())) (
  kr (jU.g a ()) true) none
def Z10 N a b c d e kr:=(Z11 N a b c d e (λa=>Z25 N a kr) kr:Option J)
def Z8 N a b c d e f g kr:=(Z9 N a b c d e f g (λa b c d h=>Z10 N a b c d h kr):Option J)
def Z6 N a b c d e f kr:=(Z7 N a b c d e f (λg b c d e f a=>Z8 N g b c d e f a kr):Option J)
def Z4 N a g b c d e f kr:=(Z5 N a g b c d e f (λa b c d e f=>Z6 N a b c d e f kr) kr:Option J)
def Z2 N a b c kr:=(Z3 N a b c (λd e a b c f g=>Z4 N d e a b c f g kr):Option J)
def Z0 N a kr:=(Z1 N a (λb c d=>Z2 N b c d kr):Option J)
def Spec:Prop:=∀ (v0:MT),Ty.bd (.pair (.int .i64) (.pair (.int .i64) (.sl 0 (.int .i64)))) v0->∃N0,∀N,N0<=N->Z0 N v0 (λv2 v3=>some ((),(v2,(v3,()))))=some ((),((g v0).1,((g v0).2,())))
def iC(S:List (Int×Int×List Int)):List ByteArray:=S.map λy=>eQ y.2.2
def PI{n:Int}{x y:Int×Int×List Int}(hx:bD n x)(hy:bD n y)(h:eQ x.2.2=eQ y.2.2):x.2.2=y.2.2:=by
 have ne:∀{x:Int×Int×List Int},bD n x->x.2.2≠[]:=λhx e=>by have:=hx.len.1;rw[e]at this;simp at this
 have rg:∀{x:Int×Int×List Int},bD n x->∀u∈x.2.2,bE u (-999999999) 999999999=true:=λhx u hu=>by have:=hx.ents u hu;rw[cO];omega
 have h1:=EB (ne hx) (rg hx);have h2:=EB (ne hy) (rg hy);rw[h,h2]at h1;injection h1 with h1;exact h1.symm
def Fv{n:Int}{S:List (Int×Int×List Int)}{y:Int×Int×List Int}(hS:d6 n S)(hy:bD n y):fR (iC S) (eQ y.2.2)=gX S y.2.2:=by
 have key:fR (iC S) (eQ y.2.2)=true↔gX S y.2.2=true:=by rw[K1,oZ,iC,List.mem_map];exact⟨λ⟨x,hx,e⟩=>⟨x,hx,PI (hS x hx) hy e⟩,λ⟨x,hx,e⟩=>⟨x,hx,by rw[e]⟩⟩
 cases h:gX S y.2.2
 ·rw[h]at key;cases h2:fR (iC S) (eQ y.2.2);·rfl
  ·rw[h2]at key;exact absurd (key.1 rfl) (by simp)
 ·rw[h]at key;exact key.2 rfl
def Fx{n:Int}{y:Int×Int×List Int}(hy:bD n y):dw.P y.2.2=true:=by have h1:=hy.len;simp only[dw.P,lI,Bool.and_eq_true,decide_eq_true_eq,List.all_eq_true];refine⟨by omega,λu hu=>?_⟩;have:=hy.ents u hu;simp only[eo.P,dG,Bool.and_eq_true,decide_eq_true_eq];omega
section
variable {J : Type} {N : Nat} {m : Int × Int × List Int} {n : Nat} (hn : m.1 = (n : Int))
include hn
theorem row{k2:List (Int×Int×List Int)->Int->Int->Int->List Int->List ByteArray->Option J}{kr:List (Int×Int×List Int)->Bool->Option J}{a:Nat}{x:Int×Int×List Int}(hx:bD m.1 x) :
  ∀(M r k:Nat) {S:List (Int×Int×List Int)},k+r=n->r<M->d6 m.1 S->S.length<=100->a<S.length->S.getD a z3=x ->
   Z22L N k2 kr M S (a:Int) (k:Int) m.1 m.2.1 m.2.2 (iC S)=match f7 x k r S with
    |some S'=>k2 S' (a:Int) m.1 m.2.1 m.2.2 (iC S')
    |none=>kr [] false:=by
 intro M;induction M with
 |zero=>intro r k S _ h;omega
 |succ M ih =>
  intro r k S hk hM hS hl ha hxa;simp only[Z22L,Z23];cases r with
  |zero =>rw[cf (df (by omega))];rfl
  |succ r =>
   have hb5:=hx.bound;have h0:=hx.2.1;obtain⟨d,hR⟩:=hx.1;have hmu:cE.g x (k:Int)=if aP (bf x k)=true then(bf x k,true)else((0,0,[]),false):=by
    have hkk:bE (k:Int) 0 (x.1-1)=true:=by rw[cO];omega
    have hok:=hR.ok;have hal:=zf hok (k:=k) (by omega);unfold cE.g;rw[kc,hok,Int.toNat_natCast];simp only[hal];have:bE (k:Int) 0 (x.1-1)=true:=hkk;first | rw[this];simp | simp[this]
   rw[ct (dt (by omega)),ct (aN ha),Int.toNat_natCast,hxa,hmu];have e1:f7 x k (r+1) S=(f5 x k S).bind (f7 x (k+1) r):=rfl;rw[e1];cases hz:aP (bf x k);·simp only[Bool.false_eq_true,if_false,aD];unfold f5;rw[hz];rfl
   ·have hf:=hx.mut (k:=k) (by omega) hz;have hfn:=hx.nxt (k:=k) (by omega) hz;have hcan:cF.g (bf x k)=(dK x k,true):=by obtain⟨d',hR'⟩:=hf.1;unfold cF.g;rw[kc,hR'.ok,dt (hf.2.2.trans hf.2.1.symm),Bool.and_self,if_pos rfl,D3 hf.dim (hf.2.2.trans hf.2.1.symm)];rfl
    have hk1:dw.g (dK x k).2.2=eQ (dK x k).2.2:=rfl;simp only[if_true,aD,hcan,Bool.not_true,cond_false,Fx hfn,cond_true,hk1,Fv hS hfn];have e2:(fi S (dK x k))=if gX S (dK x k).2.2=true then S else S++[dK x k]:=rfl
    have stp:∀{S':List (Int×Int×List Int)},f5 x k S=some S'->Z22L N k2 kr M S' (a:Int) (ac ((k:Int)+1)) m.1 m.2.1 m.2.2 (iC S')=match(f5 x k S).bind (f7 x (k+1) r)with
      |some S'=>k2 S' (a:Int) m.1 m.2.1 m.2.2 (iC S')
      |none=>kr [] false:=by
     intro S' h;obtain⟨e,f1,f2,f3⟩:=Ee hS hx (by omega) h;rw[h,a8 (by rw[bn];omega)];exact ih r (k+1) (by omega) (by omega) f1 f3 (by omega) (by rw[e,Ec ha,hxa])
    cases hh:gX S (dK x k).2.2
    ·have hb:Nat.blt (S.length+([dK x k]:List (Int×Int×List Int)).length) 1099511627776=true:=Nat.ble_eq_true_of_le (by simp;omega);have hadd:jx (iC S) (eQ (dK x k).2.2)=iC (S++[dK x k]):=by unfold jx;rw[Fv hS hfn,hh];simp[iC]
     simp only[Bool.not_false,cond_true,hb,hadd];by_cases h100:(S++[dK x k]).length<=100;·rw[df (by omega),cond_false];refine stp ?_;unfold f5;rw[if_pos hz,e2,hh];simp only[Bool.false_eq_true,if_false];rw[if_pos h100]
     ·rw[dt (by omega),cond_true];have:f5 x k S=none:=by unfold f5;rw[if_pos hz,e2,hh];simp only[Bool.false_eq_true,if_false];rw[if_neg h100]
      rw[this];rfl
    ·simp only[Bool.not_true,cond_false];rw[df (by omega),cond_false];refine stp ?_;unfold f5;rw[if_pos hz,e2,hh];simp only[if_true];rw[if_pos hl]
theorem run(hN:4000<=N){k0:List (Int×Int×List Int)->Option J}{kr:List (Int×Int×List Int)->Bool->Option J} :
  ∀(M F a:Nat) {S:List (Int×Int×List Int)},d6 m.1 S->S.length<=100->a<=S.length->101-a<M->101-a<F ->
   Z14L N k0 kr M S (a:Int) m.1 m.2.1 m.2.2 (iC S)=match gF n F a S with
    |some S'=>k0 S'
    |none=>kr [] false:=by
 intro M;induction M with
 |zero=>intro F a S _ _ _ h;omega
 |succ M ih =>
  intro F a S hS hl ha hM hF;obtain⟨F,rfl⟩:∃F',F=F'+1:=⟨F-1,by omega⟩;simp only[Z14L,Z15,Z16];have e1:gF n (F+1) a S=if a<S.length then(f7 (S.getD a z3) 0 n S).bind (gF n F (a+1))else some S:=rfl
  rw[e1];by_cases h:a<S.length
  ·rw[ct (dt (by omega)),if_pos h];simp only[Z17,Z18,Z19,Z20,Z21,Z22];have hx:=rI hS h;have hb:=hx.bound;refine(row hn hx N n 0 (by omega) (by omega) hS hl h rfl).trans ?_;cases hr:f7 (S.getD a z3) 0 n S with
   |none=>rfl
   |some S' =>obtain⟨f1,f2,f3,f4⟩:=uu hx n 0 (by omega) hS hl hr;simp only[Option.bind_some,Z24];rw[a8 (by rw[bn];omega)];exact ih F (a+1) f1 f3 (by omega) (by omega) (by omega)
  ·rw[cf (df (by omega)),if_neg h]
end
def ok:Spec:=λm hb=>⟨9000,λN hN=>by
 simp only[Z0,Z1,Z2,Z3,aD];have e0:((m.1,(m.2.1,m.2.2)):Int×Int×List Int)=m:=rfl;rw[e0];have hcg:cF.g m=if gY m=true then(ny m,true)else((0,0,[]),false):=by unfold cF.g;rw[kc];rfl
 rw[hcg];unfold g fk;cases hp:gY m;·rfl
 ·have hf:=zj hp;obtain⟨b1,b2,_⟩:=hf.bound;obtain⟨n,hn⟩:=Int.eq_ofNat_of_zero_le (show 0<=m.1 by omega);have hcs:ny m=bO m:=D3 hf.dim (hf.2.2);have hfc:=hf.can;simp only[if_true,Z4,Z5,Bool.not_true,cond_false,Z6,Z7,Z8,Z9,hcs,aD];have e1:(((bO m).1,((bO m).2.1,(bO m).2.2)):Int×Int×List Int)=bO m:=rfl;have e2:jx ([]:List ByteArray) (dw.g (bO m).2.2)=iC [bO m]:=rfl;rw[e1,e2,Fx hfc,cond_true];simp only[Z10,Z11,Z12,Z13,Z14];have hFL:d6 m.1 [bO m]:=λx hx=>by rw[List.mem_singleton.1 hx];exact hfc
  refine(run (J:=Unit×(List (Int×Int×List Int)×(Bool×Unit))) hn (by omega) N 102 0 (S:=[bO m]) hFL (by simp) (Nat.zero_le _) (by omega) (by omega)).trans ?_;have e:jI m=gF n 102 0 [bO m]:=by unfold jI;rw[show m.1.toNat=n by omega]
  rw[<-e];cases hc:jI m with
  |none=>rfl
  |some S =>
   obtain⟨f1,f2,f3⟩:=nB hp hc;have hP:jU.P S ()=true:=by simp only[jU.P,Bool.and_eq_true,Nat.blt_eq];omega
   have hS:jU.g S ()=fj m.1 S:=Ob f1 (D6 S) (N3 S);simp only[Z25,hP,aD,cond_true,hS]⟩
end cu
namespace bS
def g(m:Int×Int×List Int):List (Int×Int×List Int)×Bool:=ef m
def Z1{J:Type}(N:Nat)(a:MT)(kn:I2 (LI->Option J)):Option J :=
 kn a.1 a.2.1 a.2.2
def Z3{J:Type}(N:Nat)(a b:Int)(c:LI)(kn:LM->Bool->Option J):Option J :=
 kn (cu.g (jR.g (a,(b,c)))).1 (lk N ((cu.g (jR.g (a,(b,c)))).2))
def Z5{J:Type}(N:Nat)(a:LM)(b:Bool)(kn:LM->Option J)(kr:LM->Bool->Option J):Option J :=
 cond (!(b))
 (
  kr ([]:List (MT)) false)
 (
  kn a)
def Z8{J:Type}(N:Nat)(a:LM)(kn:LM->I2 (Option J)):Option J :=
 kn a (a.length:Int) 0
def Z12{J:Type}(N:Nat)(c:LM)(a b:Int)(kn:LM->I2 (Bool->Option J)):Option J :=
 kn c a b (lk N (decide (b<a)))
def Z14{J:Type}(N:Nat)(a:LM)(b c:Int)(d:Bool)(kn:LM->I2 (Option J))(k0:LM->Option J):Option J :=
 cond (d)
 (
  kn a b c)
 (
  k0 a)
def Z18{J:Type}(N:Nat)(a:LM)(c b:Int)(kn:LM->I4 (LI->Option J)):Option J :=
 cond (lk N (ax b a.length)) (
  kn a c b (a.getD b.toNat (0,(0,[]))).1 (a.getD b.toNat (0,(0,[]))).2.1 (a.getD b.toNat (0,(0,[]))).2.2) none
def Z20{J:Type}(N:Nat)(a:LM)(b c d e:Int)(f:LI)(kn:LM->I5 (LI->Option J)):Option J :=
 kn a 0 b c d e f
def Z24{J:Type}(N:Nat)(a:LM)(b c d e f:Int)(g:LI)(kn:LM->I5 (LI->Option J))(k2:LM->I2 (Option J)):Option J :=
 cond (lk N (decide (b<e)))
 (
  kn a b c d e f g)
 (
  k2 a c d)
def Z28{J:Type}(N:Nat)(a:LM)(b c d e f:Int)(g:LI)(kn:LM->I6 (LI->Option J)):Option J :=
 kn a b 0 c d e f g
def Z31{J:Type}(N:Nat)(f:LM)(b c h i a d:Int)(e:LI)(kn:LM->I6 (LI->Option J))(k4:LM->I5 (LI->Option J))(kr:LM->Bool->Option J):Option J :=
 cond (lk N (decide (c<a)))
 (
  cond (lk N (b9.P (a,(d,e)) b c)) (
   cond (lk N (b9.P (a,(d,e)) c b)) (
    cond (lk N (decide ((ac ((b9.g (a,(d,e)) b c)*(b9.g (a,(d,e)) c b)))<(-3))))
    (
     kr ([]:List (MT)) false)
    (
     kn f b (ac (c+1)) h i a d e)) none) none)
 (
  k4 f b h i a d e)
def Z30L{J:Type}(N:Nat)(k4:LM->I5 (LI->Option J))(kr:LM->Bool->Option J):Nat->LM->Int->Int->Int->Int->Int->Int->LI->Option J
 |0,_,_,_,_,_,_,_,_=>none
 |M+1,a,b,c,d,e,f,g,h=>Z31 N a b c d e f g h (λa b c d e f g h=>Z30L N k4 kr M a b c d e f g h) k4 kr
def Z30 N a b c d e f g h k4 kr:=(Z30L N k4 kr N a b c d e f g h:Option J)
def Z29 N a b c d e f g h kn kr:=(Z30 N a b c d e f g h kn kr:Option J)
def Z27 N a b c d e f g kn kr:=(Z28 N a b c d e f g (λa b h c d e f g=>Z29 N a b h c d e f g kn kr):Option J)
def Z26 N a b c d e f g kn kr:=(Z27 N a b c d e f g kn kr:Option J)
def Z32{J:Type}(N:Nat)(a:LM)(b c d e f:Int)(g:LI)(kn:LM->I5 (LI->Option J)):Option J :=
 kn a (ac (b+1)) c d e f g
def Z25 N a b c d e f g kn kr:=(Z26 N a b c d e f g (λa b c d e f g=>Z32 N a b c d e f g kn) kr:Option J)
def Z23 N a b c d e f g kn k2 kr:=(Z24 N a b c d e f g (λa b c d e f g=>Z25 N a b c d e f g kn kr) k2:Option J)
def Z22L{J:Type}(N:Nat)(k2:LM->I2 (Option J))(kr:LM->Bool->Option J):Nat->LM->Int->Int->Int->Int->Int->LI->Option J
 |0,_,_,_,_,_,_,_=>none
 |M+1,a,b,c,d,e,f,g=>Z23 N a b c d e f g (λa b c d e f g=>Z22L N k2 kr M a b c d e f g) k2 kr
def Z22 N a b c d e f g k2 kr:=(Z22L N k2 kr N a b c d e f g:Option J)
def Z21 N a b c d e f g kn kr:=(Z22 N a b c d e f g kn kr:Option J)
def Z19 N a b c d e f kn kr:=(Z20 N a b c d e f (λa g b c d e f=>Z21 N a g b c d e f kn kr):Option J)
def Z17 N a b c kn kr:=(Z18 N a b c (λa b c d e f=>Z19 N a b c d e f kn kr):Option J)
def Z16 N a b c kn kr:=(Z17 N a b c kn kr:Option J)
def Z33{J:Type}(N:Nat)(a:LM)(b c:Int)(kn:LM->I2 (Option J)):Option J :=
 kn a b (ac (c+1))
def Z15 N a b c kn kr:=(Z16 N a b c (λa b c=>Z33 N a b c kn) kr:Option J)
def Z13 N a b c d kn k0 kr:=(Z14 N a b c d (λa b c=>Z15 N a b c kn kr) k0:Option J)
def Z11 N a b c kn k0 kr:=(Z12 N a b c (λa b c d=>Z13 N a b c d kn k0 kr):Option J)
def Z10L{J:Type}(N:Nat)(k0:LM->Option J)(kr:LM->Bool->Option J):Nat->LM->Int->Int->Option J
 |0,_,_,_=>none
 |M+1,a,b,c=>Z11 N a b c (λa b c=>Z10L N k0 kr M a b c) k0 kr
def Z10 N a b c k0 kr:=(Z10L N k0 kr N a b c:Option J)
def Z9 N a b c kn kr:=(Z10 N a b c kn kr:Option J)
def Z7 N a kn kr:=(Z8 N a (λa b c=>Z9 N a b c kn kr):Option J)
def Z34{J:Type}(N:Nat)(a:LM)(kr:LM->Bool->Option J):Option J :=
 kr a true
def Z6 N a kr:=(Z7 N a (λa=>Z34 N a kr) kr:Option J)
def Z4 N a b kr:=(Z5 N a b (λa=>Z6 N a kr) kr:Option J)
def Z2 N a b c kr:=(Z3 N a b c (λd e=>Z4 N d e kr):Option J)
def Z0 N a kr:=(Z1 N a (λb c d=>Z2 N b c d kr):Option J)
def Spec:Prop:=∀ (v0:MT),Ty.bd (.pair (.int .i64) (.pair (.int .i64) (.sl 0 (.int .i64)))) v0->∃N0,∀N,N0<=N->Z0 N v0 (λv2 v3=>some ((),(v2,(v3,()))))=some ((),((g v0).1,((g v0).2,())))
section
variable {J : Type} {N : Nat} {l : List (Int × Int × List Int)} {t0 t1 : Int}
theorem inner{n:Int}{m:Int×Int×List Int}(hf:bD n m){k4:List (Int×Int×List Int)->Int->Int->Int->Int->Int->List Int->Option J}{kr:List (Int×Int×List Int)->Bool->Option J}{i:Nat}(hi:i<m.1.toNat) :
  ∀(M r j:Nat),j+r=m.1.toNat->r<M->Z30L N k4 kr M l (i:Int) (j:Int) t0 t1 m.1 m.2.1 m.2.2=cond ((List.range' j r).all λj=>!decide (dL m i j < -3)) (k4 l (i:Int) t0 t1 m.1 m.2.1 m.2.2) (kr [] false):=by
 have hd:=hf.dim;obtain⟨q,rr,hn,hr',hn1,hn5,hnr,hr8,hl⟩:=aU hd;intro M;induction M with
 |zero=>intro r j _ h;omega
 |succ M ih =>
  intro r j hj hM;simp only[Z30L,Z31];cases r with
  |zero=>rw[cf (df (by omega))];rfl
  |succ r =>
   have p1:b9.P (m.1,(m.2.1,m.2.2)) (i:Int) (j:Int)=true:=iU hd (by omega) (by omega);have p2:b9.P (m.1,(m.2.1,m.2.2)) (j:Int) (i:Int)=true:=iU hd (by omega) (by omega);have g1:b9.g (m.1,(m.2.1,m.2.2)) (i:Int) (j:Int)=af m i j:=iS (by omega) i j;have g2:b9.g (m.1,(m.2.1,m.2.2)) (j:Int) (i:Int)=af m j i:=iS (by omega) j i;have hb:=OD hf i j;have hw:ac (af m i j*af m j i)=dL m i j:=aR (by unfold dL at hb;omega) (by unfold dL at hb;omega);rw[ct (dt (by omega)),ct p1,ct p2,g1,g2,hw,a8 (by rw[bn];omega),List.range'_succ,List.all_cons];by_cases h:dL m i j < -3;·rw[ct (dt h),dt h];rfl
   ·rw[cf (df h),df h,ih r (j+1) (by omega) (by omega)];rfl
theorem outer{n:Int}{m:Int×Int×List Int}(hf:bD n m)(hN:200<=N){k2:List (Int×Int×List Int)->Int->Int->Option J}{kr:List (Int×Int×List Int)->Bool->Option J} :
  ∀(M r i:Nat),i+r=m.1.toNat->r<M->Z22L N k2 kr M l (i:Int) t0 t1 m.1 m.2.1 m.2.2=cond ((List.range' i r).all λi=>(List.range' 0 m.1.toNat).all λj=>!decide (dL m i j < -3)) (k2 l t0 t1) (kr [] false):=by
 obtain⟨q,rr,hn,hr',hn1,hn5,hnr,hr8,hl⟩:=aU hf.dim;intro M;induction M with
 |zero=>intro r i _ h;omega
 |succ M ih =>
  intro r i hi hM;simp only[Z22L,Z23,Z24];cases r with
  |zero=>rw[cf (df (by omega))];rfl
  |succ r =>
   rw[ct (dt (by omega))];simp only[Z25,Z26,Z27,Z28,Z29,Z30];refine(inner hf (by omega) N m.1.toNat 0 (by omega) (by omega)).trans ?_;rw[List.range'_succ,List.all_cons];cases(List.range' 0 m.1.toNat).all λj=>!decide (dL m i j < -3);·rfl
   ·simp only[cond_true,Z32,Bool.true_and];rw[a8 (by rw[bn];omega)];exact ih r (i+1) (by omega) (by omega)
theorem loop{n:Int}(hN:200<=N){k0:List (Int×Int×List Int)->Option J}{kr:List (Int×Int×List Int)->Bool->Option J}(hl:d6 n l)(hlen:l.length<=100) :
  ∀(M r i:Nat),i+r=l.length->r<M->Z10L N k0 kr M l (l.length:Int) (i:Int)=cond ((l.drop i).all gG) (k0 l) (kr [] false):=by
 intro M;induction M with
 |zero=>intro r i _ h;omega
 |succ M ih =>
  intro r i hi hM;simp only[Z10L,Z11,Z12,Z13,Z14,aD];cases r with
  |zero=>rw[fV (df (by omega)),List.drop_of_length_le (by omega)];rfl
  |succ r =>
   have hf:=rI hl (a:=i) (by omega);obtain⟨b1,b2,_⟩:=hf.bound;have h1:=hf.2.1;rw[gn (dt (by omega))];simp only[Z15,Z16,Z17,Z18];rw[ct (aN (by omega)),Int.toNat_natCast];simp only[Z19,Z20,Z21,Z22];refine(outer hf hN N (l.getD i z3).1.toNat 0 (by omega) (by omega)).trans ?_;rw[fb z3 (by omega:i<l.length),List.all_cons];show cond (gG (l.getD i z3)) _ _=_;cases gG (l.getD i z3);·rfl
   ·simp only[cond_true,Z33,Bool.true_and];rw[a8 (by rw[bn];omega)];exact ih r (i+1) (by omega) (by omega)
end
def ok:Spec:=λm hb=>⟨200,λN hN=>by
 simp only[Z0,Z1,Z2,Z3,aD];have e0:((m.1,(m.2.1,m.2.2)):Int×Int×List Int)=m:=rfl;have e1:cu.g (jR.g m)=fk (gu m):=by unfold jR.g gu;rw[kc];rfl
 rw[e0,e1];simp only[Z4,Z5,g];unfold ef;cases h2:(fk (gu m)).2;·rfl
 ·obtain⟨_,f1,f2,f3⟩:=EF h2;simp only[Bool.not_true,cond_false,Z6,Z7,Z8,Z9,Z10];refine(loop hN f1 f3 N (fk (gu m)).1.length 0 (by omega) (by omega)).trans ?_;simp only[List.drop_zero,Z34,Bool.true_and];cases(fk (gu m)).1.all gG<;>rfl⟩
end bS
namespace cG
def P(m:Int×Int×List Int)(i:Int):Bool:=aO m&&(decide (0<=i)&&decide (i<m.1))
def g(m:Int×Int×List Int)(i:Int):List Int:=an (bq m i.toNat)
def Z1{J:Type}(N:Nat)(a:MT)(b:Int)(kn:I3 (LI->Option J)):Option J :=
 kn b a.1 a.2.1 a.2.2
def Z3{J:Type}(N:Nat)(a b c:Int)(d:LI)(kn:I3 (LI->Option J)):Option J :=
 kn a b c d
def Z6{J:Type}(N:Nat)(a b c:Int)(d:LI)(kn:I4 (LI->Option J)):Option J :=
 kn a 0 b c d
def Z9{J:Type}(N:Nat)(c:LI)(d a b e:Int)(f:LI)(kn:LI->I4 (LI->Option J))(k0:LI->Option J):Option J :=
 cond (lk N (decide (a<b)))
 (
  cond (lk N (b9.P (b,(e,f)) d a)) (
   cond (lk N (!(decide ((b9.g (b,(e,f)) d a)=0))))
   (
    cond (lk N (Nat.blt (c.length+([a]:List Int).length) 1099511627776)) (
     kn (c++([a]:List Int)) d (ac (a+1)) b e f) none)
   (
    kn c d (ac (a+1)) b e f)) none)
 (
  k0 c)
def Z8L{J:Type}(N:Nat)(k0:LI->Option J):Nat->LI->Int->Int->Int->Int->LI->Option J
 |0,_,_,_,_,_,_=>none
 |M+1,a,b,c,d,e,f=>Z9 N a b c d e f (λa b c d e f=>Z8L N k0 M a b c d e f) k0
def Z8 N a b c d e k0:=(Z8L N k0 N ([]:List Int) a b c d e:Option J)
def Z7 N a b c d e kn:=(Z8 N a b c d e kn:Option J)
def Z5 N a b c d kn:=(Z6 N a b c d (λa e b c d=>Z7 N a e b c d kn):Option J)
def Z10{J:Type}(N:Nat)(a:LI)(kr:LI->Option J):Option J :=
 kr a
def Z4 N a b c d kr:=(Z5 N a b c d (λe=>Z10 N e kr):Option J)
def Z2 N a b c d kr:=(Z3 N a b c d (λa b c d=>Z4 N a b c d kr):Option J)
def Z0 N b a kr:=(Z1 N b a (λa c d e=>Z2 N a c d e kr):Option J)
def Spec:Prop:=∀ (v0:MT) (v1:Int),Ty.bd (.pair (.int .i64) (.pair (.int .i64) (.sl 0 (.int .i64)))) v0->P v0 v1=true->∃N0,∀N,N0<=N->Z0 N v0 v1 (λv4=>some ((),(v4,())))=some ((),((g v0 v1),()))
def loop{J:Type}{N:Nat}{m:Int×Int×List Int}(hd:aO m=true)(k0:List Int->Option J){i:Nat}(hi:i<m.1.toNat):∀(M r j:Nat) (c:List Nat),j+r=m.1.toNat->c.length<=j->r<M ->
  Z8L N k0 M (an c) (i:Int) (j:Int) m.1 m.2.1 m.2.2=k0 (an (c++((List.range' j r).filter λj=>!decide (af m i j=0)))):=by
 obtain⟨n,rr,hn,hr',hn1,hn5,hnr,hr8,hl⟩:=aU hd;intro M;induction M with
 |zero=>intro r j c _ _ h;omega
 |succ M ih =>
  intro r j c hj hc hM;simp only[Z8L,Z9];cases r with
  |zero=>rw[cf (df (by omega)),List.range'_zero,List.filter_nil,List.append_nil]
  |succ r =>
   have p1:b9.P (m.1,(m.2.1,m.2.2)) (i:Int) (j:Int)=true:=iU hd (by omega) (by omega);have g1:b9.g (m.1,(m.2.1,m.2.2)) (i:Int) (j:Int)=af m i j:=iS (by omega) i j;have b1:Nat.blt ((an c).length+([(j:Int)]:List Int).length) 1099511627776=true:=by simp[bv,Nat.blt_eq];omega
   rw[ct (dt (by omega)),ct p1,g1,List.range'_succ,List.filter_cons,a8 (j:=j) (by rw[bn];omega)];by_cases h:af m i j=0;·rw[cf (nf h),if_neg (by simp[h])];exact ih r (j+1) c (by omega) (by omega) (by omega)
   ·rw[ct (nt h),if_pos (by simp[h]),ct b1,ru,ih r (j+1) (c++[j]) (by omega) (by simp;omega) (by omega),List.append_assoc];rfl
def ok:Spec:=λm i hb hp=>⟨10,λN hN=>by simp only[P,Bool.and_eq_true,decide_eq_true_eq]at hp;obtain⟨hd,h0,h1⟩:=hp;obtain⟨x,rfl⟩:=Int.eq_ofNat_of_zero_le h0;obtain⟨n,r,hn,hr,hn1,hn5,hnr,hr8,hl⟩:=aU hd;simp only[Z1,Z3,Z6,Z9,Z8,Z7,Z5,Z10,Z4,Z2,Z0];refine(loop hd _ (by omega) N m.1.toNat 0 [] (by omega) (by simp) (by omega)).trans ?_;rw[List.nil_append,<-List.range_eq_range'];rfl⟩
end cG
namespace bw
def P(m:Int×Int×List Int):Bool:=aP m
def g(m:Int×Int×List Int):List (List Int)×Bool:=if gZ m=true then((eI m).map an,true)else([],false)
def Z1{J:Type}(N:Nat)(a:MT)(kn:I2 (LI->Option J)):Option J :=
 kn a.1 a.2.1 a.2.2
def Z3{J:Type}(N:Nat)(a b:Int)(c:LI)(kn:I2 (LI->Option J)):Option J :=
 kn a b c
def Z5{J:Type}(N:Nat)(a b:Int)(c:LI)(kn:List Bool->I2 (LI->Option J)):Option J :=
 cond (lk N (bN 0 a&&decide (a<1099511627776))) (
  kn (List.replicate a.toNat (false:Bool)) a b c) none
def Z8{J:Type}(N:Nat)(a:List Bool)(b c:Int)(d:LI)(kn:List Bool->I4 (LI->Option J)):Option J :=
 kn a (a.length:Int) 0 b c d
def Z12{J:Type}(N:Nat)(c:LL)(d:List Bool)(a b e f:Int)(g:LI)(kn:LL->List Bool->I2 (Bool->I2 (LI->Option J))):Option J :=
 kn c d a b (lk N (decide (b<a))) e f g
def Z14{J:Type}(N:Nat)(a:LL)(b:List Bool)(c d:Int)(e:Bool)(f g:Int)(h:LI)(kn:LL->List Bool->I4 (LI->Option J))(k0:LL->Option J):Option J :=
 cond (e)
 (
  kn a b c d f g h)
 (
  k0 a)
def Z18{J:Type}(N:Nat)(b:LL)(c:List Bool)(d a e f:Int)(g:LI)(kn:LL->List Bool->I5 (LI->Option J)):Option J :=
 kn b c a d a e f g
def Z20{J:Type}(N:Nat)(c:LL)(a:List Bool)(b d e f g:Int)(h:LI)(kn:LL->List Bool->I5 (LI->Option J))(k1:LL->List Bool->I4 (LI->Option J)):Option J :=
 cond (lk N (ax b a.length)) (
  cond ((a.getD b.toNat false))
  (
   k1 c a d e f g h)
  (
   kn c a b d e f g h)) none
def Z22{J:Type}(N:Nat)(c:LL)(b:List Bool)(a d e f g:Int)(h:LI)(kn:LL->List Bool->I5 (LI->Option J)):Option J :=
 cond (lk N (ax a b.length)) (
  kn c (b.set a.toNat true) a d e f g h) none
def Z24{J:Type}(N:Nat)(a:LL)(b:List Bool)(c d e f g:Int)(h:LI)(kn:LL->List Bool->LI->I4 (LI->Option J)):Option J :=
 kn a b ([c]:List Int) d e f g h
def Z26{J:Type}(N:Nat)(a:LL)(b:List Bool)(c:LI)(d e f g:Int)(h:LI)(kn:LL->List Bool->LI->I5 (LI->Option J)):Option J :=
 kn a b c 0 d e f g h
def Z29{J:Type}(N:Nat)(a:LL)(b:List Bool)(c:LI)(d e f g h:Int)(i:LI)(kn:LL->List Bool->LI->I6 (LI->Option J)):Option J :=
 kn a b c d 0 e f g h i
def Z33{J:Type}(N:Nat)(b:LL)(c:List Bool)(a:LI)(d e f g h i:Int)(j:LI)(kn:LL->List Bool->LI->I6 (LI->Option J))(k2:LL->List Bool->LI->I5 (LI->Option J)):Option J :=
 cond (lk N (decide (e<(a.length:Int))))
 (
  kn b c a d e f g h i j)
 (
  k2 b c a d f g h i j)
def Z37{J:Type}(N:Nat)(f:LL)(h:List Bool)(a:LI)(i b j l c d:Int)(e:LI)(kn:LL->List Bool->LI->LI->I8 (LI->Option J)):Option J :=
 cond (lk N (ax b a.length)) (
  cond (lk N (cG.P (c,(d,e)) (a.getD b.toNat 0))) (
   kn f h a (cG.g (c,(d,e)) (a.getD b.toNat 0)) i b j l ((cG.g (c,(d,e)) (a.getD b.toNat 0)).length:Int) 0 c d e) none) none
def Z40{J:Type}(N:Nat)(e:LL)(c:List Bool)(d b:LI)(f g h i j a l m:Int)(o:LI)(kn:LL->List Bool->LI->LI->I8 (LI->Option J))(k4:LL->List Bool->LI->I6 (LI->Option J)):Option J :=
 cond (lk N (decide (a<j)))
 (
  cond (lk N (ax a b.length)) (
   cond (lk N (ax (b.getD a.toNat 0) c.length)) (
    cond (!((c.getD (b.getD a.toNat 0).toNat false)))
    (
     cond (lk N (ax (b.getD a.toNat 0) c.length)) (
      cond (lk N (Nat.blt (d.length+([(b.getD a.toNat 0)]:List Int).length) 1099511627776)) (
       kn e (c.set (b.getD a.toNat 0).toNat true) (d++([(b.getD a.toNat 0)]:List Int)) b (ac (f+1)) g h i j (ac (a+1)) l m o) none) none)
    (
     kn e c d b (ac (f+1)) g h i j (ac (a+1)) l m o)) none) none)
 (
  k4 e c d f g h i l m o)
def Z39L{J:Type}(N:Nat)(k4:LL->List Bool->LI->I6 (LI->Option J)):Nat->LL->List Bool->LI->LI->Int->Int->Int->Int->Int->Int->Int->Int->LI->Option J
 |0,_,_,_,_,_,_,_,_,_,_,_,_,_=>none
 |M+1,a,b,c,d,e,f,g,h,i,j,l,m,o=>Z40 N a b c d e f g h i j l m o (λa b c d e f g h i j l m o=>Z39L N k4 M a b c d e f g h i j l m o) k4
def Z39 N a b c d e f g h i j l m o k4:=(Z39L N k4 N a b c d e f g h i j l m o:Option J)
def Z38 N a b c d e f g h i j l m o kn:=(Z39 N a b c d e f g h i j l m o kn:Option J)
def Z36 N a b c d e f g h i j kn:=(Z37 N a b c d e f g h i j (λa b c l d e f g m o h i j=>Z38 N a b c l d e f g m o h i j kn):Option J)
def Z35 N a b c d e f g h i j kn:=(Z36 N a b c d e f g h i j kn:Option J)
def Z41{J:Type}(N:Nat)(a:LL)(b:List Bool)(c:LI)(d e f g h i:Int)(j:LI)(kn:LL->List Bool->LI->I6 (LI->Option J)):Option J :=
 kn a b c d (ac (e+1)) f g h i j
def Z34 N a b c d e f g h i j kn:=(Z35 N a b c d e f g h i j (λa b c d e f g h i j=>Z41 N a b c d e f g h i j kn):Option J)
def Z32 N a b c d e f g h i j kn k2:=(Z33 N a b c d e f g h i j (λa b c d e f g h i j=>Z34 N a b c d e f g h i j kn) k2:Option J)
def Z31L{J:Type}(N:Nat)(k2:LL->List Bool->LI->I5 (LI->Option J)):Nat->LL->List Bool->LI->Int->Int->Int->Int->Int->Int->LI->Option J
 |0,_,_,_,_,_,_,_,_,_,_=>none
 |M+1,a,b,c,d,e,f,g,h,i,j=>Z32 N a b c d e f g h i j (λa b c d e f g h i j=>Z31L N k2 M a b c d e f g h i j) k2
def Z31 N a b c d e f g h i j k2:=(Z31L N k2 N a b c d e f g h i j:Option J)
def Z30 N a b c d e f g h i j kn:=(Z31 N a b c d e f g h i j kn:Option J)
def Z28 N a b c d e f g h i kn:=(Z29 N a b c d e f g h i (λa b c d j e f g h i=>Z30 N a b c d j e f g h i kn):Option J)
def Z42{J:Type}(N:Nat)(b:LL)(c:List Bool)(a:LI)(d e f g h:Int)(i:LI)(kn:LL->List Bool->I4 (LI->Option J))(kr:LL->Bool->Option J):Option J :=
 cond (lk N (true)) (
  cond (lk N (!(decide ((ac (Int.tdiv d 2))=(ac ((a.length:Int)-1))))))
  (
   kr ([]:List (LI)) false)
  (
   cond (lk N (Nat.blt (b.length+([a]:List (LI)).length) 1099511627776)) (
    kn (b++([a]:List (LI))) c e f g h i) none)) none
def Z27 N a b c d e f g h i kn kr:=(Z28 N a b c d e f g h i (λa b c d e f g h i=>Z42 N a b c d e f g h i kn kr):Option J)
def Z25 N a b c d e f g h kn kr:=(Z26 N a b c d e f g h (λa b c i d e f g h=>Z27 N a b c i d e f g h kn kr):Option J)
def Z23 N a b h c d e f g kn kr:=(Z24 N a b h c d e f g (λa b i c d e f g=>Z25 N a b i c d e f g kn kr):Option J)
def Z21 N a b c d e f g h kn kr:=(Z22 N a b c d e f g h (λa b c d e f g h=>Z23 N a b c d e f g h kn kr):Option J)
def Z19 N a b c d e f g h kn k1 kr:=(Z20 N a b c d e f g h (λa b c d e f g h=>Z21 N a b c d e f g h kn kr) k1:Option J)
def Z17 N a b c d e f g kn k1 kr:=(Z18 N a b c d e f g (λa b h c d e f g=>Z19 N a b h c d e f g kn k1 kr):Option J)
def Z16 N a b c d e f g kn kr:=(Z17 N a b c d e f g kn kn kr:Option J)
def Z43{J:Type}(N:Nat)(a:LL)(b:List Bool)(c d e f:Int)(g:LI)(kn:LL->List Bool->I4 (LI->Option J)):Option J :=
 kn a b c (ac (d+1)) e f g
def Z15 N a b c d e f g kn kr:=(Z16 N a b c d e f g (λa b c d e f g=>Z43 N a b c d e f g kn) kr:Option J)
def Z13 N a b c d h e f g kn k0 kr:=(Z14 N a b c d h e f g (λa b c d e f g=>Z15 N a b c d e f g kn kr) k0:Option J)
def Z11 N a b c d e f g kn k0 kr:=(Z12 N a b c d e f g (λa b c d h e f g=>Z13 N a b c d h e f g kn k0 kr):Option J)
def Z10L{J:Type}(N:Nat)(k0:LL->Option J)(kr:LL->Bool->Option J):Nat->LL->List Bool->Int->Int->Int->Int->LI->Option J
 |0,_,_,_,_,_,_,_=>none
 |M+1,a,b,c,d,e,f,g=>Z11 N a b c d e f g (λa b c d e f g=>Z10L N k0 kr M a b c d e f g) k0 kr
def Z10 N a b c d e f k0 kr:=(Z10L N k0 kr N ([]:List (LI)) a b c d e f:Option J)
def Z9 N a b c d e f kn kr:=(Z10 N a b c d e f kn kr:Option J)
def Z7 N a b c d kn kr:=(Z8 N a b c d (λa e f b c d=>Z9 N a e f b c d kn kr):Option J)
def Z44{J:Type}(N:Nat)(a:LL)(kr:LL->Bool->Option J):Option J :=
 kr a true
def Z6 N a b c d kr:=(Z7 N a b c d (λe=>Z44 N e kr) kr:Option J)
def Z4 N a b c kr:=(Z5 N a b c (λd a b c=>Z6 N d a b c kr):Option J)
def Z2 N a b c kr:=(Z3 N a b c (λa b c=>Z4 N a b c kr):Option J)
def Z0 N a kr:=(Z1 N a (λb c d=>Z2 N b c d kr):Option J)
def Spec:Prop:=∀ (v0:MT),Ty.bd (.pair (.int .i64) (.pair (.int .i64) (.sl 0 (.int .i64)))) v0->P v0=true->∃N0,∀N,N0<=N->Z0 N v0 (λv2 v3=>some ((),(v2,(v3,()))))=some ((),((g v0).1,((g v0).2,())))
section
variable {J : Type} {N : Nat} {m : Int × Int × List Int} (hs : aP m = true)
include hs
theorem inner(k4:List (List Int)->List Bool->List Int->Int->Int->Int->Int->Int->Int->List Int->Option J)(out:List (List Int))(F nb:List Nat)(hnb:∀y∈nb,y<m.1.toNat/\y∉F)(h5:nb.length<=5)(at9 t16 t17:Int) :
  ∀(M j:Nat) (p:List Nat) (c:Nat),j<=nb.length->nb.length-j<M->p.Nodup->(∀x∈p,x<m.1.toNat)->c<=1000+j ->
  Z39L N k4 M out (f9 m.1.toNat (F++p)) (an p) (an nb) (c:Int) at9 t16 t17 ((an nb).length:Int) (j:Int) m.1 m.2.1 m.2.2 =
   k4 out (f9 m.1.toNat (F++(nb.drop j).foldl fL p)) (an ((nb.drop j).foldl fL p)) ((c+(nb.length-j):Nat):Int) at9 t16 t17 m.1 m.2.1 m.2.2:=by
 obtain⟨n,rr,hn,hr',hn1,hn5,hnr,hr8,hl⟩:=aU (cI (cX hs));intro M;induction M with
 |zero=>intro j p c _ h;omega
 |succ M ih =>
  intro j p c hj hM hnd hlt hc;simp only[Z39L,Z40];by_cases hjl:j<nb.length
  ·obtain⟨hy,hyF⟩:=hnb _ (bz (l:=nb) (j:=j) 0 hjl);have hpl:=oP _ p hnd hlt;have b1:Nat.blt ((an p).length+([((nb.getD j 0:Nat):Int)]:List Int).length) 1099511627776=true:=by simp[bv,Nat.blt_eq];omega
   have hin:ax ((nb.getD j 0:Nat):Int) (f9 m.1.toNat (F++p)).length=true:=aN (by rw[uy];exact hy);have hget:(f9 m.1.toNat (F++p)).getD (nb.getD j 0) false=decide (nb.getD j 0∈p):=by rw[EV hy,decide_eq_decide,List.mem_append];exact⟨λh=>h.resolve_left hyF,.inr⟩
   rw[ct (dt (by rw[bv];omega)),ct (aN (by rw[bv];exact hjl))];simp only[Int.toNat_natCast,fc];rw[ct hin,hget,fb 0 hjl,List.foldl_cons,a8 (j:=j) (by rw[bn];omega),a8 (j:=c) (by rw[bn];omega)];by_cases h:nb.getD j 0∈p;·have e:fL p (nb.getD j 0)=p:=if_pos h;rw[decide_eq_true h,e];refine(ih (j+1) p (c+1) (by omega) (by omega) hnd hlt (by omega)).trans ?_;congr 2;omega
   ·have e:fL p (nb.getD j 0)=p++[nb.getD j 0]:=if_neg h;rw[decide_eq_false h,e,Bool.not_false,cond_true,ct hin,ct b1,EW hy,List.append_assoc,ru];refine(ih (j+1) (p++[nb.getD j 0]) (c+1) (by omega) (by omega) ?_ ?_ (by omega)).trans ?_;·exact List.nodup_append.2 ⟨hnd,by simp,λa ha b hb e=>by rw[List.mem_singleton]at hb;subst hb;subst e;exact h ha⟩
    ·intro x hx;rcases List.mem_append.1 hx with hx|hx;·exact hlt x hx
     ·rw[List.mem_singleton.1 hx];exact hy
    ·congr 2;omega
  ·have e:nb.length-j=0:=by omega
   rw[cf (df (by rw[bv];omega)),List.drop_of_length_le (by omega),e];rfl
theorem mid(hN:20<=N)(k2:List (List Int)->List Bool->List Int->Int->Int->Int->Int->Int->List Int->Option J)(out:List (List Int))(F:List Nat)(hF:pg m F)(t16 t17:Int) :
  ∀(M f a:Nat) (p:List Nat),f+a=m.1.toNat->m.1.toNat-a<M->p.Nodup->(∀x∈p,x<m.1.toNat/\x∉F)->a<=p.length ->
  Z31L N k2 M out (f9 m.1.toNat (F++p)) (an p) ((((p.take a).map λx=>(bq m x).length).sum:Nat):Int) (a:Int) t16 t17 m.1 m.2.1 m.2.2 =
   k2 out (f9 m.1.toNat (F++jd m f a p)) (an (jd m f a p)) ((((jd m f a p).map λx=>(bq m x).length).sum:Nat):Int) t16 t17 m.1 m.2.1 m.2.2:=by
 obtain⟨n,rr,hn,hr',hn1,hn5,hnr,hr8,hl⟩:=aU (cI (cX hs));intro M;induction M with
 |zero=>intro f a p _ h;omega
 |succ M ih =>
  intro f a p hf hM hnd hp ha;have hpl:=oP _ p hnd (λx hx=>(hp x hx).1);simp only[Z31L,Z32,Z33];by_cases h:a<p.length
  ·rw[ct (dt (by rw[bv];omega))];simp only[Z34,Z35,Z36,Z37,Z38,Z39,Z41];obtain⟨hu,huF⟩:=hp _ (bz (l:=p) (j:=a) 0 h);have pj:cG.P (m.1,(m.2.1,m.2.2)) ((p.getD a 0:Nat):Int)=true:=by show(aO m&&_)=true;rw[cI (cX hs),dt (show(0:Int)<=((p.getD a 0:Nat):Int) by omega),dt (show((p.getD a 0:Nat):Int)<m.1 by omega)];rfl
   have gj:cG.g (m.1,(m.2.1,m.2.2)) ((p.getD a 0:Nat):Int)=an (bq m (p.getD a 0)):=rfl;have hnl:=rP m (p.getD a 0);have hnb:∀y∈bq m (p.getD a 0),y<m.1.toNat/\y∉F:=λy hy=>by obtain⟨h1,h2⟩:=EM.1 hy;exact⟨h1,λhc=>huF ((hF y hc).2 _ hu (λe=>h2 ((EN hs _ _ hu h1).2 e)))⟩
   have hsum:((p.take a).map λx=>(bq m x).length).sum<=5*a:=by
    have:∀l:List Nat,(l.map λx=>(bq m x).length).sum<=5*l.length:=by
     intro l;induction l with
     |nil=>simp
     |cons x l ihl =>have:=rP m x;rw[List.map_cons,List.sum_cons,List.length_cons];omega
    have:=this (p.take a);rw[List.length_take]at this;omega
   rw[ct (aN (by rw[bv];exact h)),Int.toNat_natCast,fc,ct pj,gj];refine(inner hs _ out F _ hnb (by omega) _ _ _ N 0 p _ (by omega) (by omega) hnd (λx hx=>(hp x hx).1) (by omega)).trans ?_;rw[List.drop_zero,Nat.sub_zero,a8 (by rw[bn];omega)];obtain⟨t,ht⟩:=ER (bq m (p.getD a 0)) p;have e1:((p.take a).map λx=>(bq m x).length).sum+(bq m (p.getD a 0)).length=((((bq m (p.getD a 0)).foldl fL p).take (a+1)).map λx=>(bq m x).length).sum:=by
    have hap:a+1<=p.length:=h;have eta:((bq m (p.getD a 0)).foldl fL p).take (a+1)=p.take a++[p.getD a 0]:=by rw[ht,List.take_append_of_le_length hap,<-rc 0 h]
    rw[eta,List.map_append,List.sum_append];simp
   rw[e1];cases f with
   |zero=>omega
   |succ f =>
    have e2:jd m (f+1) a p=jd m f (a+1) ((bq m (p.getD a 0)).foldl fL p):=by rw[jd,if_pos h]
    rw[e2];refine ih f (a+1) _ (by omega) (by omega) (ET _ hnd) (λx hx=>?_) (by rw[ht];simp;omega);rcases ES _ _ hx with h|h;·exact hp x h
    ·exact hnb x h
  ·have e:jd m f a p=p:=by
    cases f with
    |zero=>rfl
    |succ f=>rw[jd,if_neg h]
   rw[cf (df (by rw[bv];omega)),e,List.take_of_length_le (by omega)]
theorem outer(hN:20<=N)(k0:List (List Int)->Option J)(kr:List (List Int)->Bool->Option J) :
  ∀(M r k:Nat) (out:List (List Nat)),k+r=m.1.toNat->r<M->g0 m k out->out.all (pf m)=true ->
  Z10L N k0 kr M (out.map an) (f9 m.1.toNat out.flatten) (m.1.toNat:Int) (k:Int) m.1 m.2.1 m.2.2 =
   if(iZ m (List.range' k r) out).all (pf m)=true then k0 ((iZ m (List.range' k r) out).map an)else kr [] false:=by
 obtain⟨n,rr,hn,hr',hn1,hn5,hnr,hr8,hl⟩:=aU (cI (cX hs));intro M;induction M with
 |zero=>intro r k out _ h;omega
 |succ M ih =>
  intro r k out hk hM hC hT;simp only[Z10L,Z11,Z12,Z13,Z14];cases r with
  |zero =>rw[fV (by rw[aD];exact df (by omega))];exact(if_pos (show(iZ m (List.range' k 0) out).all (pf m)=true from hT)).symm
  |succ r =>
   rw[gn (by rw[aD];exact dt (by omega))];simp only[Z15,Z16,Z17,Z18,Z19,Z20];rw[List.range'_succ,iZ,ct (aN (by rw[uy];omega)),Int.toNat_natCast,EV (by omega)];by_cases hin:k∈out.flatten;·rw[decide_eq_true hin,if_pos hin,cond_true];simp only[Z43];rw[a8 (by rw[bn];omega)];exact ih r (k+1) out (by omega) (by omega) hC.up hT
   ·rw[decide_eq_false hin,if_neg hin,cond_false];simp only[Z21,Z22,Z23,Z24,Z25,Z26,Z27,Z28,Z29,Z30,Z31,Z42,Z43];rw[ct (aN (by rw[uy];omega)),Int.toNat_natCast,EW (by omega)];have hm:=mid hs hN (λout4 seen5 piece7 pairs8 t16 t17 m1_0 m1_1 m1_2=>cond (lk N true) (cond (lk N (!(decide ((ac (Int.tdiv pairs8 2))=(ac ((piece7.length:Int)-1)))))) (kr ([]:List (List Int)) false)
     (cond (lk N (Nat.blt (out4.length+([piece7]:List (List Int)).length) 1099511627776)) (Z10L N k0 kr M (out4++([piece7]:List (List Int))) seen5 t16 (ac (t17+1)) m1_0 m1_1 m1_2) none)) none)
     (out.map an) out.flatten hC.shut (m.1.toNat:Int) (k:Int) N m.1.toNat 0 [k] (by omega) (by omega) (by simp) (λx hx=>by rw[List.mem_singleton.1 hx];exact⟨by omega,hin⟩) (by simp)
    refine Eq.trans (by exact hm) ?_;rw[<-OM];have hkn:k<m.1.toNat:=by omega
    have hsh:=zw hkn;obtain⟨hI,_⟩:=ud hkn;have hsum:=OQ hs hI.nd hsh;have hple:=hI.le;have hpos:=hI.pos;have hol:=hC.len;rw[aD,cond_true,hsum,bv];have hE:kO (af m) (cP m k).1<=100:=by
     have:∀l:List Nat,(l.map λx=>(bq m x).length).sum<=5*l.length:=by
      intro l;induction l with
      |nil=>simp
      |cons x l ihl =>have:=rP m x;rw[List.map_cons,List.sum_cons,List.length_cons];omega
     have:=this (cP m k).1;omega
    have e1:ac (Int.tdiv ((2*kO (af m) (cP m k).1:Nat):Int) 2)=((kO (af m) (cP m k).1:Nat):Int):=by
     have:Int.tdiv ((2*kO (af m) (cP m k).1:Nat):Int) 2=((kO (af m) (cP m k).1:Nat):Int):=by rw[Int.tdiv_eq_ediv_of_nonneg (by omega)];omega
     rw[this];exact aR (by omega) (by omega)
    have e2:ac (((cP m k).1.length:Int)-1)=((cP m k).1.length:Int)-1:=aR (by omega) (by omega);rw[e1,e2];obtain⟨t,ht⟩:=zx (m:=m) (List.range' (k+1) r) (out++[(cP m k).1]);by_cases hE2:kO (af m) (cP m k).1+1=(cP m k).1.length
    ·have hb:Nat.blt ((out.map an).length+([an (cP m k).1]:List (List Int)).length) 1099511627776=true:=by simp[Nat.blt_eq];omega
     rw[cf (show(!decide _)=false by rw[dt (by omega)];rfl),ct hb,a8 (by rw[bn];omega)];have e3:out.map an++[an (cP m k).1]=(out++[(cP m k).1]).map an:=by simp
     have e4:out.flatten++(cP m k).1=(out++[(cP m k).1]).flatten:=by simp
     rw[e3,e4];exact ih r (k+1) _ (by omega) (by omega) (hC.step hkn) (by rw[List.all_append,hT,List.all_cons,pf,decide_eq_true hE2];rfl)
    ·rw[ct (show(!decide _)=true by rw[df (by omega)];rfl),if_neg];rw[ht];simp only[List.all_append,List.all_cons,List.all_nil,pf,decide_eq_false hE2];simp
end
def ok:Spec:=λm hb hs=>⟨20,λN hN=>by
 have hs:aP m=true:=hs;obtain⟨n,rr,hn,hr',hn1,hn5,hnr,hr8,hl⟩:=aU (cI (cX hs));have e1:(bN 0 m.1&&decide (m.1<1099511627776))=true:=by rw[dt (show m.1<1099511627776 by omega),Bool.and_true];exact dt (by omega)
 simp only[Z1,Z3,Z5,Z8,Z12,Z14,Z18,Z20,Z22,Z24,Z26,Z29,Z33,Z37,Z40,Z39,Z38,Z36,Z35,Z41,Z34,Z32,Z31,Z30,Z28,Z42,Z27,Z25,Z23,Z21,Z19,Z17,Z16,Z43,Z15,Z13,Z11,Z10,Z9,Z7,Z44,Z6,Z4,Z2,Z0];rw[ct e1,OR];have e2:((f9 m.1.toNat []).length:Int)=(m.1.toNat:Int):=by rw[uy]
 rw[e2];have:=outer hs hN (λout4=>some ((),(out4,(true,())))) (λt2 t3=>some ((),(t2,(t3,())))) N m.1.toNat 0 [] (by omega) (by omega) ⟨(λp hp=>by cases hp),by simp⟩ rfl;refine Eq.trans (by exact this) ?_;rw[<-List.range_eq_range'];unfold g gZ eI;split<;>rfl⟩
end bw
namespace cn
def g(m:Int×Int×List Int):List (List Int):=if(aX m&&!decide (ba m=[]))=true then cT m else[]
def Z1{J:Type}(N:Nat)(a:MT)(kn:I2 (LI->Option J)):Option J :=
 kn a.1 a.2.1 a.2.2
def Z3{J:Type}(N:Nat)(a b:Int)(c:LI)(kn:I2 (LI->Option J))(kr:LL->Option J):Option J :=
 cond (!(lk N ((eU.g (a,(b,c))))))
 (
  kr ([]:List (LI)))
 (
  kn a b c)
def Z5{J:Type}(N:Nat)(a b:Int)(c:LI)(kn:I2 (LI->Option J)):Option J :=
 kn a b c
def Z8{J:Type}(N:Nat)(a b:Int)(c:LI)(kn:I3 (LI->Option J)):Option J :=
 kn 0 a b c
def Z12{J:Type}(N:Nat)(a:LL)(b c d:Int)(e:LI)(kn:LL->I3 (LI->Option J))(k0:LL->Option J):Option J :=
 cond (lk N (decide (b<c)))
 (
  kn a b c d e)
 (
  k0 a)
def Z16{J:Type}(N:Nat)(a:LL)(b c d:Int)(e:LI)(kn:LL->I3 (LI->Option J)):Option J :=
 kn a b c d e
def Z19{J:Type}(N:Nat)(a:LL)(b c d:Int)(e:LI)(kn:LL->I4 (LI->Option J)):Option J :=
 kn a b 0 c d e
def Z22{J:Type}(N:Nat)(h:LL)(f:LI)(a b c d:Int)(e:LI)(kn:LL->LI->I4 (LI->Option J))(k2:LL->LI->I3 (LI->Option J)):Option J :=
 cond (lk N (decide (b<c)))
 (
  cond (lk N (b9.P (c,(d,e)) a b)) (
   cond (lk N (decide (a=b)))
   (
    cond (lk N (Nat.blt (f.length+([2]:List Int).length) 1099511627776)) (
     kn h (f++([2]:List Int)) a (ac (b+1)) c d e) none)
   (
    cond (lk N (Nat.blt (f.length+([(ac (0-(mx (b9.g (c,(d,e)) a b) (ac (0-(b9.g (c,(d,e)) a b))))))]:List Int).length) 1099511627776)) (
     kn h (f++([(ac (0-(mx (b9.g (c,(d,e)) a b) (ac (0-(b9.g (c,(d,e)) a b))))))]:List Int)) a (ac (b+1)) c d e) none)) none)
 (
  k2 h f a c d e)
def Z21L{J:Type}(N:Nat)(k2:LL->LI->I3 (LI->Option J)):Nat->LL->LI->Int->Int->Int->Int->LI->Option J
 |0,_,_,_,_,_,_,_=>none
 |M+1,a,b,c,d,e,f,g=>Z22 N a b c d e f g (λa b c d e f g=>Z21L N k2 M a b c d e f g) k2
def Z21 N a b c d e f k2:=(Z21L N k2 N a ([]:List Int) b c d e f:Option J)
def Z20 N a b c d e f kn:=(Z21 N a b c d e f kn:Option J)
def Z18 N a b c d e kn:=(Z19 N a b c d e (λa b f c d e=>Z20 N a b f c d e kn):Option J)
def Z23{J:Type}(N:Nat)(a:LL)(b:LI)(c d e:Int)(f:LI)(kn:LL->I3 (LI->Option J)):Option J :=
 cond (lk N (Nat.blt (a.length+([b]:List (LI)).length) 1099511627776)) (
  kn (a++([b]:List (LI))) c d e f) none
def Z17 N a b c d e kn:=(Z18 N a b c d e (λa f b c d e=>Z23 N a f b c d e kn):Option J)
def Z15 N a b c d e kn:=(Z16 N a b c d e (λa b c d e=>Z17 N a b c d e kn):Option J)
def Z14 N a b c d e kn:=(Z15 N a b c d e kn:Option J)
def Z24{J:Type}(N:Nat)(a:LL)(b c d:Int)(e:LI)(kn:LL->I3 (LI->Option J)):Option J :=
 kn a (ac (b+1)) c d e
def Z13 N a b c d e kn:=(Z14 N a b c d e (λa b c d e=>Z24 N a b c d e kn):Option J)
def Z11 N a b c d e kn k0:=(Z12 N a b c d e (λa b c d e=>Z13 N a b c d e kn) k0:Option J)
def Z10L{J:Type}(N:Nat)(k0:LL->Option J):Nat->LL->Int->Int->Int->LI->Option J
 |0,_,_,_,_,_=>none
 |M+1,a,b,c,d,e=>Z11 N a b c d e (λa b c d e=>Z10L N k0 M a b c d e) k0
def Z10 N a b c d k0:=(Z10L N k0 N ([]:List (LI)) a b c d:Option J)
def Z9 N a b c d kn:=(Z10 N a b c d kn:Option J)
def Z7 N a b c kn:=(Z8 N a b c (λd a b c=>Z9 N d a b c kn):Option J)
def Z25{J:Type}(N:Nat)(a:LL)(kr:LL->Option J):Option J :=
 kr a
def Z6 N a b c kr:=(Z7 N a b c (λd=>Z25 N d kr):Option J)
def Z4 N a b c kr:=(Z5 N a b c (λa b c=>Z6 N a b c kr):Option J)
def Z2 N a b c kr:=(Z3 N a b c (λa b c=>Z4 N a b c kr) kr:Option J)
def Z0 N a kr:=(Z1 N a (λb c d=>Z2 N b c d kr):Option J)
def Spec:Prop:=∀ (v0:MT),Ty.bd (.pair (.int .i64) (.pair (.int .i64) (.sl 0 (.int .i64)))) v0->∃N0,∀N,N0<=N->Z0 N v0 (λv2=>some ((),(v2,())))=some ((),((g v0),()))
def at_g{m:Int×Int×List Int}(hd:0<=m.1)(a b:Nat):b9.g (m.1,(m.2.1,m.2.2)) (a:Int) (b:Int)=af m a b:=iS hd a b
def at_p{m:Int×Int×List Int}(hd:aO m=true){a b:Nat}(ha:a<m.1.toNat)(hb:b<m.1.toNat):b9.P (m.1,(m.2.1,m.2.2)) (a:Int) (b:Int)=true:=by obtain⟨n,r,hn,hr,hn1,hn5,hnr,hr8,hl⟩:=aU hd;exact iU hd (by omega) hb
def inner{J:Type}{N:Nat}{m:Int×Int×List Int}(hs:aX m=true)(k2:List (List Int)->List Int->Int->Int->Int->List Int->Option J)(out:List (List Int)){i:Nat}(hi:i<m.1.toNat):∀(M j:Nat),j<=m.1.toNat->m.1.toNat-j<M ->
  Z21L N k2 M out ((dV m i).take j) (i:Int) (j:Int) m.1 m.2.1 m.2.2=k2 out (dV m i) (i:Int) m.1 m.2.1 m.2.2:=by
 have hd:=cI hs;obtain⟨n,r,hn,hr,hn1,hn5,hnr,hr8,hl⟩:=aU hd;intro M;induction M with
 |zero=>intro j _ h;omega
 |succ M ih =>
  intro j hj hM;simp only[Z21L,Z22];have hrl:(dV m i).length=m.1.toNat:=by simp[dV]
  by_cases h:j<m.1.toNat
  ·have hlen:∀x:Int,Nat.blt (((dV m i).take j).length+([x]:List Int).length) 1099511627776=true:=λx=>by rw[Nat.blt_eq,List.length_take,hrl,List.length_singleton];omega
   have ht:(dV m i).take j++[fq m i j]=(dV m i).take (j+1):=EX (fq m i) h;have:=ih (j+1) h (by omega);rw[<-ht]at this;have hb:=fX hs i j;have hA:=at_g (m:=m) (by omega) i j;rw[ct (dt (by omega))];have ha:mx (af m i j) (ac (0-af m i j))=aS (af m i j):=by rw[aR (by omega) (by omega),tV];unfold aS;omega
   have hab:=oR hb;have hw:ac (0-aS (af m i j))=-(aS (af m i j)):=by
    have:0<=aS (af m i j):=by unfold aS;omega
    rw[aR (by omega) (by omega)];omega
   rw[ct (at_p hd hi h),hA,ha,hw];by_cases e:i=j;·rw[fq,if_pos e]at this;rw[ct (dt (by omega)),ct (hlen _),a8 (by rw[bn];omega)];exact this
   ·rw[fq,if_neg e]at this;rw[cf (df (by omega)),ct (hlen _),a8 (by rw[bn];omega)];exact this
  ·rw[cf (df (by omega)),List.take_of_length_le (by rw[hrl];omega)]
def loop{J:Type}{N:Nat}(hN:10<=N){m:Int×Int×List Int}(hs:aX m=true)(k0:List (List Int)->Option J):∀(M i:Nat),i<=m.1.toNat->m.1.toNat-i<M ->
  Z10L N k0 M ((cT m).take i) (i:Int) m.1 m.2.1 m.2.2=k0 (cT m):=by
 have hd:=cI hs;obtain⟨n,r,hn,hr,hn1,hn5,hnr,hr8,hl⟩:=aU hd;have hcl:(cT m).length=m.1.toNat:=by simp[cT]
 intro M;induction M with
 |zero=>intro i _ h;omega
 |succ M ih =>
  intro i hi hM;simp only[Z10L,Z11,Z12];by_cases h:i<m.1.toNat;·have ht:(cT m).take i++[dV m i]=(cT m).take (i+1):=EX (dV m) h;rw[ct (dt (by omega))];simp only[Z13,Z14,Z15,Z16,Z17,Z18,Z19,Z20,Z21];have hin:=inner (J:=J) (N:=N) hs (λout3 row5 i4 m1_0 m1_1 m1_2=>Z23 N out3 row5 i4 m1_0 m1_1 m1_2 (λout3 i4 m1_0 m1_1 m1_2=>Z24 N out3 i4 m1_0 m1_1 m1_2 (λout3 i4 m1_0 m1_1 m1_2=>Z10L N k0 M out3 i4 m1_0 m1_1 m1_2))) ((cT m).take i) h N 0 (by omega) (by omega);rw[List.take_zero,show((0:Nat):Int)=0 from rfl]at hin;rw[hin];simp only[Z23,Z24];rw[ct (by rw[Nat.blt_eq,List.length_take,hcl,List.length_singleton];omega),a8 (by rw[bn];omega),ht];exact ih (i+1) h (by omega)
  ·rw[cf (df (by omega)),List.take_of_length_le (by rw[hcl];omega)]
def ok:Spec:=λm hb=>⟨10,λN hN=>by
 have e0:eU.g (m.1,(m.2.1,m.2.2))=(aX m&&!decide (ba m=[])):=rfl;simp only[Z0,Z1,Z2,Z3,e0,g,aD];cases h1:(aX m&&!decide (ba m=[]));·rfl
 have hs:aX m=true:=by simp only[Bool.and_eq_true]at h1;first | exact cX h1.1 | exact h1.1
 obtain⟨n,r,hn,hr,hn1,hn5,hnr,hr8,hl⟩:=aU (cI hs);simp only[Z4,Z5,Z6,Z7,Z8,Z9,Z10];have:=loop (J:=Unit×List (List Int)×Unit) hN hs (λout3=>Z25 N out3 (λt2=>some ((),(t2,())))) N 0 (by omega) (by omega);exact this⟩
end cn
namespace bX
def P(m:Int×Int×List Int)(l:List Int):Bool:=(aP m&&!decide (ba m=[]))&&pc m l
def g(m:Int×Int×List Int)(l:List Int):ByteArray:=ej m (l.map Int.toNat)
def Z1{J:Type}(N:Nat)(a:MT)(b:LI)(kn:LI->I2 (LI->Option J)):Option J :=
 kn b a.1 a.2.1 a.2.2
def Z3{J:Type}(N:Nat)(d:LI)(a b:Int)(c:LI)(kn:LL->LI->I2 (LI->Option J)):Option J :=
 kn (cn.g (a,(b,c))) d a b c
def Z5{J:Type}(N:Nat)(a:LL)(b:LI)(c d:Int)(e:LI)(kn:LL->LI->ByteArray->I2 (LI->Option J)):Option J :=
 kn a b (⟨#[65]⟩:ByteArray) c d e
def Z8{J:Type}(N:Nat)(b:LL)(a:LI)(c:ByteArray)(d e:Int)(f:LI)(kn:LL->LI->ByteArray->LI->I4 (LI->Option J)):Option J :=
 kn b a c a (a.length:Int) 0 d e f
def Z11{J:Type}(N:Nat)(h:LL)(a:LI)(i:ByteArray)(c:LI)(j b d e:Int)(f:LI)(kn:LL->LI->ByteArray->LI->I4 (LI->Option J))(k0:LL->LI->ByteArray->I2 (LI->Option J))(kr:ByteArray->Option J):Option J :=
 cond (lk N (decide (b<j)))
 (
  cond (lk N (ax b c.length)) (
   cond (lk N (cG.P (d,(e,f)) (c.getD b.toNat 0))) (
    cond (lk N (decide (((cG.g (d,(e,f)) (c.getD b.toNat 0)).length:Int)=3)))
    (
     cond (lk N (eo.P (a.length:Int))) (
      cond (Nat.blt ((⟨#[68]⟩:ByteArray).size+(eo.g (a.length:Int)).size) 4611686018427387904) (
       kr ((⟨#[68]⟩:ByteArray)++(eo.g (a.length:Int)))) none) none)
    (
     kn h a i c j (ac (b+1)) d e f)) none) none)
 (
  k0 h a i d e f)
def Z10L{J:Type}(N:Nat)(k0:LL->LI->ByteArray->I2 (LI->Option J))(kr:ByteArray->Option J):Nat->LL->LI->ByteArray->LI->Int->Int->Int->Int->LI->Option J
 |0,_,_,_,_,_,_,_,_,_=>none
 |M+1,a,b,c,d,e,f,g,h,i=>Z11 N a b c d e f g h i (λa b c d e f g h i=>Z10L N k0 kr M a b c d e f g h i) k0 kr
def Z10 N a b c d e f g h i k0 kr:=(Z10L N k0 kr N a b c d e f g h i:Option J)
def Z9 N a b c d e f g h i kn kr:=(Z10 N a b c d e f g h i kn kr:Option J)
def Z7 N a b c d e f kn kr:=(Z8 N a b c d e f (λa b c g h i d e f=>Z9 N a b c g h i d e f kn kr):Option J)
def Z14{J:Type}(N:Nat)(b:LL)(a:LI)(c:ByteArray)(d e:Int)(f:LI)(kn:LL->LI->ByteArray->LI->I4 (LI->Option J)):Option J :=
 kn b a c a (a.length:Int) 0 d e f
def Z18{J:Type}(N:Nat)(c:LL)(d:LI)(e:ByteArray)(f:LI)(a b g h:Int)(i:LI)(kn:LL->LI->ByteArray->LI->I2 (Bool->I2 (LI->Option J))):Option J :=
 kn c d e f a b (lk N (decide (b<a))) g h i
def Z20{J:Type}(N:Nat)(c:LL)(a:LI)(b:ByteArray)(d:LI)(e f:Int)(g:Bool)(h i:Int)(j:LI)(kn:LL->LI->ByteArray->LI->I4 (LI->Option J))(k2:LI->ByteArray->Option J):Option J :=
 cond (g)
 (
  kn c a b d e f h i j)
 (
  k2 a b)
def Z24{J:Type}(N:Nat)(c:LL)(d:LI)(e:ByteArray)(a:LI)(f b g h:Int)(i:LI)(kn:LL->LI->ByteArray->Int->LI->I4 (LI->Option J)):Option J :=
 cond (lk N (ax b a.length)) (
  kn c d e (a.getD b.toNat 0) a f b g h i) none
def Z26{J:Type}(N:Nat)(e:LL)(f:LI)(h:ByteArray)(a:Int)(i:LI)(j l b c:Int)(d:LI)(kn:LL->LI->LI->ByteArray->Int->LI->I6 (LI->Option J)):Option J :=
 cond (lk N (cG.P (b,(c,d)) a)) (
  kn e (cG.g (b,(c,d)) a) f h a i j l ((cG.g (b,(c,d)) a).length:Int) 0 b c d) none
def Z29{J:Type}(N:Nat)(d:LL)(c i:LI)(p:ByteArray)(a:Int)(j:LI)(l m o b e f:Int)(h:LI)(kn:LL->LI->LI->ByteArray->Int->LI->I6 (LI->Option J))(k4:LL->LI->ByteArray->LI->I4 (LI->Option J)):Option J :=
 let x1_:=(d.getD (c.getD b.toNat 0).toNat []);let x2_:=(ac (((d.getD a.toNat []).getD (c.getD b.toNat 0).toNat 0)*(x1_.getD a.toNat 0)));let x3_:=(
   kn d c i (⟨#[66]⟩:ByteArray) a j l m o (ac (b+1)) e f h)
 let x4_:=(
   kn d c i p a j l m o (ac (b+1)) e f h)
 let x5_:=((cG.g (e,(f,h)) a).length:Int);let x0_:=(
   cond (lk N (cG.P (e,(f,h)) a)) (
   cond (lk N (decide (x5_=1)))
   (
   cond (lk N (ax (c.getD b.toNat 0) d.length)) (
   cond (lk N (ax a x1_.length)) (
   cond (lk N (decide ((x1_.getD a.toNat 0)=(-2))))
   x3_
   (
   kn d c i (⟨#[67]⟩:ByteArray) a j l m o (ac (b+1)) e f h)) none) none)
   x4_) none)
 cond (lk N (decide (b<o)))
 (
 cond (lk N (ax b c.length)) (
 cond (lk N (ax a d.length)) (
 cond (lk N (ax (c.getD b.toNat 0) (d.getD a.toNat []).length)) (
 cond (lk N (ax (c.getD b.toNat 0) d.length)) (
 cond (lk N (ax a x1_.length)) (
 cond (lk N (decide (x2_=3)))
 (
 kn d c i (⟨#[71]⟩:ByteArray) a j l m o (ac (b+1)) e f h)
 (
 cond (lk N (decide (x2_=2)))
 (
 cond (lk N (decide ((i.length:Int)=2)))
 x3_
 (
 cond (lk N (cG.P (e,(f,h)) a)) (
 cond (lk N (decide (1<x5_)))
 (
 cond (lk N (cG.P (e,(f,h)) (c.getD b.toNat 0))) (
 cond (lk N (decide (1<((cG.g (e,(f,h)) (c.getD b.toNat 0)).length:Int))))
 (
 kn d c i (⟨#[70]⟩:ByteArray) a j l m o (ac (b+1)) e f h)
 x0_) none)
 x0_) none))
 x4_)) none) none) none) none) none)
 (
 k4 d i p j l m e f h)
def Z28L{J:Type}(N:Nat)(k4:LL->LI->ByteArray->LI->I4 (LI->Option J)):Nat->LL->LI->LI->ByteArray->Int->LI->Int->Int->Int->Int->Int->Int->LI->Option J
 |0,_,_,_,_,_,_,_,_,_,_,_,_,_=>none
 |M+1,a,b,c,d,e,f,g,h,i,j,l,m,o=>Z29 N a b c d e f g h i j l m o (λa b c d e f g h i j l m o=>Z28L N k4 M a b c d e f g h i j l m o) k4
def Z28 N a b c d e f g h i j l m o k4:=(Z28L N k4 N a b c d e f g h i j l m o:Option J)
def Z27 N a b c d e f g h i j l m o kn:=(Z28 N a b c d e f g h i j l m o kn:Option J)
def Z25 N a b c d e f g h i j kn:=(Z26 N a b c d e f g h i j (λa l b c d e f g m o h i j=>Z27 N a l b c d e f g m o h i j kn):Option J)
def Z23 N a b c d e f g h i kn:=(Z24 N a b c d e f g h i (λa b c j d e f g h i=>Z25 N a b c j d e f g h i kn):Option J)
def Z22 N a b c d e f g h i kn:=(Z23 N a b c d e f g h i kn:Option J)
def Z30{J:Type}(N:Nat)(a:LL)(b:LI)(c:ByteArray)(d:LI)(e f g h:Int)(i:LI)(kn:LL->LI->ByteArray->LI->I4 (LI->Option J)):Option J :=
 kn a b c d e (ac (f+1)) g h i
def Z21 N a b c d e f g h i kn:=(Z22 N a b c d e f g h i (λa b c d e f g h i=>Z30 N a b c d e f g h i kn):Option J)
def Z19 N a b c d e f j g h i kn k2:=(Z20 N a b c d e f j g h i (λa b c d e f g h i=>Z21 N a b c d e f g h i kn) k2:Option J)
def Z17 N a b c d e f g h i kn k2:=(Z18 N a b c d e f g h i (λa b c d e f j g h i=>Z19 N a b c d e f j g h i kn k2):Option J)
def Z16L{J:Type}(N:Nat)(k2:LI->ByteArray->Option J):Nat->LL->LI->ByteArray->LI->Int->Int->Int->Int->LI->Option J
 |0,_,_,_,_,_,_,_,_,_=>none
 |M+1,a,b,c,d,e,f,g,h,i=>Z17 N a b c d e f g h i (λa b c d e f g h i=>Z16L N k2 M a b c d e f g h i) k2
def Z16 N a b c d e f g h i k2:=(Z16L N k2 N a b c d e f g h i:Option J)
def Z15 N a b c d e f g h i kn:=(Z16 N a b c d e f g h i kn:Option J)
def Z13 N a b c d e f kn:=(Z14 N a b c d e f (λa b c g h i d e f=>Z15 N a b c g h i d e f kn):Option J)
def Z31{J:Type}(N:Nat)(a:LI)(b:ByteArray)(kr:ByteArray->Option J):Option J :=
 cond (lk N (eo.P (a.length:Int))) (
  cond (Nat.blt (b.size+(eo.g (a.length:Int)).size) 4611686018427387904) (
   kr (b++(eo.g (a.length:Int)))) none) none
def Z12 N c a b d e f kr:=(Z13 N c a b d e f (λa b=>Z31 N a b kr):Option J)
def Z6 N a b c d e f kr:=(Z7 N a b c d e f (λa b c d e f=>Z12 N a b c d e f kr) kr:Option J)
def Z4 N a b c d e kr:=(Z5 N a b c d e (λa b f c d e=>Z6 N a b f c d e kr):Option J)
def Z2 N a b c d kr:=(Z3 N a b c d (λe a b c d=>Z4 N e a b c d kr):Option J)
def Z0 N b a kr:=(Z1 N b a (λa c d e=>Z2 N a c d e kr):Option J)
def Spec:Prop:=∀ (v0:MT) (v1:LI),Ty.bd (.pair (.int .i64) (.pair (.int .i64) (.sl 0 (.int .i64)))) v0->Ty.bd (.sl 0 (.int .i64)) v1->P v0 v1=true->∃N0,∀N,N0<=N->Z0 N v0 v1 (λv4=>some ((),(v4,())))=some ((),((g v0 v1),()))
def car_at{m:Int×Int×List Int}{i j:Nat}(hi:i<m.1.toNat)(hj:j<m.1.toNat):ax (i:Int) (cT m).length=true/\(cT m).getD i []=dV m i/\ax (j:Int) (dV m i).length=true/\(dV m i).getD j 0=fq m i j:=by
 have e1:(cT m).length=m.1.toNat:=by simp[cT]
 have e2:(dV m i).length=m.1.toNat:=by simp[dV]
 refine⟨aN (by rw[e1];exact hi), ?_,aN (by rw[e2];exact hj), ?_⟩;·unfold cT;exact nr (by simpa using hi) []
 ·unfold dV;exact nr (by simpa using hj) 0
section
variable {J : Type} {N : Nat} {m : Int × Int × List Int} {L : List Nat} (hs : aP m = true) (hL : ∀ x ∈ L, x < m.1.toNat) (h5 : L.length ≤ 5)
include hs hL h5
theorem pj{x:Nat}(hx:x<m.1.toNat):cG.P (m.1,(m.2.1,m.2.2)) (x:Int)=true:=by show(aO m&&_)=true;rw[cI (cX hs),dt (show(0:Int)<=(x:Int) by omega),dt (show(x:Int)<m.1 by omega)];rfl
theorem PJ(k0:List (List Int)->List Int->ByteArray->Int->Int->List Int->Option J)(kr:ByteArray->Option J)(a:List (List Int))(c:UInt8):∀(M i:Nat),i<=L.length->L.length-i<M ->
  Z10L N k0 kr M a (an L) (cK c) (an L) ((an L).length:Int) (i:Int) m.1 m.2.1 m.2.2=if((L.drop i).any λi=>decide (dg m i=3))=true then kr (cK 68++bC (L.length:Int))else k0 a (an L) (cK c) m.1 m.2.1 m.2.2:=by
 have hp1:dG ((an L).length:Int)=true:=by rw[bv];unfold dG;rw[dt (by omega),dt (by omega)];rfl
 have hz:=yN hp1;have hlt:Nat.blt ((cK 68).size+(bC ((an L).length:Int)).size) 4611686018427387904=true:=Nat.ble_eq_true_of_le (by have:(cK 68).size=1:=rfl;omega);intro M;induction M with
 |zero=>intro i _ h;omega
 |succ M ih =>
  intro i hi hM;simp only[Z10L,Z11];by_cases hil:i<L.length
  ·have a1:=hL _ (bz (l:=L) (j:=i) 0 hil);have gj:((cG.g (m.1,(m.2.1,m.2.2)) ((L.getD i 0:Nat):Int)).length:Int)=((dg m (L.getD i 0):Nat):Int):=by show((an (bq m _)).length:Int)=_;rw[bv];rfl
   rw[ct (dt (by rw[bv];omega)),ct (aN (by rw[bv];exact hil)),Int.toNat_natCast,fc,ct (pj hs hL h5 a1),gj,fb 0 hil,List.any_cons];by_cases h3:dg m (L.getD i 0)=3;·rw[ct (dt (by omega)),ct (show eo.P _=true from hp1),decide_eq_true h3,Bool.true_or,if_pos rfl];show cond (Nat.blt ((cK 68).size+(bC ((an L).length:Int)).size) 4611686018427387904) (kr (cK 68++bC ((an L).length:Int))) none=_;rw[hlt,bv];rfl
   ·rw[cf (df (by omega)),decide_eq_false h3,Bool.false_or,a8 (by rw[bn];omega)];exact ih (i+1) (by omega) (by omega)
  ·rw[cf (df (by rw[bv];omega)),List.drop_of_length_le (by omega),List.any_nil,if_neg (by decide)]
theorem inner(k4:List (List Int)->List Int->ByteArray->List Int->Int->Int->Int->Int->List Int->Option J)(t31:List Int)(t32 t33:Int){x:Nat}(hx:x<m.1.toNat):∀(M j:Nat) (c:UInt8),j<=(bq m x).length->(bq m x).length-j<M ->
  Z28L N k4 M (cT m) (an (bq m x)) (an L) (cK c) (x:Int) t31 t32 t33 ((an (bq m x)).length:Int) (j:Int) m.1 m.2.1 m.2.2 =
   k4 (cT m) (an L) (cK (((bq m x).drop j).foldl (λc j=>ph m L.length c x j) c)) t31 t32 t33 m.1 m.2.1 m.2.2:=by
 have hn:=rP m x;obtain⟨n,rr,hn0,hr',hn1,hn5,hnr,hr8,hl⟩:=aU (cI (cX hs));intro M;induction M with
 |zero=>intro j c _ h;omega
 |succ M ih =>
  intro j c hj hM;simp only[Z28L,Z29];by_cases hjl:j<(bq m x).length
  ·obtain⟨hy,hne⟩:=EM.1 (bz (l:=bq m x) (j:=j) 0 hjl);obtain⟨c1,c2,c3,c4⟩:=car_at hx hy;obtain⟨d1,d2,d3,d4⟩:=car_at hy hx;have hxy:x≠(bq m x).getD j 0:=by intro e;have:=EZ hs hx hx;rw[<-e]at hne;simp only[dA,Bool.and_eq_true,beq_iff_eq,decide_eq_decide]at this;omega
   have e1:fq m x ((bq m x).getD j 0)=-(aS (af m x ((bq m x).getD j 0))):=if_neg hxy;have e2:fq m ((bq m x).getD j 0) x=-(aS (af m ((bq m x).getD j 0) x)):=if_neg (Ne.symm hxy);obtain⟨w1,w2,w3⟩:=OV hs hx hy;have b1:=fX (cX hs) x ((bq m x).getD j 0);have b2:=fX (cX hs) ((bq m x).getD j 0) x;have hb:-9801<=dL m x ((bq m x).getD j 0)/\dL m x ((bq m x).getD j 0)<=9801:=by
    unfold dL;have:(af m x ((bq m x).getD j 0)*af m ((bq m x).getD j 0) x).natAbs<=99*99:=by rw[Int.natAbs_mul];exact Nat.mul_le_mul (by omega) (by omega)
    omega
   have hw:ac (wt (af m) x ((bq m x).getD j 0))=wt (af m) x ((bq m x).getD j 0):=aR (by omega) (by omega);have gj:∀z:Nat,((cG.g (m.1,(m.2.1,m.2.2)) (z:Int)).length:Int)=((dg m z:Nat):Int):=λz=>by show((an (bq m _)).length:Int)=_;rw[bv];rfl
   have next:∀c':UInt8,Z28L N k4 M (cT m) (an (bq m x)) (an L) (cK c') (x:Int) t31 t32 t33 ((an (bq m x)).length:Int) ((j+1:Nat):Int) m.1 m.2.1 m.2.2=_:=λc'=>ih (j+1) c' (by omega) (by omega)
   rw[fb 0 hjl,List.foldl_cons];simp only[Int.toNat_natCast,fc,a8 (j:=j) (by rw[bn];omega),c2,c4,d2,d4,e1,e2,<-w2,hw,gj];rw[ct (dt (by rw[bv];omega)),ct (aN (by rw[bv];exact hjl)),ct c1,ct c3,ct d1,ct d3];have px:=pj hs hL h5 hx;have py:=pj hs hL h5 hy;by_cases h3:wt (af m) x ((bq m x).getD j 0)=3;·have e:ph m L.length c x ((bq m x).getD j 0)=71:=if_pos h3;rw[ct (dt h3),e];exact next 71
   ·rw[cf (df h3)];by_cases h2:wt (af m) x ((bq m x).getD j 0)=2
    ·rw[ct (dt h2)];have e:ph m L.length c x ((bq m x).getD j 0)=_:=(if_neg h3).trans (if_pos h2);rw[e];by_cases hl2:L.length=2;·rw[ct (dt (by rw[bv];omega)),if_pos hl2];exact next 66
     ·rw[cf (df (by rw[bv];omega)),if_neg hl2,ct px];have leaf:∀(h1:dg m x=1),cond (lk N (decide (-(aS (af m ((bq m x).getD j 0) x))=-2)))
        (Z28L N k4 M (cT m) (an (bq m x)) (an L) (cK 66) (x:Int) t31 t32 t33 ((an (bq m x)).length:Int) ((j+1:Nat):Int) m.1 m.2.1 m.2.2)
        (Z28L N k4 M (cT m) (an (bq m x)) (an L) (cK 67) (x:Int) t31 t32 t33 ((an (bq m x)).length:Int) ((j+1:Nat):Int) m.1 m.2.1 m.2.2) =
       k4 (cT m) (an L) (cK (((bq m x).drop (j+1)).foldl (λc j=>ph m L.length c x j) (if aS (af m ((bq m x).getD j 0) x)=2 then 66 else 67))) t31 t32 t33 m.1 m.2.1 m.2.2:=by
       intro h1;by_cases h4:aS (af m ((bq m x).getD j 0) x)=2;·rw[ct (dt (by omega)),if_pos h4];exact next 66
       ·rw[cf (df (by omega)),if_neg h4];exact next 67
      by_cases h6:1<dg m x
      ·rw[ct (dt (by omega)),ct py];by_cases h7:1<dg m ((bq m x).getD j 0);·rw[ct (dt (by omega)),if_pos ⟨h6,h7⟩];exact next 70
       ·rw[cf (df (by omega)),ct px,cf (df (by omega)),if_neg (λh=>h7 h.2),if_neg (by omega)];exact next c
      ·rw[cf (df (by omega)),ct px,if_neg (λh=>h6 h.1)];by_cases h1:dg m x=1;·rw[ct (dt (by omega)),ct d1,ct d3,if_pos h1];exact leaf h1
       ·rw[cf (df (by omega)),if_neg h1];exact next c
    ·rw[cf (df h2)];have e:ph m L.length c x ((bq m x).getD j 0)=c:=(if_neg h3).trans (if_neg h2);rw[e];exact next c
  ·rw[cf (df (by rw[bv];omega)),List.drop_of_length_le (by omega)];rfl
theorem outer(hN:10<=N)(k2:List Int->ByteArray->Option J):∀(M i:Nat) (c:UInt8),i<=L.length->L.length-i<M ->
  Z16L N k2 M (cT m) (an L) (cK c) (an L) ((an L).length:Int) (i:Int) m.1 m.2.1 m.2.2=k2 (an L) (cK ((L.drop i).foldl (λc i=>EY m L.length c i) c)):=by
 obtain⟨n,rr,hn0,hr',hn1,hn5,hnr,hr8,hl⟩:=aU (cI (cX hs));intro M;induction M with
 |zero=>intro i c _ h;omega
 |succ M ih =>
  intro i c hi hM;simp only[Z16L,Z17,Z18,Z19,Z20];by_cases hil:i<L.length;·rw[gn (by rw[aD];exact dt (by rw[bv];omega))];simp only[Z21,Z22,Z23,Z24,Z25,Z26,Z27,Z28,Z30];have a1:=hL _ (bz (l:=L) (j:=i) 0 hil);have hnb:=rP m (L.getD i 0);rw[ct (aN (by rw[bv];exact hil)),Int.toNat_natCast,fc,ct (pj hs hL h5 a1)];refine(inner hs hL h5 _ _ _ _ a1 N 0 c (by omega) (by omega)).trans ?_;rw[a8 (by rw[bn];omega),fb 0 hil,List.foldl_cons];exact ih (i+1) _ (by omega) (by omega)
  ·rw[fV (by rw[aD];exact df (by rw[bv];omega)),List.drop_of_length_le (by omega)];rfl
end
def ok:Spec:=λm l hb hl hp=>⟨10,λN hN=>by
 simp only[P,Bool.and_eq_true]at hp;obtain⟨⟨hs,hf⟩,hp⟩:=hp;obtain⟨L,rfl,hL,h5⟩:=OI hp;have hcar:cn.g (m.1,(m.2.1,m.2.2))=cT m:=by show(if(aX m&&!decide (ba m=[]))=true then cT m else[])=_;rw[if_pos (by rw[cX hs,hf];rfl)]
 have hp1:dG ((an L).length:Int)=true:=by rw[bv];unfold dG;rw[dt (by omega),dt (by omega)];rfl
 have hz:=yN hp1;have hlt:∀c:UInt8,Nat.blt ((cK c).size+(bC ((an L).length:Int)).size) 4611686018427387904=true:=λc=>Nat.ble_eq_true_of_le (by have:(cK c).size=1:=rfl;omega);simp only[Z1,Z3,Z5,Z8,Z11,Z10,Z9,Z7,Z14,Z18,Z20,Z24,Z26,Z29,Z28,Z27,Z25,Z23,Z22,Z30,Z21,Z19,Z17,Z16,Z15,Z13,Z31,Z12,Z6,Z4,Z2,Z0];rw[hcar];refine(PJ hs hL h5 _ _ _ 65 N 0 (by omega) (by omega)).trans ?_;have ew:g m (an L)=cK (uz m L)++bC (L.length:Int):=by unfold g ej;rw[gE]
 rw[ew,List.drop_zero];unfold uz;by_cases h1:(L.any λi=>decide (dg m i=3))=true;·rw[if_pos h1,if_pos h1]
 ·rw[if_neg h1,if_neg h1];refine(outer hs hL h5 hN _ N 0 65 (by omega) (by omega)).trans ?_;rw[ct (show eo.P _=true from hp1),List.drop_zero];refine(gn (hlt _)).trans ?_;show some ((),(cK _++bC ((an L).length:Int),()))=_;rw[bv]⟩
end bX
namespace ku
abbrev g(l:List ByteArray):List ByteArray:=cZ l
abbrev P(l:List ByteArray):Bool:=Nat.blt 0 l.length&&Nat.blt l.length 4611686018427387904
def ok:True:=trivial
end ku
namespace bY
def g(m:Int×Int×List Int):ByteArray:=if(ef m).2=true then pk ej (ef m).1 else ByteArray.empty
def Z1{J:Type}(N:Nat)(a:MT)(kn:I2 (LI->Option J)):Option J :=
 kn a.1 a.2.1 a.2.2
def Z3{J:Type}(N:Nat)(a b:Int)(c:LI)(kn:LM->Bool->Option J):Option J :=
 kn (bS.g (a,(b,c))).1 (lk N ((bS.g (a,(b,c))).2))
def Z5{J:Type}(N:Nat)(a:LM)(b:Bool)(kn:LM->Option J)(kr:ByteArray->Option J):Option J :=
 cond (!(b))
 (
  kr ByteArray.empty)
 (
  kn a)
def Z8{J:Type}(N:Nat)(a:LM)(kn:LM->I2 (Option J)):Option J :=
 kn a (a.length:Int) 0
def Z12{J:Type}(N:Nat)(c:LM)(a b:Int)(kn:LM->I2 (Bool->Option J)):Option J :=
 kn c a b (lk N (decide (b<a)))
def Z14{J:Type}(N:Nat)(a:LM)(b c:Int)(d:Bool)(kn:LM->I2 (Option J))(k0:Option J):Option J :=
 cond (d)
 (
  kn a b c)
 (
  k0)
def Z18{J:Type}(N:Nat)(a:LM)(c b:Int)(kn:LM->I4 (LI->Option J)):Option J :=
 cond (lk N (ax b a.length)) (
  kn a c b (a.getD b.toNat (0,(0,[]))).1 (a.getD b.toNat (0,(0,[]))).2.1 (a.getD b.toNat (0,(0,[]))).2.2) none
def Z20{J:Type}(N:Nat)(d:LM)(e f a b:Int)(c:LI)(kn:LL->LM->Bool->I4 (LI->Option J)):Option J :=
 cond (lk N (bw.P (a,(b,c)))) (
  kn (bw.g (a,(b,c))).1 d (lk N ((bw.g (a,(b,c))).2)) e f a b c) none
def Z22{J:Type}(N:Nat)(b:LL)(a:LM)(c:Bool)(d e f g:Int)(h:LI)(kn:LL->LM->I2 (LI->Option J))(k1:LM->I2 (Option J)):Option J :=
 cond (!(c))
 (
  k1 a d e)
 (
  kn b a f g h)
def Z24{J:Type}(N:Nat)(a:LL)(b:LM)(c d:Int)(e:LI)(kn:LL->LM->I2 (LI->Option J)):Option J :=
 kn a b c d e
def Z27{J:Type}(N:Nat)(a:LL)(b:LM)(c d:Int)(e:LI)(kn:LM->LL->I4 (LI->Option J)):Option J :=
 kn b a (a.length:Int) 0 c d e
def Z30{J:Type}(N:Nat)(f:List ByteArray)(i:LM)(b:LL)(h a c d:Int)(e:LI)(kn:List ByteArray->LM->LL->I4 (LI->Option J))(k2:List ByteArray->Option J):Option J :=
 cond (lk N (decide (a<h)))
 (
  cond (lk N (ax a b.length)) (
   cond (lk N (bX.P (c,(d,e)) (b.getD a.toNat []))) (
    cond (lk N (Nat.blt (f.length+([(bX.g (c,(d,e)) (b.getD a.toNat []))]:List ByteArray).length) 1099511627776)) (
     kn (f++([(bX.g (c,(d,e)) (b.getD a.toNat []))]:List ByteArray)) i b h (ac (a+1)) c d e) none) none) none)
 (
  k2 f)
def Z29L{J:Type}(N:Nat)(k2:List ByteArray->Option J):Nat->List ByteArray->LM->LL->Int->Int->Int->Int->LI->Option J
 |0,_,_,_,_,_,_,_,_=>none
 |M+1,a,b,c,d,e,f,g,h=>Z30 N a b c d e f g h (λa b c d e f g h=>Z29L N k2 M a b c d e f g h) k2
def Z29 N a b c d e f g k2:=(Z29L N k2 N ([]:List ByteArray) a b c d e f g:Option J)
def Z28 N a b c d e f g kn:=(Z29 N a b c d e f g kn:Option J)
def Z26 N e a b c d kn:=(Z27 N e a b c d (λa f g h b c d=>Z28 N a f g h b c d kn):Option J)
def Z31{J:Type}(N:Nat)(a:List ByteArray)(kr:ByteArray->Option J):Option J :=
 cond (lk N (ku.P a)) (
  cond (lk N (strings_Join.P (ku.g a) (⟨#[32]⟩:ByteArray))) (
   kr (strings_Join.g (ku.g a) (⟨#[32]⟩:ByteArray))) none) none
def Z25 N a b c d e kr:=(Z26 N a b c d e (λf=>Z31 N f kr):Option J)
def Z23 N a b c d e kr:=(Z24 N a b c d e (λa b c d e=>Z25 N a b c d e kr):Option J)
def Z21 N a b f g h c d e k1 kr:=(Z22 N a b f g h c d e (λa b c d e=>Z23 N a b c d e kr) k1:Option J)
def Z19 N a b c d e f k1 kr:=(Z20 N a b c d e f (λg a h b c d e f=>Z21 N g a h b c d e f k1 kr):Option J)
def Z17 N a b c k1 kr:=(Z18 N a b c (λa b c d e f=>Z19 N a b c d e f k1 kr):Option J)
def Z16 N a b c kn kr:=(Z17 N a b c kn kr:Option J)
def Z32{J:Type}(N:Nat)(a:LM)(b c:Int)(kn:LM->I2 (Option J)):Option J :=
 kn a b (ac (c+1))
def Z15 N a b c kn kr:=(Z16 N a b c (λa b c=>Z32 N a b c kn) kr:Option J)
def Z13 N a b c d kn k0 kr:=(Z14 N a b c d (λa b c=>Z15 N a b c kn kr) k0:Option J)
def Z11 N a b c kn k0 kr:=(Z12 N a b c (λa b c d=>Z13 N a b c d kn k0 kr):Option J)
def Z10L{J:Type}(N:Nat)(k0:Option J)(kr:ByteArray->Option J):Nat->LM->Int->Int->Option J
 |0,_,_,_=>none
 |M+1,a,b,c=>Z11 N a b c (λa b c=>Z10L N k0 kr M a b c) k0 kr
def Z10 N a b c k0 kr:=(Z10L N k0 kr N a b c:Option J)
def Z9 N a b c kn kr:=(Z10 N a b c kn kr:Option J)
def Z7 N a kn kr:=(Z8 N a (λb c d=>Z9 N b c d kn kr):Option J)
def Z33{J:Type}(N:Nat) (kr:ByteArray->Option J):Option J :=
 kr ByteArray.empty
def Z6 N a kr:=(Z7 N a (Z33 N kr) kr:Option J)
def Z4 N a b kr:=(Z5 N a b (λa=>Z6 N a kr) kr:Option J)
def Z2 N a b c kr:=(Z3 N a b c (λd e=>Z4 N d e kr):Option J)
def Z0 N a kr:=(Z1 N a (λb c d=>Z2 N b c d kr):Option J)
def Spec:Prop:=∀ (v0:MT),Ty.bd (.pair (.int .i64) (.pair (.int .i64) (.sl 0 (.int .i64)))) v0->∃N0,∀N,N0<=N->Z0 N v0 (λv2=>some ((),(v2,())))=some ((),((g v0),()))
section
variable {J : Type} {N : Nat}
def names{x:Int×Int×List Int}{n:Int}(hx:bD n x)(k2:List ByteArray->Option J)(t19:List (Int×Int×List Int))(ps:List (List Nat))(hps:∀p∈ps,(∀y∈p,y<x.1.toNat)/\p.length<=5)(hl:ps.length<=5) :
  ∀(M j:Nat),j<=ps.length->ps.length-j<M->Z29L N k2 M ((ps.take j).map (ej x)) t19 (ps.map an) ((ps.map an).length:Int) (j:Int) x.1 x.2.1 x.2.2=k2 (ps.map (ej x)):=by
 intro M;induction M with
 |zero=>intro j _ h;omega
 |succ M ih =>
  intro j hj hM;simp only[Z29L,Z30];by_cases h:j<ps.length
  ·obtain⟨h1,h2⟩:=hps _ (bz (l:=ps) (j:=j) [] h);have e1:(ps.map an).getD j []=an (ps.getD j []):=by rw[List.getD_eq_getElem?_getD,List.getElem?_map,List.getD_eq_getElem?_getD,List.getElem?_eq_getElem h];rfl
   have p1:bX.P (x.1,(x.2.1,x.2.2)) (an (ps.getD j []))=true:=by show((aP x&&!decide (ba x=[]))&&pc x _)=true;rw[hx.ok,OJ h1 h2];rfl
   have g1:bX.g (x.1,(x.2.1,x.2.2)) (an (ps.getD j []))=ej x (ps.getD j []):=by show ej x ((an (ps.getD j [])).map Int.toNat)=_;rw[gE]
   have e2:(ps.take j).map (ej x)++[ej x (ps.getD j [])]=(ps.take (j+1)).map (ej x):=by rw[<-rc [] h,List.map_append];rfl
   have b1:Nat.blt (((ps.take j).map (ej x)).length+([ej x (ps.getD j [])]:List ByteArray).length) 1099511627776=true:=by simp[Nat.blt_eq];omega
   rw[ct (dt (by rw[List.length_map];omega)),ct (aN (by rw[List.length_map];exact h)),Int.toNat_natCast,e1,ct p1,g1,ct b1,e2,a8 (by rw[bn];omega)];exact ih (j+1) (by omega) (by omega)
  ·rw[cf (df (by rw[List.length_map];omega)),List.take_of_length_le (by omega)]
def outer(hN:200<=N){n:Int}{l:List (Int×Int×List Int)}(hl:d6 n l)(h100:l.length<=100)(k0:Option J)(kr:ByteArray->Option J):∀(M i:Nat),i<=l.length->l.length-i<M ->
  Z10L N k0 kr M l (l.length:Int) (i:Int)=match(l.drop i).find? gZ with
   |none=>k0
   |some x=>kr (pi (cZ ((eI x).map (ej x)))):=by
 intro M;induction M with
 |zero=>intro i _ h;omega
 |succ M ih =>
  intro i hi hM;simp only[Z10L,Z11,Z12,Z13,Z14];by_cases h:i<l.length
  ·have hx:bD n (l.getD i z3):=rI hl h;rw[gn (by rw[aD];exact dt (by omega)),fb z3 h,List.find?_cons];simp only[Z15,Z16,Z17,Z18,Z19,Z20,Z21,Z22,Z32];rw[ct (aN h),Int.toNat_natCast];have pp:bw.P ((l.getD i z3).1,((l.getD i z3).2.1,(l.getD i z3).2.2))=true:=hx.sizes;have gp:bw.g ((l.getD i z3).1,((l.getD i z3).2.1,(l.getD i z3).2.2))=if gZ (l.getD i z3)=true then((eI (l.getD i z3)).map an,true)else([],false):=rfl
   rw[ct pp,gp];cases ht:gZ (l.getD i z3);·rw[if_neg (by decide)];rw[gn (by rw[aD];rfl),a8 (by rw[bn];omega)];exact ih (i+1) (by omega) (by omega)
   ·rw[if_pos rfl,fV (by rw[aD];rfl)];simp only[Z23,Z24,Z25,Z26,Z27,Z28,Z29,Z31];have hC:=OL (l.getD i z3);have hb:=hx.bound;have h1:=hx.2.1;have hlen:=hC.len;refine(names hx _ l (eI (l.getD i z3)) (λp hp=>⟨(zA hx hC hp).2.1,(zA hx hC hp).2.2.1⟩) (by omega) N 0 (by omega) (by omega)).trans ?_;have hpos:0<(eI (l.getD i z3)).length:=by
     obtain⟨t,ht'⟩:=zx (m:=l.getD i z3) (List.range' 1 ((l.getD i z3).1.toNat-1)) [(cP (l.getD i z3) 0).1];have e:eI (l.getD i z3)=[(cP (l.getD i z3) 0).1]++t:=by rw[<-ht'];unfold eI;obtain⟨c,hc⟩:∃c,(l.getD i z3).1.toNat=c+1:=⟨(l.getD i z3).1.toNat-1,by omega⟩;rw[hc,List.range_eq_range',List.range'_succ,iZ,if_neg (by simp)];rfl
     rw[e];simp
    have p1:ku.P ((eI (l.getD i z3)).map (ej (l.getD i z3)))=true:=by show(Nat.blt 0 _&&Nat.blt _ 4611686018427387904)=true;rw[List.length_map];have a1:Nat.blt 0 (eI (l.getD i z3)).length=true:=Nat.ble_eq_true_of_le hpos;have a2:Nat.blt (eI (l.getD i z3)).length 4611686018427387904=true:=Nat.ble_eq_true_of_le (by omega);rw[a1,a2];rfl
    have hsz:∀b∈cZ ((eI (l.getD i z3)).map (ej (l.getD i z3))),b.size<=22:=λb hb'=>by obtain⟨p,hp,rfl⟩:=List.mem_map.1 ((lQ _).mem_iff.1 hb');exact O3 (zA hx hC hp).2.2.1
    have hsl:(cZ ((eI (l.getD i z3)).map (ej (l.getD i z3)))).length<=5:=by rw[(lQ _).length_eq,List.length_map];omega
    have p2:strings_Join.P (cZ ((eI (l.getD i z3)).map (ej (l.getD i z3)))) (⟨#[32]⟩:ByteArray)=true:=by
     show(Nat.ble _ 140737488355328&&Nat.ble (Lib.join _ [32]).length 140737488355328)=true;have:=DE (B:=22) (sep:=[32]) (xs:=(cZ ((eI (l.getD i z3)).map (ej (l.getD i z3)))).map (·.data.toList)) (λy hy=>by obtain⟨b,hb',rfl⟩:=List.mem_map.1 hy;have:=hsz b hb';rw[Array.length_toList];exact this)
     rw[List.length_map]at this;simp only[List.length_cons,List.length_nil]at this;rw[Bool.and_eq_true,Nat.ble_eq,Nat.ble_eq];omega
    rw[ct p1,ct p2];rfl
  ·rw[fV (by rw[aD];exact df (by omega)),List.drop_of_length_le (by omega)];rfl
end
def ok:Spec:=λm hb=>⟨200,λN hN=>by
 have gf:bS.g (m.1,(m.2.1,m.2.2))=ef m:=rfl;simp only[Z0,Z1,Z2,Z3,Z4,Z5,Z6,Z7,Z8,Z9,Z10,Z33,gf,aD];unfold g;cases hf:(ef m).2;·rfl
 ·obtain⟨h1,h2⟩:=O1 hf;refine(outer hN h1 h2 _ _ N 0 (by omega) (by omega)).trans ?_;rw[List.drop_zero,if_pos rfl];unfold pk;cases(ef m).1.find? gZ<;>rfl⟩
end bY
namespace lb
def g(m:Int×Int×List Int):Bool:=(ef m).2
def Z0{J:Type}(N:Nat)(a:MT)(kr:Bool->Option J):Option J :=
 kr (lk N ((bS.g a).2))
def Spec:Prop:=∀ (v0:MT),Ty.bd (.pair (.int .i64) (.pair (.int .i64) (.sl 0 (.int .i64)))) v0->∃N0,∀N,N0<=N->Z0 N v0 (λv2=>some ((),(v2,())))=some ((),((g v0),()))
def ok:Spec:=λm hb=>⟨0,λN hN=>by simp only[Z0,aD,g];rfl⟩
end lb
namespace eM
def g(l:List (List Int))(n:Int):Bool:=decide ((l.length:Int)=n)&&l.all λr=>decide ((r.length:Int)=n)
def Z1{J:Type}(N:Nat)(a:LL)(b:Int)(kn:LL->Int->Option J):Option J :=
 kn a b
def Z3{J:Type}(N:Nat)(a:LL)(b:Int)(kn:LL->Int->Option J)(kr:Bool->Option J):Option J :=
 cond (lk N (!(decide ((a.length:Int)=b))))
 (
  kr false)
 (
  kn a b)
def Z6{J:Type}(N:Nat)(a:LL)(b:Int)(kn:LL->I2 (Option J)):Option J :=
 kn a b 0
def Z9{J:Type}(N:Nat)(b:LL)(c a:Int)(kn:LL->I2 (Option J))(k0:Option J)(kr:Bool->Option J):Option J :=
 cond (lk N (decide (a<c)))
 (
  cond (lk N (ax a b.length)) (
   cond (lk N (!(decide (((b.getD a.toNat []).length:Int)=c))))
   (
    kr false)
   (
    kn b c (ac (a+1)))) none)
 (
  k0)
def Z8L{J:Type}(N:Nat)(k0:Option J)(kr:Bool->Option J):Nat->LL->Int->Int->Option J
 |0,_,_,_=>none
 |M+1,a,b,c=>Z9 N a b c (λa b c=>Z8L N k0 kr M a b c) k0 kr
def Z8 N a b c k0 kr:=(Z8L N k0 kr N a b c:Option J)
def Z7 N a b c kn kr:=(Z8 N a b c kn kr:Option J)
def Z5 N a b kn kr:=(Z6 N a b (λa b c=>Z7 N a b c kn kr):Option J)
def Z10{J:Type}(N:Nat) (kr:Bool->Option J):Option J :=
 kr true
def Z4 N a b kr:=(Z5 N a b (Z10 N kr) kr:Option J)
def Z2 N a b kr:=(Z3 N a b (λa b=>Z4 N a b kr) kr:Option J)
def Z0 N a b kr:=(Z1 N a b (λa b=>Z2 N a b kr):Option J)
def Spec:Prop:=∀ (v0:LL) (v1:Int),Ty.bd (.sl 0 (.sl 0 (.int .i64))) v0->∃N0,∀N,N0<=N->Z0 N v0 v1 (λv4=>some ((),(v4,())))=some ((),((g v0 v1),()))
def loop{J:Type}{N:Nat}(k0:Option J)(kr:Bool->Option J){l:List (List Int)}{n:Int}(hn:(l.length:Int)=n)(hl:l.length<=maxLen)(h0:k0=kr true):∀(M i:Nat),i<=l.length->l.length-i<M ->
  Z8L N k0 kr M l n (i:Int)=kr ((l.drop i).all λr=>decide ((r.length:Int)=n)):=by
 intro M;induction M with
 |zero=>intro i _ h;omega
 |succ M ih =>
  intro i hi hM;simp only[Z8L,Z9];by_cases h:i<l.length
  ·rw[ct (dt (by omega)),ct (aN h),Int.toNat_natCast,fb [] h,List.all_cons,a8 (by omega)];by_cases e:((l.getD i []).length:Int)=n;·rw[cf (nf e),dt e,ih (i+1) (by omega) (by omega)];rfl
   ·rw[ct (nt e),df e];rfl
  ·rw[cf (df (by omega)),List.drop_of_length_le (by omega),h0];rfl
def ok:Spec:=λl n hb=>⟨l.length+1,λN hN=>by
 simp only[Z1,Z3,Z6,Z9,Z8,Z7,Z5,Z10,Z4,Z2,Z0,aD];unfold g;by_cases h:(l.length:Int)=n;·rw[nf h,dt h];simp only[cond_false];refine(loop _ (λt=>some ((),(t,()))) h hb.1 rfl N 0 (Nat.zero_le _) (by omega)).trans ?_;rw[List.drop_zero,Bool.true_and]
 ·rw[nt h,df h];rfl⟩
end eM
namespace cv
def g(_:List Int):Bool:=true
def Z1{J:Type}(N:Nat)(a:List Int)(kn:List Int->Option J):Option J :=
 kn a
def Z3{J:Type}(N:Nat)(a:List Int)(kn:List Int->Option J)(kr:Bool->Option J):Option J :=
 cond (lk N ((kW.g a)))
 (
  kr true)
 (
  kn a)
def Z5{J:Type}(N:Nat)(a:List Int)(kn:LI->LI->ByteArray->I2 (Option J)):Option J :=
 kn (fP.g a).2.2 (fP.g a).1.2.2 (fP.g a).2.1 (fP.g a).1.1 (fP.g a).1.2.1
def Z7{J:Type}(N:Nat)(d a:LI)(e:ByteArray)(b c:Int)(kn:LI->LI->ByteArray->Bool->I4 (Option J)):Option J :=
 kn a (dj.g (b,(c,a)) d).1.2.2 e (lk N ((dj.g (b,(c,a)) d).2)) b c (dj.g (b,(c,a)) d).1.1 (dj.g (b,(c,a)) d).1.2.1
def Z9{J:Type}(N:Nat)(d a:LI)(e:ByteArray)(i:Bool)(f h b c:Int)(kn:LI->LI->I4 (Option J))(kr:Bool->Option J):Option J :=
 cond (!(i))
 (
  kr false)
 (
  cond (lk N (!(fB (bY.g (f,(h,d))) e)))
  (
   kr false)
  (
   cond (lk N (!(fB (bY.g (b,(c,a))) e)))
   (
    kr false)
   (
    cond (!(lk N ((lb.g (b,(c,a))))))
    (
     kr false)
    (
     kn d a f h b c))))
def Z11{J:Type}(N:Nat)(a b:LI)(c d e f:Int)(kn:LL->LI->I2 (Option J)):Option J :=
 kn (cn.g (e,(f,b))) a c d
def Z13{J:Type}(N:Nat)(a:LL)(c:LI)(b d:Int)(kn:LL->LI->I2 (Option J))(kr:Bool->Option J):Option J :=
 cond (!(lk N ((eM.g a b))))
 (
  kr false)
 (
  kn a c b d)
def Z16{J:Type}(N:Nat)(a:LL)(b:LI)(c d:Int)(kn:LL->LI->I3 (Option J)):Option J :=
 kn a b 0 c d
def Z20{J:Type}(N:Nat)(c:LL)(d:LI)(a b e:Int)(kn:LL->LI->I3 (Option J))(k0:Option J):Option J :=
 cond (lk N (decide (a<b)))
 (
  kn c d a b e)
 (
  k0)
def Z24{J:Type}(N:Nat)(a:LL)(b:LI)(c d e:Int)(kn:LL->LI->I4 (Option J)):Option J :=
 kn a b c 0 d e
def Z27{J:Type}(N:Nat)(b:LL)(e:LI)(a c d f:Int)(kn:LL->LI->I4 (Option J))(k2:LL->LI->I3 (Option J))(kr:Bool->Option J):Option J :=
 cond (lk N (decide (c<d)))
 (
  cond (lk N (decide (a=c)))
  (
   cond (lk N (ax a b.length)) (
    cond (lk N (ax c (b.getD a.toNat []).length)) (
     cond (lk N (!(decide (((b.getD a.toNat []).getD c.toNat 0)=2))))
     (
      kr false)
     (
      cond (lk N (!(decide (a=c))))
      (
       cond (lk N (ax a b.length)) (
        cond (lk N (ax c (b.getD a.toNat []).length)) (
         cond (lk N (decide (0<((b.getD a.toNat []).getD c.toNat 0))))
         (
          kr false)
         (
          cond (lk N (ax a b.length)) (
           cond (lk N (ax c (b.getD a.toNat []).length)) (
            cond (lk N (ax c b.length)) (
             cond (lk N (ax a (b.getD c.toNat []).length)) (
              cond (lk N (decide (3<(ac (((b.getD a.toNat []).getD c.toNat 0)*((b.getD c.toNat []).getD a.toNat 0))))))
              (
               kr false)
              (
               kn b e a (ac (c+1)) d f)) none) none) none) none)) none) none)
      (
       kn b e a (ac (c+1)) d f))) none) none)
  (
   cond (lk N (!(decide (a=c))))
   (
    cond (lk N (ax a b.length)) (
     cond (lk N (ax c (b.getD a.toNat []).length)) (
      cond (lk N (decide (0<((b.getD a.toNat []).getD c.toNat 0))))
      (
       kr false)
      (
       cond (lk N (ax a b.length)) (
        cond (lk N (ax c (b.getD a.toNat []).length)) (
         cond (lk N (ax c b.length)) (
          cond (lk N (ax a (b.getD c.toNat []).length)) (
           cond (lk N (decide (3<(ac (((b.getD a.toNat []).getD c.toNat 0)*((b.getD c.toNat []).getD a.toNat 0))))))
           (
            kr false)
           (
            kn b e a (ac (c+1)) d f)) none) none) none) none)) none) none)
   (
    kn b e a (ac (c+1)) d f)))
 (
  k2 b e a d f)
def Z26L{J:Type}(N:Nat)(k2:LL->LI->I3 (Option J))(kr:Bool->Option J):Nat->LL->LI->Int->Int->Int->Int->Option J
 |0,_,_,_,_,_,_=>none
 |M+1,a,b,c,d,e,f=>Z27 N a b c d e f (λa b c d e f=>Z26L N k2 kr M a b c d e f) k2 kr
def Z26 N a b c d e f k2 kr:=(Z26L N k2 kr N a b c d e f:Option J)
def Z25 N a b c d e f kn kr:=(Z26 N a b c d e f kn kr:Option J)
def Z23 N a b c d e kn kr:=(Z24 N a b c d e (λa b c f d e=>Z25 N a b c f d e kn kr):Option J)
def Z22 N a b c d e kn kr:=(Z23 N a b c d e kn kr:Option J)
def Z28{J:Type}(N:Nat)(a:LL)(b:LI)(c d e:Int)(kn:LL->LI->I3 (Option J)):Option J :=
 kn a b (ac (c+1)) d e
def Z21 N a b c d e kn kr:=(Z22 N a b c d e (λa b c d e=>Z28 N a b c d e kn) kr:Option J)
def Z19 N a b c d e kn k0 kr:=(Z20 N a b c d e (λa b c d e=>Z21 N a b c d e kn kr) k0:Option J)
def Z18L{J:Type}(N:Nat)(k0:Option J)(kr:Bool->Option J):Nat->LL->LI->Int->Int->Int->Option J
 |0,_,_,_,_,_=>none
 |M+1,a,b,c,d,e=>Z19 N a b c d e (λa b c d e=>Z18L N k0 kr M a b c d e) k0 kr
def Z18 N a b c d e k0 kr:=(Z18L N k0 kr N a b c d e:Option J)
def Z17 N a b c d e kn kr:=(Z18 N a b c d e kn kr:Option J)
def Z15 N a b c d kn kr:=(Z16 N a b c d (λa b e c d=>Z17 N a b e c d kn kr):Option J)
def Z29{J:Type}(N:Nat) (kr:Bool->Option J):Option J :=
 kr true
def Z14 N a b c d kr:=(Z15 N a b c d (Z29 N kr) kr:Option J)
def Z12 N a b c d kr:=(Z13 N a b c d (λa b c d=>Z14 N a b c d kr) kr:Option J)
def Z10 N a d b c e f kr:=(Z11 N a d b c e f (λg a b c=>Z12 N g a b c kr):Option J)
def Z8 N a b g h c d e f kr:=(Z9 N a b g h c d e f (λa b c d e f=>Z10 N a b c d e f kr) kr:Option J)
def Z6 N e a b c d kr:=(Z7 N e a b c d (λa f b g c d h i=>Z8 N a f b g c d h i kr):Option J)
def Z4 N a kr:=(Z5 N a (λb c d e f=>Z6 N b c d e f kr):Option J)
def Z2 N a kr:=(Z3 N a (λa=>Z4 N a kr) kr:Option J)
def Z0 N a kr:=(Z1 N a (λa=>Z2 N a kr):Option J)
def Spec:Prop:=∀ (v0:List Int),Ty.bd (.sl 0 (.int .u8)) v0->∃N0,∀N,N0<=N->Z0 N v0 (λv2=>some ((),(v2,())))=some ((),((g v0),()))
section
variable {n : Int} {S : List (Int × Int × List Int)} {t : Int × Int × List Int}
theorem move{b:List Int}(hS:Cl n S){s:bU.S}(h:dB n S t s.2):dB n S t (bU.moveS b s).2:=by
 have hb:=h.fit.bound;have hr:=aw.range (b:=b) (r:=s.1) (n:=s.2.1) (by rw[h.fit.2.1];omega) (by rw[h.fit.2.1];omega);unfold bU.moveS;by_cases hc:(gd.g s.2 (aw.g b s.1 s.2.1).2).2=true;·rw[if_pos hc,bU.mut_step hc];exact(h.mut hS (by have:=h.fit.2.1;omega)).2
 ·rw[if_neg hc];exact h
theorem walk{b:List Int}(hS:Cl n S):∀(c:Nat) {s:bU.S},dB n S t s.2->dB n S t (bU.walkS b c s).2
 |0,_,h=>h
 |c+1,s,h=>walk hS c (move hS h)
theorem moved{b:List Int}{r:Int×Int}{x:Int×Int×List Int}(hS:Cl n S)(h:dB n S t x):dB n S t (bU.g b r x).2:=by have hw:dB n S t (bU.walked b r x).2:=walk hS _ h;have hb:=hw.fit.bound;obtain⟨k,hk⟩:=Int.eq_ofNat_of_zero_le (show 0<=n by omega);have e:(bU.walked b r x).2.1=(k:Int):=hw.fit.2.1.trans hk;have hn:=cz.names (b:=b) (r:=(bU.walked b r x).1) k;show dB n S t (bV (bU.walked b r x).2 (cz.g b (bU.walked b r x).1 (bU.walked b r x).2.1).2);rw[e];exact hw.ren (by rw[hk];exact hn)
theorem PK{x:Int×Int×List Int}(hx:bD n x){k:Nat}(hk:k<n.toNat)(hz:aP (bf x k)=true):cE.g x (k:Int)=(bf x k,true):=by
 have hb5:=hx.bound;have h0:=hx.2.1;obtain⟨d,hR⟩:=hx.1;have hkk:bE (k:Int) 0 (x.1-1)=true:=by rw[cO];omega
 have hok:=hR.ok;have hal:=zf hok (k:=k) (by omega);unfold cE.g;rw[kc,hok,Int.toNat_natCast];simp only[hal];rw[hkk];simp[hz]
theorem Fy(hS:Cl n S):∀(ks:List Int) {x:Int×Int×List Int},(∀k∈ks,0<=k/\k<n)->dB n S t x->(fZ cE.g x ks).2=true/\dB n S t (fZ cE.g x ks).1
 |[],x,_,hx=>⟨rfl,hx⟩
 |k::ks,x,hk,hx=>by
  obtain⟨h1,h2⟩:=hk k List.mem_cons_self;obtain⟨k,rfl⟩:=Int.eq_ofNat_of_zero_le h1;have hkn:k<n.toNat:=by omega
  obtain⟨hz,hc⟩:=hx.mut hS hkn;have e:=PK hx.fit hkn hz;have e2:fZ cE.g x ((k:Int)::ks)=fZ cE.g (bf x k) ks:=by rw[fZ,e];exact if_pos rfl
  rw[e2];exact Fy hS ks (λk' h=>hk k' (List.mem_cons_of_mem _ h)) hc
theorem PL(hsm:∀x∈S,gG x=true){x:Int×Int×List Int}(h:dB n S t x){i j:Nat}(hi:i<n.toNat)(hj:j<n.toNat):-3<=af x i j*af x j i/\af x i j*af x j i<=0:=by obtain⟨L,h1,h2,h3,h4⟩:=OE h.fit;have hs:=hsm _ h.mem;have hn:(bO x).1=n:=h.fit.can.2.1;simp only[gG,List.all_eq_true,List.mem_range'_1,Bool.not_eq_true',decide_eq_false_iff_not]at hs;have a1:=h2 _ (bz (l:=L) (j:=i) 0 (by omega));have a2:=h2 _ (bz (l:=L) (j:=j) 0 (by omega));have:=hs (L.getD i 0) ⟨Nat.zero_le _,by rw[hn];omega⟩ (L.getD j 0) ⟨Nat.zero_le _,by rw[hn];omega⟩;unfold dL at this;rw[h4 i j hi hj,h4 j i hj hi]at this;exact⟨by omega,zq (h.fit.skew hi hj)⟩
end
def car_at(x:Int×Int×List Int){i j:Nat}(hi:i<x.1.toNat)(hj:j<x.1.toNat):(cT x).getD i []=dV x i/\(dV x i).getD j 0=fq x i j/\(cT x).length=x.1.toNat/\(dV x i).length=x.1.toNat:=by
 refine⟨?_, ?_,by simp[cT],by simp[dV]⟩;·unfold cT;rw[nr hi]
 ·unfold dV;rw[nr hj]
def PM{a b:Int}(h1:-3<=a*b)(h2:a*b<=0):-(aS a) * -(aS b)<=3/\0<=-(aS a) * -(aS b):=by
 have e:-(aS a) * -(aS b)=((a*b).natAbs:Int):=by unfold aS;rw[Int.neg_mul_neg,Int.natAbs_mul,Int.natCast_mul]
 rw[e];omega
section
variable {J : Type} {N : Nat} {n : Int} {S : List (Int × Int × List Int)} {t : Int × Int × List Int} {x : Int × Int × List Int} {d : List Int} {q : Int}
theorem inner(hsm:∀x∈S,gG x=true)(h:dB n S t x)(k2:List (List Int)->List Int->Int->Int->Int->Option J)(kr:Bool->Option J){i:Nat}(hi:i<n.toNat):∀(M j:Nat),j<=n.toNat->n.toNat-j<M ->
  Z26L N k2 kr M (cT x) d (i:Int) (j:Int) n q=k2 (cT x) d (i:Int) n q:=by
 have hb:=h.fit.bound;have h0:=h.fit.2.1;intro M;induction M with
 |zero=>intro j _ h;omega
 |succ M ih =>
  intro j hj hM;simp only[Z26L,Z27];by_cases hl:j<n.toNat
  ·obtain⟨a1,a2,a3,a4⟩:=car_at x (i:=i) (j:=j) (by omega) (by omega);obtain⟨c1,c2,_,c4⟩:=car_at x (i:=j) (j:=i) (by omega) (by omega);have b1:ax (i:Int) (cT x).length=true:=aN (by omega);have b2:ax (j:Int) (cT x).length=true:=aN (by omega);have b3:ax (j:Int) (dV x i).length=true:=aN (by omega);have b4:ax (i:Int) (dV x j).length=true:=aN (by omega);have hw:ac ((j:Int)+1)=((j+1:Nat):Int):=a8 (by rw[bn];omega);have nx:=ih (j+1) (by omega) (by omega);have d1:decide ((j:Int)<n)=true:=dt (by omega);by_cases e:i=j;·subst e;have e2:fq x i i=2:=if_pos rfl;simp only[aD,d1,b1,b3,a1,a2,e2,hw,nx,Int.toNat_natCast,decide_true,Bool.not_true,cond_true,cond_false]
   ·have e1:decide ((i:Int)=(j:Int))=false:=df (by omega);have e2:fq x i j=-(aS (af x i j)):=if_neg e;have e3:fq x j i=-(aS (af x j i)):=if_neg λe'=>e e'.symm;obtain⟨p1,p2⟩:=PL hsm h hi hl;obtain⟨q1,q2⟩:=PM p1 p2;have z1:decide (0<fq x i j)=false:=df (by rw[e2];unfold aS;omega);have z2:ac (fq x i j*fq x j i)=fq x i j*fq x j i:=by rw[e2,e3];exact aR (by omega) (by omega)
    have z3:decide (3<fq x i j*fq x j i)=false:=df (by rw[e2,e3];omega);simp only[aD,d1,e1,b1,b2,b3,b4,a1,a2,c1,c2,z1,z2,z3,hw,nx,Int.toNat_natCast,Bool.not_false,cond_true,cond_false]
  ·rw[fV (by rw[aD];exact df (by omega))]
theorem outer(hN:20<=N)(hsm:∀x∈S,gG x=true)(h:dB n S t x)(k0:Option J)(kr:Bool->Option J):∀(M i:Nat),i<=n.toNat->n.toNat-i<M ->
  Z18L N k0 kr M (cT x) d (i:Int) n q=k0:=by
 have hb:=h.fit.bound;intro M;induction M with
 |zero=>intro i _ h;omega
 |succ M ih =>
  intro i hi hM;simp only[Z18L,Z19,Z20];by_cases hl:i<n.toNat;·rw[gn (by rw[aD];exact dt (by omega))];simp only[Z21,Z22,Z23,Z24,Z25,Z26];refine(inner hsm h _ kr hl N 0 (Nat.zero_le _) (by omega)).trans ?_;simp only[Z28];rw[a8 (by rw[bn];omega)];exact ih (i+1) (by omega) (by omega)
  ·rw[fV (by rw[aD];exact df (by omega))]
end
def ok:Spec:=λb hb=>⟨400,λN hN=>by
 simp only[Z0,Z1,Z2,Z3,aD];cases hbig:kW.g b
 ·rw[cond_false];have h0:=fP.cur0 hb.1;obtain⟨n,E,S,hT,hR,ht,hn⟩:=PA (b:=b) (r:=bP.g b) (most:=4) (by omega) (by omega);have hm:dB n S (spec_dTree.g b (bP.g b) 4).2.1 (cD.g b (bP.g b) 4).2.1:=moved hT.cl hR;have em:(fP.g b).1=(cD.g b (bP.g b) 4).2.1:=rfl;have en:(fP.g b).2.1=(spec_dTree.g b (bP.g b) 4).2.2:=rfl;have ek:(fP.g b).2.2=(db.g b (cD.g b (bP.g b) 4).1 (cD.g b (bP.g b) 4).2.1.1 6).2:=rfl;have hbd:=hm.fit.bound;have hks:=db.range (b:=b) (r:=(cD.g b (bP.g b) 4).1) (n:=(cD.g b (bP.g b) 4).2.1.1) (most:=6) (by rw[hm.fit.2.1];omega) (by rw[hm.fit.2.1];omega) (by omega);simp only[Z4,Z5,Z6,Z7,aD];rw[em,en,ek];generalize(db.g b (cD.g b (bP.g b) 4).1 (cD.g b (bP.g b) 4).2.1.1 6).2=ks at hks;generalize(cD.g b (bP.g b) 4).2.1=m at hm hks;generalize(spec_dTree.g b (bP.g b) 4).2.2=name at hn;generalize(spec_dTree.g b (bP.g b) 4).2.1=tr at hR ht hm;obtain⟨w1,w2⟩:=Fy hT.cl ks (λk hk=>by have:=hks.1 k hk;rw[hm.fit.2.1]at this;exact this) hm;have g4:dj.g (m.1,(m.2.1,m.2.2)) ks=fZ cE.g m ks:=by unfold dj.g;rw[show((m.1,(m.2.1,m.2.2)):Int×Int×List Int)=m from rfl,kc,hm.fit.ok,dt (by omega)];rfl
  rw[g4,w1];generalize(fZ cE.g m ks).1=x at w2;obtain⟨t1,t2⟩:=hm.type hT ht;obtain⟨u1,u2⟩:=w2.type hT ht;have g1:bY.g (m.1,(m.2.1,m.2.2))=name:=by show(if(ef m).2=true then pk ej (ef m).1 else ByteArray.empty)=name;rw[if_pos t1,t2,hn]
  have g2:bY.g (x.1,(x.2.1,x.2.2))=name:=by show(if(ef x).2=true then pk ej (ef x).1 else ByteArray.empty)=name;rw[if_pos u1,u2,hn]
  have g3:lb.g (x.1,(x.2.1,x.2.2))=true:=u1;have g5:cn.g (x.1,(x.2.1,x.2.2))=cT x:=by unfold cn.g;rw[show((x.1,(x.2.1,x.2.2)):Int×Int×List Int)=x from rfl,kc,w2.fit.ok];rfl
  have sE:fB name name=true:=by simp[fB]
  have hx0:=w2.fit.2.1;have g6:eM.g (cT x) m.1=true:=by unfold eM.g;rw[dt (by rw[hm.fit.2.1];simp[cT];omega),Bool.true_and,List.all_eq_true];intro r hr;obtain⟨i,_,rfl⟩:=List.mem_map.1 hr;exact dt (by rw[hm.fit.2.1];simp[dV];omega)
  simp only[Z8,Z9,g1,g2,g3,sE,Bool.not_true,cond_false,aD,Z10,Z11,g5,Z12,Z13,g6,Z14,Z15,Z16,Z17,Z18];rw[hm.fit.2.1];refine(outer (by omega) hT.small w2 _ _ N 0 (Nat.zero_le _) (by omega)).trans ?_;rfl
 ·rfl⟩
end cv
end
end Go.Fw
