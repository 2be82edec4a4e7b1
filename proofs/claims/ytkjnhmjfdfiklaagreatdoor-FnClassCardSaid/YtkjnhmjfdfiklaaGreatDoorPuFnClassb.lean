/- The plain part: what the functions compute, in lists and numbers. Nothing is assumed. -/
import Derived.Test.YtkjnhmjfdfiklaaGreatDoorFwd
import Derived.Test.YtkjnhmjfdfiklaaGreatDoorPuFnClassa
noncomputable section
set_option linter.defProp false
set_option linter.defProp false
set_option linter.unusedSectionVars false
set_option linter.unusedVariables false
set_option linter.unusedSimpArgs false
set_option maxRecDepth 100000
namespace Go.Fw
section
variable {J : Type}
namespace bV
def g(n:Int):ByteArray:=cr n
def P(n:Int):Bool:=eH n
def Z1{J:Type}(N:Nat)(a:Int)(kn:Int->Option J):Option J :=
 kn a
def Z3{J:Type}(N:Nat)(a:Int)(kn:List Int->Int->Option J):Option J :=
 kn ([]:List Int) a
def Z5{J:Type}(N:Nat)(b:List Int)(a:Int)(kn:List Int->I2 (Option J)):Option J :=
 kn b a a
def Z9{J:Type}(N:Nat)(b:List Int)(c a:Int)(kn:List Int->I2 (Option J))(k0:List Int->Int->Option J):Option J :=
 cond (lk N (!(decide (a=0))))
 (
  cond (lk N (true)) (
   cond (lk N (decide ((Int.tmod a 10)<0)))
   (
    cond (lk N (Nat.blt (b.length+([(w8 ((ac (48+(ac (0-(Int.tmod a 10)))))))]:List Int).length) 1099511627776)) (
     cond (lk N (true)) (
      kn (b++([(w8 ((ac (48+(ac (0-(Int.tmod a 10)))))))]:List Int)) c (ac (Int.tdiv a 10))) none) none)
   (
    cond (lk N (Nat.blt (b.length+([(w8 ((ac (48+(Int.tmod a 10)))))]:List Int).length) 1099511627776)) (
     cond (lk N (true)) (
      kn (b++([(w8 ((ac (48+(Int.tmod a 10)))))]:List Int)) c (ac (Int.tdiv a 10))) none) none)) none)
 (
  cond (lk N (decide ((b.length:Int)=0)))
  (
   cond (lk N (true)) (
    cond (lk N (decide ((Int.tmod a 10)<0)))
    (
     cond (lk N (Nat.blt (b.length+([(w8 ((ac (48+(ac (0-(Int.tmod a 10)))))))]:List Int).length) 1099511627776)) (
      cond (lk N (true)) (
       kn (b++([(w8 ((ac (48+(ac (0-(Int.tmod a 10)))))))]:List Int)) c (ac (Int.tdiv a 10))) none) none)
    (
     cond (lk N (Nat.blt (b.length+([(w8 ((ac (48+(Int.tmod a 10)))))]:List Int).length) 1099511627776)) (
      cond (lk N (true)) (
       kn (b++([(w8 ((ac (48+(Int.tmod a 10)))))]:List Int)) c (ac (Int.tdiv a 10))) none) none)) none)
  (
   k0 b c))
def Z8L{J:Type}(N:Nat)(k0:List Int->Int->Option J):Nat->List Int->Int->Int->Option J
 |0,_,_,_=>none
 |M+1,a,b,c=>Z9 N a b c (λa b c=>Z8L N k0 M a b c) k0
def Z8 N a b c k0:=(Z8L N k0 N a b c:Option J)
def Z7 N a b c kn:=(Z8 N a b c kn:Option J)
def Z11{J:Type}(N:Nat)(a:List Int)(b:Int)(kn:List Int->List Int->Int->Option J):Option J :=
 kn a ([]:List Int) b
def Z13{J:Type}(N:Nat)(b a:List Int)(c:Int)(kn:List Int->List Int->Option J):Option J :=
 cond (lk N (decide (c<0)))
 (
  cond (lk N (Nat.blt (a.length+([45]:List Int).length) 1099511627776)) (
   kn b (a++([45]:List Int))) none)
 (
  kn b a)
def Z16{J:Type}(N:Nat)(a b:List Int)(kn:List Int->List Int->Int->Option J):Option J :=
 kn a b (ac ((a.length:Int)-1))
def Z19{J:Type}(N:Nat)(b c:List Int)(a:Int)(kn:List Int->List Int->Int->Option J)(k2:List Int->Option J):Option J :=
 cond (lk N (decide (0<=a)))
 (
  cond (lk N (ax a b.length)) (
   cond (lk N (Nat.blt (c.length+([(b.getD a.toNat 0)]:List Int).length) 1099511627776)) (
    kn b (c++([(b.getD a.toNat 0)]:List Int)) (ac (a-1))) none) none)
 (
  k2 c)
def Z18L{J:Type}(N:Nat)(k2:List Int->Option J):Nat->List Int->List Int->Int->Option J
 |0,_,_,_=>none
 |M+1,a,b,c=>Z19 N a b c (λa b c=>Z18L N k2 M a b c) k2
def Z18 N a b c k2:=(Z18L N k2 N a b c:Option J)
def Z17 N a b c kn:=(Z18 N a b c kn:Option J)
def Z15 N a b kn:=(Z16 N a b (λa b c=>Z17 N a b c kn):Option J)
def Z20{J:Type}(N:Nat)(a:List Int)(kr:ByteArray->Option J):Option J :=
 kr (strOfNums a)
def Z14 N b a kr:=(Z15 N b a (λa=>Z20 N a kr):Option J)
def Z12 N a b c kr:=(Z13 N a b c (λa b=>Z14 N a b kr):Option J)
def Z10 N a b kr:=(Z11 N a b (λa c b=>Z12 N a c b kr):Option J)
def Z6 N a b c kr:=(Z7 N a b c (λa b=>Z10 N a b kr):Option J)
def Z4 N a b kr:=(Z5 N a b (λa b c=>Z6 N a b c kr):Option J)
def Z2 N a kr:=(Z3 N a (λb a=>Z4 N b a kr):Option J)
def Z0 N a kr:=(Z1 N a (λa=>Z2 N a kr):Option J)
def Spec:Prop:=∀ (v0:Int),P v0=true->∃N0,∀N,N0<=N->Z0 N v0 (λv2=>some ((),(v2,())))=some ((),((g v0),()))
def done{J:Type}{N M:Nat}(k0:List Int->Int->Option J){ds:List Int}(hd:ds≠[])(n:Int):Z8L N k0 (M+1) ds n 0=k0 ds n:=by have hl:ds.length≠0:=λh=>hd (List.length_eq_zero_iff.1 h);simp only[Z8L,Z9];rw[cf (show(!decide True)=false from rfl),cf (df (by omega))]
def loop{J:Type}{N:Nat}(k0:List Int->Int->Option J)(n:Int):∀(c M:Nat) (ds:List Int) (k:Int),k.natAbs<10 ^ c->k.natAbs<9223372036854775809->1<=c->c<M->ds.length+c<=100->(k≠0\/ds=[]) ->
  Z8L N k0 M ds n k=k0 (ds++fJ k.natAbs) n:=by
 intro c;induction c with
 |zero=>intro M ds k _ _ h;omega
 |succ c ih =>
  intro M ds k hk hk2 _ hM hd hor;obtain⟨M,rfl⟩:∃m,M=m+1:=⟨M-1,by omega⟩;have hq:ac (Int.tdiv k 10)=Int.tdiv k 10:=by have:=yt k;exact aM (by omega) (by omega)
  have tU:Z8L N k0 (M+1) ds n k=Z8L N k0 M (ds++[48+((k.natAbs%10:Nat):Int)]) n (Int.tdiv k 10):=by
   have hb:∀x:Int,Nat.blt (ds.length+([x]:List Int).length) 1099511627776=true:=λx=>Nat.ble_eq_true_of_le (by simp;omega);simp only[Z8L,Z9,hq,hb,aD,cond_true];by_cases hk0:k=0;·subst hk0;have hds:ds=[]:=hor.resolve_left (by simp);subst hds;rfl
   ·rw[nt hk0,cond_true];by_cases hneg:Int.tmod k 10<0;·rw[dt hneg,cond_true,Nu hneg]
    ·rw[df hneg,cond_false,Nt hneg]
  rw[tU];by_cases hsm:k.natAbs<10
  ·have e0:Int.tdiv k 10=0:=by have:=yt k;omega
   obtain⟨M,rfl⟩:∃m,M=m+1:=⟨M-1,by omega⟩;rw[e0,done k0 (by simp) n,Dk hsm,Nat.mod_eq_of_lt hsm]
  ·have hc:1<=c:=by
    rcases Nat.eq_zero_or_pos c with h|h;·subst h;omega
    ·exact h
   have hd2:=yt k;rw[ih M _ (Int.tdiv k 10) (by rw[hd2,Nat.div_lt_iff_lt_mul (by omega),<-Nat.pow_succ];exact hk) (by omega) hc (by omega) (by simp;omega) (.inl (by omega)),hd2,Dl hsm,List.append_assoc];rfl
def back{J:Type}{N:Nat}(k2:List Int->Option J){ds:List Int}(hd:ds.length<=100):∀(j M:Nat) (out:List Int),j<=ds.length->j<M->out.length+j<=1000->Z18L N k2 M ds out ((j:Int)-1)=k2 (out++(ds.take j).reverse):=by
 intro j;induction j with
 |zero =>intro M out _ hM _;obtain⟨M,rfl⟩:∃m,M=m+1:=⟨M-1,by omega⟩;simp only[Z18L,Z19];rw[cf (df (by omega)),List.take_zero,List.reverse_nil,List.append_nil]
 |succ j ih =>
  intro M out hj hM ho;obtain⟨M,rfl⟩:∃m,M=m+1:=⟨M-1,by omega⟩;have e:((j+1:Nat):Int)-1=(j:Int):=by omega
  have hb:∀x:Int,Nat.blt (out.length+([x]:List Int).length) 1099511627776=true:=λx=>Nat.ble_eq_true_of_le (by simp;omega);simp only[Z18L,Z19,e];rw[ct (dt (by omega)),ct (aN hj),ct (hb _),Int.toNat_natCast,aM (by omega) (by omega),ih M _ (by omega) (by omega) (by simp;omega),<-ym 0 hj,List.reverse_append,List.append_assoc];rfl
def OH{u:Nat}:∀(c:Nat),u<10 ^ c->1<=c->(fJ u).length<=c:=by
 intro c;induction c generalizing u with
 |zero=>intro _ h;omega
 |succ c ih =>
  intro h _;by_cases hs:u<10;·rw[Dk hs];simp
  ·rw[Dl hs,List.length_cons];have hc:1<=c:=by
    rcases Nat.eq_zero_or_pos c with h'|h';·subst h';omega
    ·exact h'
   have:=ih (u:=u / 10) (by rw[Nat.div_lt_iff_lt_mul (by omega),<-Nat.pow_succ];exact h) hc;omega
def ok:Spec:=λn hp=>⟨200,λN hN=>by
 simp only[P,eH,Bool.and_eq_true,decide_eq_true_eq]at hp;have h19:n.natAbs<10 ^ 19:=by
  have:(10:Nat) ^ 19=10000000000000000000:=by decide
  omega
 have hlen:=OH 19 h19 (by omega);simp only[Z0,Z1,Z2,Z3,Z4,Z5,Z6,Z7,Z8];refine(loop _ n 19 N [] n h19 (by omega) (by omega) (by omega) (by simp) (.inr rfl)).trans ?_;rw[List.nil_append];have hl0:fJ n.natAbs=(fJ n.natAbs).take (fJ n.natAbs).length:=by rw[List.take_length]
 have fin:∀out:List Int,out.length<=10->Z18L N (λout6=>some ((),(strOfNums out6,()))) N (fJ n.natAbs) out (((fJ n.natAbs).length:Int)-1)=some ((),(strOfNums (out++(fJ n.natAbs).reverse),())):=λout ho=>by rw[back _ (by omega) _ N out (Nat.le_refl _) (by omega) (by omega),List.take_length]
 simp only[Z10,Z11,Z12,Z13];by_cases hneg:n<0;·rw[ct (dt hneg),ct (show Nat.blt (([]:List Int).length+([45]:List Int).length) 1099511627776=true from rfl)];simp only[Z14,Z15,Z16,Z17,Z18,Z20];rw[aM (by omega) (by omega),fin _ (by simp),g,cr,Lib.itoa,if_pos hneg];have:=Nr n.natAbs;simp only[List.nil_append,List.singleton_append];rw[this]
 ·rw[cf (df hneg)];simp only[Z14,Z15,Z16,Z17,Z18,Z20];rw[aM (by omega) (by omega),fin _ (by simp),g,cr,Lib.itoa,if_neg hneg,List.nil_append,Nq,show n.natAbs=n.toNat by omega]⟩
end bV
namespace spec_dTree
def P(b:List Int)(r:Int×Int)(most:Int):Bool:=bc b r&&bz most 1 4
abbrev S:=(Int×Int)×(Int×Int×List Int)
def chainS(b:List Int)(s:S)(i:Nat):S:=aG.g b s.1 s.2 (i:Int) ((i:Int)+1) 1 1
def starS(b:List Int)(s:S)(i:Nat):S:=aG.g b s.1 s.2 0 (i:Int) 1 1
def chainG(b:List Int)(r:Int×Int)(n c:Nat):S:=(List.range c).foldl (chainS b) (r,az.g (n:Int))
def zd(b:List Int)(r:Int×Int):S:=((List.range 4).drop 1).foldl (starS b) (r,az.g 4)
def f1(b:List Int)(r:Int×Int):S:=aG.g b r (az.g 4) 0 1 1 1
def f2(b:List Int)(r:Int×Int):S:=aG.g b (f1 b r).1 (f1 b r).2 1 2 2 1
def f3(b:List Int)(r:Int×Int):S:=aG.g b (f2 b r).1 (f2 b r).2 2 3 1 1
def endB(b:List Int)(s:S)(n:Nat)(x y:Int):S:=aG.g b s.1 s.2 ((n:Int)-2) ((n:Int)-1) x y
def qT:List ByteArray:=[ByteArray.empty,⟨#[65,49]⟩,⟨#[65,49,32,65,49]⟩,⟨#[65,49,32,65,49,32,65,49]⟩,⟨#[65,49,32,65,49,32,65,49,32,65,49]⟩,⟨#[65,49,32,65,49,32,65,49,32,65,49,32,65,49]⟩]
def k1(k n most:Int):Int:=cond ((decide (4<=k)&&(decide (k<=6)&&decide (n<2)))||(decide (k=7)&&decide (most<2))) 0 k
def k2(k most:Int):Int:=cond ((decide (k=8)&&decide (most<4))||((decide (k=9)&&decide (most<4))||(decide (k=10)&&decide (most<3)))) 1 k
def tree(b:List Int)(r:Int×Int)(k:Int)(n:Nat):S×ByteArray :=
 if k=4 then(endB b (chainG b r n (n-2)) n 2 1,⟨#[66]⟩++cr n)else
 if k=5 then(if n=2 then(endB b (chainG b r n (n-2)) n 2 1,⟨#[66]⟩++cr n)else(endB b (chainG b r n (n-2)) n 1 2,⟨#[67]⟩++cr n))else
 if k=6 then((r,az.g n),qT.getD n ByteArray.empty)else
 if k=7 then(aG.g b r (az.g 2) 0 1 3 1,⟨#[71,50]⟩)else
 if k=8 then(zd b r,⟨#[68,52]⟩)else
 if k=9 then(f3 b r,⟨#[70,52]⟩)else
 if k=10 then(aG.g b r (az.g 3) 0 1 1 1,⟨#[65,49,32,65,50]⟩)else
 (chainG b r n (n-1),⟨#[65]⟩++cr n)
def g(b:List Int)(r:Int×Int)(most:Int):(Int×Int)×(Int×Int×List Int)×ByteArray :=
 let k:=ah.g b r 11;let n:=ah.g b k.1 most;let t:=tree b n.1 (k2 (k1 k.2 (1+n.2) most) most) (1+n.2).toNat;(t.1.1,t.1.2,t.2)
def Z1{J:Type}(N:Nat)(b0:List Int)(r0:Int×Int)(a:Int)(kn:Int->List Int->I4 (Option J)):Option J :=
 kn a b0 r0.1 r0.2 0 0
def Z3{J:Type}(N:Nat)(d:Int)(a:List Int)(b c e f:Int)(kn:I2 (List Int->I4 (Option J))):Option J :=
 cond (lk N (ah.P a (b,c) 11)) (
  kn d (ah.g a (b,c) 11).2 a (ah.g a (b,c) 11).1.1 (ah.g a (b,c) 11).1.2 e f) none
def Z5{J:Type}(N:Nat)(a e:Int)(b:List Int)(c d f h:Int)(kn:I3 (List Int->I4 (Option J))):Option J :=
 cond (lk N (ah.P b (c,d) a)) (
  kn a e (ac (1+(ah.g b (c,d) a).2)) b (ah.g b (c,d) a).1.1 (ah.g b (c,d) a).1.2 f h) none
def Z7{J:Type}(N:Nat)(a b c:Int)(d:List Int)(e f g h:Int)(kn:I3 (List Int->I4 (Option J))):Option J :=
 cond (lk N (decide (4<=b)))
 (
  cond (lk N (decide (b<=6)))
  (
   cond (lk N (decide (c<2)))
   (
    kn a 0 c d e f g h)
   (
    cond (lk N (decide (b=7)))
    (
     cond (lk N (decide (a<2)))
     (
      kn a 0 c d e f g h)
     (
      kn a b c d e f g h))
    (
     kn a b c d e f g h)))
  (
   cond (lk N (decide (b=7)))
   (
    cond (lk N (decide (a<2)))
    (
     kn a 0 c d e f g h)
    (
     kn a b c d e f g h))
   (
    kn a b c d e f g h)))
 (
  cond (lk N (decide (b=7)))
  (
   cond (lk N (decide (a<2)))
   (
    kn a 0 c d e f g h)
   (
    kn a b c d e f g h))
  (
   kn a b c d e f g h))
def Z9{J:Type}(N:Nat)(h a b:Int)(c:List Int)(d e f g:Int)(kn:I2 (List Int->I4 (Option J))):Option J :=
 cond (lk N (decide (a=8)))
 (
  cond (lk N (decide (h<4)))
  (
   kn 1 b c d e f g)
  (
   cond (lk N (decide (a=9)))
   (
    cond (lk N (decide (h<4)))
    (
     kn 1 b c d e f g)
    (
     cond (lk N (decide (a=10)))
     (
      cond (lk N (decide (h<3)))
      (
       kn 1 b c d e f g)
      (
       kn a b c d e f g))
     (
      kn a b c d e f g)))
   (
    cond (lk N (decide (a=10)))
    (
     cond (lk N (decide (h<3)))
     (
      kn 1 b c d e f g)
     (
      kn a b c d e f g))
    (
     kn a b c d e f g))))
 (
  cond (lk N (decide (a=9)))
  (
   cond (lk N (decide (h<4)))
   (
    kn 1 b c d e f g)
   (
    cond (lk N (decide (a=10)))
    (
     cond (lk N (decide (h<3)))
     (
      kn 1 b c d e f g)
     (
      kn a b c d e f g))
    (
     kn a b c d e f g)))
  (
   cond (lk N (decide (a=10)))
   (
    cond (lk N (decide (h<3)))
    (
     kn 1 b c d e f g)
    (
     kn a b c d e f g))
   (
    kn a b c d e f g)))
def Z12{J:Type}(N:Nat)(a b:Int)(c:List Int)(d e f g:Int)(kn:I3 (List Int->I4 (Option J))):Option J :=
 kn a b a c d e f g
def Z15{J:Type}(N:Nat)(b c a:Int)(d:List Int)(e f g h:Int)(kn:I3 (Bool->List Int->I4 (Option J))):Option J :=
 cond (lk N (decide (a=4)))
 (
  kn b c a (lk N (decide (a=4))) d e f g h)
 (
  kn b c a (lk N (decide (a=5))) d e f g h)
def Z18{J:Type}(N:Nat)(b a i:Int)(j:Bool)(c:List Int)(d e f h:Int)(kn:LI->I2 (List Int->I6 (Option J))):Option J :=
 cond (lk N (az.P a)) (
  kn (az.g a).2.2 b a c d e f h (az.g a).1 (az.g a).2.1) none
def Z21{J:Type}(N:Nat)(a:LI)(b c:Int)(d:List Int)(e f g h i j:Int)(kn:LI->I3 (List Int->I6 (Option J))):Option J :=
 kn a b c 0 d e f g h i j
def Z24{J:Type}(N:Nat)(e:LI)(j i a:Int)(b:List Int)(f h l m c d:Int)(kn:LI->I3 (List Int->I6 (Option J)))(k1:LI->I2 (List Int->I6 (Option J))):Option J :=
 cond (lk N (decide ((ac (a+2))<i)))
 (
  cond (lk N (aG.P b (f,h) (c,(d,e)) a (ac (a+1)) 1 1)) (
   kn (aG.g b (f,h) (c,(d,e)) a (ac (a+1)) 1 1).2.2.2 j i (ac (a+1)) b (aG.g b (f,h) (c,(d,e)) a (ac (a+1)) 1 1).1.1 (aG.g b (f,h) (c,(d,e)) a (ac (a+1)) 1 1).1.2 l m c d) none)
 (
  k1 e j i b f h l m c d)
def Z23L{J:Type}(N:Nat)(k1:LI->I2 (List Int->I6 (Option J))):Nat->LI->Int->Int->Int->List Int->Int->Int->Int->Int->Int->Int->Option J
 |0,_,_,_,_,_,_,_,_,_,_,_=>none
 |M+1,a,b,c,d,e,f,g,h,i,j,l=>Z24 N a b c d e f g h i j l (λa b c d e f g h i j l=>Z23L N k1 M a b c d e f g h i j l) k1
def Z23 N a b c d e f g h i j l k1:=(Z23L N k1 N a b c d e f g h i j l:Option J)
def Z22 N a b c d e f g h i j l kn:=(Z23 N a b c d e f g h i j l kn:Option J)
def Z20 N a b c d e f g h i j kn:=(Z21 N a b c d e f g h i j (λa b c l d e f g h i j=>Z22 N a b c l d e f g h i j kn):Option J)
def Z25{J:Type}(N:Nat)(e:LI)(i a:Int)(b:List Int)(f h j l c d:Int)(kr:LI->ByteArray->I2 (List Int->I2 (Option J))):Option J :=
 cond (lk N (decide (i=4)))
 (
  cond (lk N (aG.P b (f,h) (c,(d,e)) (ac (a-2)) (ac (a-1)) 2 1)) (
   cond (lk N (bV.P a)) (
    bo (
     cond (Nat.blt ((⟨#[66]⟩:ByteArray).size+(bV.g a).size) 4611686018427387904) (
      kr (aG.g b (f,h) (c,(d,e)) (ac (a-2)) (ac (a-1)) 2 1).2.2.2 ((⟨#[66]⟩:ByteArray)++(bV.g a)) c d b (aG.g b (f,h) (c,(d,e)) (ac (a-2)) (ac (a-1)) 2 1).1.1 (aG.g b (f,h) (c,(d,e)) (ac (a-2)) (ac (a-1)) 2 1).1.2) none)) none) none)
 (
  cond (lk N (decide (a=2)))
  (
   cond (lk N (aG.P b (f,h) (c,(d,e)) (ac (a-2)) (ac (a-1)) 2 1)) (
    cond (lk N (bV.P a)) (
     bo (
      cond (Nat.blt ((⟨#[66]⟩:ByteArray).size+(bV.g a).size) 4611686018427387904) (
       kr (aG.g b (f,h) (c,(d,e)) (ac (a-2)) (ac (a-1)) 2 1).2.2.2 ((⟨#[66]⟩:ByteArray)++(bV.g a)) c d b (aG.g b (f,h) (c,(d,e)) (ac (a-2)) (ac (a-1)) 2 1).1.1 (aG.g b (f,h) (c,(d,e)) (ac (a-2)) (ac (a-1)) 2 1).1.2) none)) none) none)
  (
   cond (lk N (aG.P b (f,h) (c,(d,e)) (ac (a-2)) (ac (a-1)) 1 2)) (
    cond (lk N (bV.P a)) (
     bo (
      cond (Nat.blt ((⟨#[67]⟩:ByteArray).size+(bV.g a).size) 4611686018427387904) (
       kr (aG.g b (f,h) (c,(d,e)) (ac (a-2)) (ac (a-1)) 1 2).2.2.2 ((⟨#[67]⟩:ByteArray)++(bV.g a)) c d b (aG.g b (f,h) (c,(d,e)) (ac (a-2)) (ac (a-1)) 1 2).1.1 (aG.g b (f,h) (c,(d,e)) (ac (a-2)) (ac (a-1)) 1 2).1.2) none)) none) none))
def Z19 N a b c d e f g h i j kr:=(Z20 N a b c d e f g h i j (λa b c d e f g h i j=>Z25 N a b c d e f g h i j kr):Option J)
def Z17 N a b h i c d e f g kr:=(Z18 N a b h i c d e f g (λj a b c d e f g l m=>Z19 N j a b c d e f g l m kr):Option J)
def Z27{J:Type}(N:Nat)(h b a:Int)(i:Bool)(c:List Int)(d e f g:Int)(kn:I2 (Bool->List Int->I4 (Option J))):Option J :=
 kn b a (lk N (decide (a=6))) c d e f g
def Z29{J:Type}(N:Nat)(a e:Int)(f:Bool)(b:List Int)(c d h i:Int)(kr:LI->ByteArray->I2 (List Int->I2 (Option J))):Option J :=
 cond (lk N (az.P a)) (
  ce (
   cond (lk N (ax a ([ByteArray.empty,(⟨#[65,49]⟩:ByteArray),(⟨#[65,49,32,65,49]⟩:ByteArray),(⟨#[65,49,32,65,49,32,65,49]⟩:ByteArray),(⟨#[65,49,32,65,49,32,65,49,32,65,49]⟩:ByteArray),(⟨#[65,49,32,65,49,32,65,49,32,65,49,32,65,49]⟩:ByteArray)]:List ByteArray).length)) (
    bo (
     kr (az.g a).2.2 (([ByteArray.empty,(⟨#[65,49]⟩:ByteArray),(⟨#[65,49,32,65,49]⟩:ByteArray),(⟨#[65,49,32,65,49,32,65,49]⟩:ByteArray),(⟨#[65,49,32,65,49,32,65,49,32,65,49]⟩:ByteArray),(⟨#[65,49,32,65,49,32,65,49,32,65,49,32,65,49]⟩:ByteArray)]:List ByteArray).getD a.toNat ByteArray.empty) (az.g a).1 (az.g a).2.1 b c d)) none)
  (
   cond (lk N (ax a ([ByteArray.empty,(⟨#[65,49]⟩:ByteArray),(⟨#[65,49,32,65,49]⟩:ByteArray),(⟨#[65,49,32,65,49,32,65,49]⟩:ByteArray),(⟨#[65,49,32,65,49,32,65,49,32,65,49]⟩:ByteArray),(⟨#[65,49,32,65,49,32,65,49,32,65,49,32,65,49]⟩:ByteArray)]:List ByteArray).length)) (
    kr (az.g a).2.2 (([ByteArray.empty,(⟨#[65,49]⟩:ByteArray),(⟨#[65,49,32,65,49]⟩:ByteArray),(⟨#[65,49,32,65,49,32,65,49]⟩:ByteArray),(⟨#[65,49,32,65,49,32,65,49,32,65,49]⟩:ByteArray),(⟨#[65,49,32,65,49,32,65,49,32,65,49,32,65,49]⟩:ByteArray)]:List ByteArray).getD a.toNat ByteArray.empty) (az.g a).1 (az.g a).2.1 b c d) none)) none
def Z31{J:Type}(N:Nat)(b a:Int)(h:Bool)(c:List Int)(d e f g:Int)(kn:I2 (Bool->List Int->I4 (Option J))):Option J :=
 kn b a (lk N (decide (a=7))) c d e f g
def Z33{J:Type}(N:Nat)(d e:Int)(f:Bool)(a:List Int)(b c h i:Int)(kr:LI->ByteArray->I2 (List Int->I2 (Option J))):Option J :=
 cond (lk N (az.P 2)) (
  cond (lk N (aG.P a (b,c) (az.g 2) 0 1 3 1)) (
   kr (aG.g a (b,c) (az.g 2) 0 1 3 1).2.2.2 (⟨#[71,50]⟩:ByteArray) (az.g 2).1 (az.g 2).2.1 a (aG.g a (b,c) (az.g 2) 0 1 3 1).1.1 (aG.g a (b,c) (az.g 2) 0 1 3 1).1.2) none) none
def Z35{J:Type}(N:Nat)(b a:Int)(h:Bool)(c:List Int)(d e f g:Int)(kn:I2 (Bool->List Int->I4 (Option J))):Option J :=
 kn b a (lk N (decide (a=8))) c d e f g
def Z38{J:Type}(N:Nat)(f h:Int)(i:Bool)(a:List Int)(b c d e:Int)(kn:LI->List Int->I6 (Option J)):Option J :=
 cond (lk N (az.P 4)) (
  kn (az.g 4).2.2 a b c d e (az.g 4).1 (az.g 4).2.1) none
def Z41{J:Type}(N:Nat)(a:LI)(b:List Int)(c d e f g h:Int)(kn:LI->Int->List Int->I6 (Option J)):Option J :=
 kn a 1 b c d e f g h
def Z44{J:Type}(N:Nat)(e:LI)(a:Int)(b:List Int)(f h i j c d:Int)(kn:LI->Int->List Int->I6 (Option J))(k3:LI->I4 (List Int->I2 (Option J))):Option J :=
 cond (lk N (decide (a<4)))
 (
  cond (lk N (aG.P b (f,h) (c,(d,e)) 0 a 1 1)) (
   kn (aG.g b (f,h) (c,(d,e)) 0 a 1 1).2.2.2 (ac (a+1)) b (aG.g b (f,h) (c,(d,e)) 0 a 1 1).1.1 (aG.g b (f,h) (c,(d,e)) 0 a 1 1).1.2 i j c d) none)
 (
  k3 e i j c d b f h)
def Z43L{J:Type}(N:Nat)(k3:LI->I4 (List Int->I2 (Option J))):Nat->LI->Int->List Int->Int->Int->Int->Int->Int->Int->Option J
 |0,_,_,_,_,_,_,_,_,_=>none
 |M+1,a,b,c,d,e,f,g,h,i=>Z44 N a b c d e f g h i (λa b c d e f g h i=>Z43L N k3 M a b c d e f g h i) k3
def Z43 N a b c d e f g h i k3:=(Z43L N k3 N a b c d e f g h i:Option J)
def Z42 N a b c d e f g h i kn:=(Z43 N a b c d e f g h i kn:Option J)
def Z40 N a b c d e f g h kn:=(Z41 N a b c d e f g h (λa i b c d e f g h=>Z42 N a i b c d e f g h kn):Option J)
def Z45{J:Type}(N:Nat)(a:LI)(g h b c:Int)(d:List Int)(e f:Int)(kr:LI->ByteArray->I2 (List Int->I2 (Option J))):Option J :=
 kr a (⟨#[68,52]⟩:ByteArray) b c d e f
def Z39 N a b c d e f g h kr:=(Z40 N a b c d e f g h (λa e f g h b c d=>Z45 N a e f g h b c d kr):Option J)
def Z37 N f g h a b c d e kr:=(Z38 N f g h a b c d e (λi a b c d e j l=>Z39 N i a b c d e j l kr):Option J)
def Z46{J:Type}(N:Nat)(e d:Int)(i:Bool)(a:List Int)(b c f h:Int)(kn:Int->List Int->I4 (Option J))(kr:LI->ByteArray->I2 (List Int->I2 (Option J))):Option J :=
 let x2_:=(aG.g a (b,c) (az.g 4) 0 1 1 1);let x3_:=(aG.g a (b,c) (az.g 3) 0 1 1 1);let x0_:=(aG.g a x2_.1 ((az.g 4).1,((az.g 4).2.1,x2_.2.2.2)) 1 2 2 1);let x1_:=(aG.g a x0_.1 ((az.g 4).1,((az.g 4).2.1,x0_.2.2.2)) 2 3 1 1);cond (lk N (decide (d=9)))
 (
 cond (lk N (az.P 4)) (
 cond (lk N (aG.P a (b,c) (az.g 4) 0 1 1 1)) (
 cond (lk N (aG.P a x2_.1 ((az.g 4).1,((az.g 4).2.1,x2_.2.2.2)) 1 2 2 1)) (
 cond (lk N (aG.P a x0_.1 ((az.g 4).1,((az.g 4).2.1,x0_.2.2.2)) 2 3 1 1)) (
 kr x1_.2.2.2 (⟨#[70,52]⟩:ByteArray) (az.g 4).1 (az.g 4).2.1 a x1_.1.1 x1_.1.2) none) none) none) none)
 (
 cond (lk N (decide (d=10)))
 (
 cond (lk N (az.P 3)) (
 cond (lk N (aG.P a (b,c) (az.g 3) 0 1 1 1)) (
 kr x3_.2.2.2 (⟨#[65,49,32,65,50]⟩:ByteArray) (az.g 3).1 (az.g 3).2.1 a x3_.1.1 x3_.1.2) none) none)
 (
 kn e a b c f h))
def Z36 N b c a d e f g h kn kr:=(cond (a) (Z37 N b c a d e f g h kr) (Z46 N b c a d e f g h kn kr):Option J)
def Z34 N a b h c d e f g kn kr:=(Z35 N a b h c d e f g (λa b i c d e f g=>Z36 N a b i c d e f g kn kr):Option J)
def Z32 N b c a d e f g h kn kr:=(cond (a) (Z33 N b c a d e f g h kr) (Z34 N b c a d e f g h kn kr):Option J)
def Z30 N a b h c d e f g kn kr:=(Z31 N a b h c d e f g (λa b i c d e f g=>Z32 N a b i c d e f g kn kr):Option J)
def Z28 N b c a d e f g h kn kr:=(cond (a) (Z29 N b c a d e f g h kr) (Z30 N b c a d e f g h kn kr):Option J)
def Z26 N h a b i c d e f g kn kr:=(Z27 N h a b i c d e f g (λa b j c d e f g=>Z28 N a b j c d e f g kn kr):Option J)
def Z16 N b c d a e f g h i kn kr:=(cond (a) (Z17 N b c d a e f g h i kr) (Z26 N b c d a e f g h i kn kr):Option J)
def Z14 N a b c d e f g h kn kr:=(Z15 N a b c d e f g h (λa b c i d e f g h=>Z16 N a b c i d e f g h kn kr):Option J)
def Z13 N a b c d e f g h kn kr:=(Z14 N a b c d e f g h kn kr:Option J)
def Z11 N a b c d e f g kn kr:=(Z12 N a b c d e f g (λa b h c d e f g=>Z13 N a b h c d e f g kn kr):Option J)
def Z48{J:Type}(N:Nat)(a:Int)(b:List Int)(c d e f:Int)(kn:LI->Int->List Int->I6 (Option J)):Option J :=
 cond (lk N (az.P a)) (
  kn (az.g a).2.2 a b c d e f (az.g a).1 (az.g a).2.1) none
def Z51{J:Type}(N:Nat)(a:LI)(b:Int)(c:List Int)(d e f g h i:Int)(kn:LI->I2 (List Int->I6 (Option J))):Option J :=
 kn a b 0 c d e f g h i
def Z54{J:Type}(N:Nat)(e:LI)(i a:Int)(b:List Int)(f h j l c d:Int)(kn:LI->I2 (List Int->I6 (Option J)))(k5:LI->I5 (List Int->I2 (Option J))):Option J :=
 cond (lk N (decide ((ac (a+1))<i)))
 (
  cond (lk N (aG.P b (f,h) (c,(d,e)) a (ac (a+1)) 1 1)) (
   kn (aG.g b (f,h) (c,(d,e)) a (ac (a+1)) 1 1).2.2.2 i (ac (a+1)) b (aG.g b (f,h) (c,(d,e)) a (ac (a+1)) 1 1).1.1 (aG.g b (f,h) (c,(d,e)) a (ac (a+1)) 1 1).1.2 j l c d) none)
 (
  k5 e i j l c d b f h)
def Z53L{J:Type}(N:Nat)(k5:LI->I5 (List Int->I2 (Option J))):Nat->LI->Int->Int->List Int->Int->Int->Int->Int->Int->Int->Option J
 |0,_,_,_,_,_,_,_,_,_,_=>none
 |M+1,a,b,c,d,e,f,g,h,i,j=>Z54 N a b c d e f g h i j (λa b c d e f g h i j=>Z53L N k5 M a b c d e f g h i j) k5
def Z53 N a b c d e f g h i j k5:=(Z53L N k5 N a b c d e f g h i j:Option J)
def Z52 N a b c d e f g h i j kn:=(Z53 N a b c d e f g h i j kn:Option J)
def Z50 N a b c d e f g h i kn:=(Z51 N a b c d e f g h i (λa b j c d e f g h i=>Z52 N a b j c d e f g h i kn):Option J)
def Z55{J:Type}(N:Nat)(b:LI)(a i j c d:Int)(e:List Int)(f h:Int)(kr:LI->ByteArray->I2 (List Int->I2 (Option J))):Option J :=
 cond (lk N (bV.P a)) (
  bo (
   cond (Nat.blt ((⟨#[65]⟩:ByteArray).size+(bV.g a).size) 4611686018427387904) (
    kr b ((⟨#[65]⟩:ByteArray)++(bV.g a)) c d e f h) none)) none
def Z49 N a b c d e f g h i kr:=(Z50 N a b c d e f g h i (λa b f g h i c d e=>Z55 N a b f g h i c d e kr):Option J)
def Z47 N a b c d e f kr:=(Z48 N a b c d e f (λg a b c d e f h i=>Z49 N g a b c d e f h i kr):Option J)
def Z10 N g a b c d e f kr:=(Z11 N g a b c d e f (λa b c d e f=>Z47 N a b c d e f kr) kr:Option J)
def Z8 N h a b c d e f g kr:=(Z9 N h a b c d e f g (λa b c d e f g=>Z10 N a b c d e f g kr):Option J)
def Z6 N a b c d e f g h kr:=(Z7 N a b c d e f g h (λa b c d e f g h=>Z8 N a b c d e f g h kr):Option J)
def Z4 N a b c d e f g kr:=(Z5 N a b c d e f g (λa b h c d e f g=>Z6 N a b h c d e f g kr):Option J)
def Z2 N a b c d e f kr:=(Z3 N a b c d e f (λa g b c d e f=>Z4 N a g b c d e f kr):Option J)
def Z0 N b0 r0 a kr:=(Z1 N b0 r0 a (λa b c d e f=>Z2 N a b c d e f kr):Option J)
def Spec:Prop:=∀{U:Type} (u:U) (b0:List Int) (r0:Int×Int) (v1:Int),Ty.bd (.sl 0 (.int .u8)) b0->P b0 r0 v1=true->∃N0,∀N,N0<=N->Z0 N b0 r0 v1 (λv4_2 v5 v4_0 v4_1 w0_0 w0_1 w0_2=>some (u,((w0_1,w0_2),((),((v4_0,(v4_1,v4_2)),(v5,()))))))=some (u,((g b0 r0 v1).1,((),((g b0 r0 v1).2.1,((g b0 r0 v1).2.2,())))))
structure Jd(b:List Int)(n:Int)(s:S):Prop where
 cur:bc b s.1=true
 dim:aO s.2=true
 hn:s.2.1=n
 hr:s.2.2.1=n
def Jd.join{b:List Int}{n:Int}{s:S}(h:Jd b n s)(i j x y:Int):Jd b n (aG.g b s.1 s.2 i j x y) :=
 ⟨aG.keep h.cur,aG.dim_join h.dim,h.hn,h.hr⟩
def dim_zero{n:Int}(h1:1<=n)(h5:n<=5):aO (az.g n)=true:=by
 have:n=1\/n=2\/n=3\/n=4\/n=5:=by omega
 rcases this with rfl|rfl|rfl|rfl|rfl<;>rfl
def Jd.zero{b:List Int}{r:Int×Int}{n:Int}(h:bc b r=true)(h1:1<=n)(h5:n<=5):Jd b n (r,az.g n):=⟨h,dim_zero h1 h5,rfl,rfl⟩
def Jd.P{b:List Int}{n:Int}{s:S}(h:Jd b n s){i j x y:Int}(hi:0<=i/\i<n)(hj:0<=j/\j<n)(ha:0<=x/\x<=1000)(hc:0<=y/\y<=1000):aG.P b s.1 s.2 i j x y=true:=by have:=h.hn;simp only[aG.P,Bool.and_eq_true,cC];exact⟨h.cur,h.dim,by omega,by omega,by omega,by omega⟩
def Jd.chain{b:List Int}{n:Int}:∀(l:List Nat) {s:S},Jd b n s->Jd b n (l.foldl (chainS b) s)
 |[],_,h=>h
 |i::l,s,h=>Jd.chain l (s:=chainS b s i) (h.join _ _ _ _)
def Jd.star{b:List Int}{n:Int}:∀(l:List Nat) {s:S},Jd b n s->Jd b n (l.foldl (starS b) s)
 |[],_,h=>h
 |i::l,s,h=>Jd.star l (s:=starS b s i) (h.join _ _ _ _)
def OI{J:Type}{N:Nat}{b:List Int}(kk:List Int->Int->Int->List Int->Int->Int->Int->Int->Int->Int->Option J)(t0 t1 kd:Int){c:Nat}(hc:c<=4):∀(M i:Nat) (s:S),i<=c->Jd b ((c:Int)+2) s->c-i<M ->
  Z23L N kk M s.2.2.2 kd ((c:Int)+2) (i:Int) b s.1.1 s.1.2 t0 t1 s.2.1 s.2.2.1=kk (((List.range c).drop i).foldl (chainS b) s).2.2.2 kd ((c:Int)+2) b (((List.range c).drop i).foldl (chainS b) s).1.1 (((List.range c).drop i).foldl (chainS b) s).1.2 t0 t1 s.2.1 s.2.2.1:=by
 intro M;induction M with
 |zero=>intro i s _ _ h;omega
 |succ M ih =>
  intro i s hi hs hM;simp only[Z23L,Z24];have w2:ac ((i:Int)+2)=(i:Int)+2:=aM (by omega) (by omega);have w1:ac ((i:Int)+1)=(i:Int)+1:=aM (by omega) (by omega);rw[w2];by_cases h:i<c;·have hP:=hs.P (i:=(i:Int)) (j:=(i:Int)+1) (x:=1) (y:=1) (by omega) (by omega) (by omega) (by omega);have es:((s.1.1,s.1.2):Int×Int)=s.1:=rfl;have em:((s.2.1,(s.2.2.1,s.2.2.2)):Int×Int×List Int)=s.2:=rfl;rw[ct (dt (by omega)),es,em,w1,ct hP,iA h,List.foldl_cons];exact ih (i+1) (chainS b s i) h (hs.join _ _ _ _) (by omega)
  ·rw[cf (df (by omega)),List.drop_of_length_le (by rw[List.length_range];omega)];rfl
def OJ{J:Type}{N:Nat}{b:List Int}(kk:List Int->Int->Int->Int->Int->Int->List Int->Int->Int->Option J)(t0 t1:Int){c:Nat}(hc:c<=4):∀(M i:Nat) (s:S),i<=c->Jd b ((c:Int)+1) s->c-i<M ->
  Z53L N kk M s.2.2.2 ((c:Int)+1) (i:Int) b s.1.1 s.1.2 t0 t1 s.2.1 s.2.2.1=kk (((List.range c).drop i).foldl (chainS b) s).2.2.2 ((c:Int)+1) t0 t1 s.2.1 s.2.2.1 b (((List.range c).drop i).foldl (chainS b) s).1.1 (((List.range c).drop i).foldl (chainS b) s).1.2:=by
 intro M;induction M with
 |zero=>intro i s _ _ h;omega
 |succ M ih =>
  intro i s hi hs hM;simp only[Z53L,Z54];have w1:ac ((i:Int)+1)=(i:Int)+1:=aM (by omega) (by omega);rw[w1];by_cases h:i<c;·have hP:=hs.P (i:=(i:Int)) (j:=(i:Int)+1) (x:=1) (y:=1) (by omega) (by omega) (by omega) (by omega);have es:((s.1.1,s.1.2):Int×Int)=s.1:=rfl;have em:((s.2.1,(s.2.2.1,s.2.2.2)):Int×Int×List Int)=s.2:=rfl;rw[ct (dt (by omega)),es,em,ct hP,iA h,List.foldl_cons];exact ih (i+1) (chainS b s i) h (hs.join _ _ _ _) (by omega)
  ·rw[cf (df (by omega)),List.drop_of_length_le (by rw[List.length_range];omega)];rfl
def OK{J:Type}{N:Nat}{b:List Int}(kk:List Int->Int->Int->Int->Int->List Int->Int->Int->Option J)(t0 t1:Int):∀(M i:Nat) (s:S),i<=4->Jd b 4 s->4-i<M ->
  Z43L N kk M s.2.2.2 (i:Int) b s.1.1 s.1.2 t0 t1 s.2.1 s.2.2.1=kk (((List.range 4).drop i).foldl (starS b) s).2.2.2 t0 t1 s.2.1 s.2.2.1 b (((List.range 4).drop i).foldl (starS b) s).1.1 (((List.range 4).drop i).foldl (starS b) s).1.2:=by
 intro M;induction M with
 |zero=>intro i s _ _ h;omega
 |succ M ih =>
  intro i s hi hs hM;simp only[Z43L,Z44];have w1:ac ((i:Int)+1)=((i+1:Nat):Int):=bh (by rw[bv];omega);by_cases h:i<4;·have hP:=hs.P (i:=0) (j:=(i:Int)) (x:=1) (y:=1) (by omega) (by omega) (by omega) (by omega);have es:((s.1.1,s.1.2):Int×Int)=s.1:=rfl;have em:((s.2.1,(s.2.2.1,s.2.2.2)):Int×Int×List Int)=s.2:=rfl;rw[ct (dt (by omega)),es,em,w1,ct hP,iA h,List.foldl_cons];exact ih (i+1) (starS b s i) h (hs.join _ _ _ _) (by omega)
  ·rw[cf (df (by omega)),List.drop_of_length_le (by rw[List.length_range];omega)];rfl
def OL{b:List Int}{r:Int×Int}(h:bc b r=true)(k:Int){n:Nat}(h1:1<=n)(h4:n<=4):∃q:Int,1<=q/\q<=4/\Jd b q (tree b r k n).1:=by
 have z:Jd b (n:Int) (r,az.g (n:Int)):=Jd.zero h (by omega) (by omega);have c:∀c,Jd b (n:Int) (chainG b r n c):=λc=>Jd.chain (List.range c) z;unfold tree;split;·exact⟨n,by omega,by omega,(c _).join _ _ _ _⟩
 split
 ·split;·exact⟨n,by omega,by omega,(c _).join _ _ _ _⟩
  ·exact⟨n,by omega,by omega,(c _).join _ _ _ _⟩
 split;·exact⟨n,by omega,by omega,z⟩
 split;·exact⟨2,by omega,by omega,(Jd.zero h (by omega) (by omega)).join _ _ _ _⟩
 split;·exact⟨4,by omega,by omega,Jd.star _ (Jd.zero h (by omega) (by omega))⟩
 split;·exact⟨4,by omega,by omega,(((Jd.zero h (by omega) (by omega):Jd b 4 (r,az.g 4)).join 0 1 1 1).join 1 2 2 1).join 2 3 1 1⟩
 split;·exact⟨3,by omega,by omega,(Jd.zero h (by omega) (by omega)).join _ _ _ _⟩
 ·exact⟨n,by omega,by omega,c _⟩
def facts{b:List Int}{r:Int×Int}{most:Int}(h:bc b r=true)(h1:1<=most)(h4:most<=4):∃q:Int,1<=q/\q<=4/\Jd b q ((g b r most).1,(g b r most).2.1):=by have k0:=ah.keep (n:=11) h;have k1:=ah.keep (n:=most) k0;have rn:=ah.range (b:=b) (r:=(ah.g b r 11).1) (n:=most) h1 (by omega);obtain⟨q,h1,h2,h3⟩:=OL k1 (Fw.spec_dTree.k2 (Fw.spec_dTree.k1 (ah.g b r 11).2 (1+(ah.g b (ah.g b r 11).1 most).2) most) most) (n:=(1+(ah.g b (ah.g b r 11).1 most).2).toNat) (by omega) (by omega);exact⟨q,h1,h2,h3⟩
def z7{J:Type}{N:Nat}(most k n:Int)(b:List Int)(r1 r2 t0 t1:Int)(kn:Int->Int->Int->List Int->Int->Int->Int->Int->Option J):Z7 N most k n b r1 r2 t0 t1 kn=kn most (k1 k n most) n b r1 r2 t0 t1:=by simp only[Z7,aD,k1];cases decide (4<=k)<;>cases decide (k<=6)<;>cases decide (n<2)<;>cases decide (k=7)<;>cases decide (most<2)<;>rfl
def z9{J:Type}{N:Nat}(most k n:Int)(b:List Int)(r1 r2 t0 t1:Int)(kn:Int->Int->List Int->Int->Int->Int->Int->Option J):Z9 N most k n b r1 r2 t0 t1 kn=kn (k2 k most) n b r1 r2 t0 t1:=by simp only[Z9,aD,k2];cases decide (k=8)<;>cases decide (most<4)<;>cases decide (k=9)<;>cases decide (k=10)<;>cases decide (most<3)<;>rfl
def tS{c:UInt8}{n:Nat}(h:n<=4):Nat.blt ((⟨#[c]⟩:ByteArray).size+(bV.g (n:Int)).size) 4611686018427387904=true:=by
 have e:(bV.g (n:Int)).size=(Lib.itoa (n:Int)).length:=by show(eC (Lib.itoa (n:Int))).size=_;exact NA _
 have h2:=Lib.itoa_length_le (n:Int) (by omega) (by omega);refine Nat.ble_eq_true_of_le ?_;rw[e];show 1+_+1<=_;omega
def OM{n:Nat}(h:n<=4):bV.P (n:Int)=true:=by show eH (n:Int)=true;simp only[eH,Bool.and_eq_true,decide_eq_true_eq];omega
def ON{n:Nat}(h:n<=4):az.P (n:Int)=true:=by simp only[az.P,bz,Bool.and_eq_true,decide_eq_true_eq];omega
def ze{J:Type}{N:Nat}(hN:20<=N){b:List Int}{r:Int×Int}(h:bc b r=true)(kd:Int){n:Nat}(h1:1<=n)(h4:n<=4)(hk:kd=4\/kd=5->2<=n)(t0 t1:Int)(kr:List Int->ByteArray->Int->Int->List Int->Int->Int->Option J) :
  Z10 N kd (n:Int) b r.1 r.2 t0 t1 kr=kr (tree b r kd n).1.2.2.2 (tree b r kd n).2 (tree b r kd n).1.2.1 (tree b r kd n).1.2.2.1 b (tree b r kd n).1.1.1 (tree b r kd n).1.1.2:=by
 have fm:bV.P (n:Int)=true:=OM h4;have fg:bV.g (n:Int)=cr n:=rfl;have zP:=ON h4;have zJ:Jd b (n:Int) (r,az.g (n:Int)):=Jd.zero h (by omega) (by omega);have w2:ac ((n:Int)-2)=(n:Int)-2:=aM (by omega) (by omega);have w1:ac ((n:Int)-1)=(n:Int)-1:=aM (by omega) (by omega);have er:((r.1,r.2):Int×Int)=r:=rfl;have big:∀{V:Type} (hn:2<=n) (kn:List Int->Int->Int->List Int->Int->Int->Int->Int->Int->Int->Option V),Z20 N (az.g (n:Int)).2.2 kd (n:Int) b r.1 r.2 t0 t1 (az.g (n:Int)).1 (az.g (n:Int)).2.1 kn =
   kn (chainG b r n (n-2)).2.2.2 kd (n:Int) b (chainG b r n (n-2)).1.1 (chainG b r n (n-2)).1.2 t0 t1 (n:Int) (n:Int):=by
  intro V hn kn;obtain⟨c,rfl⟩:∃c,n=c+2:=⟨n-2,by omega⟩;simp only[Z20,Z21,Z22,Z23];have e:((c+2:Nat):Int)=(c:Int)+2:=by omega
  rw[e]at zJ ⊢;refine(OI kn t0 t1 kd (by omega) N 0 (r,az.g ((c:Int)+2)) (Nat.zero_le _) zJ (by omega)).trans ?_;rw[List.drop_zero];unfold chainG;rw[e];rfl
 by_cases c4:kd=4
 ·have hn:=hk (.inl c4);have jc:Jd b (n:Int) (chainG b r n (n-2)):=Jd.chain _ zJ;have pj:=jc.P (i:=(n:Int)-2) (j:=(n:Int)-1) (x:=2) (y:=1) (by omega) (by omega) (by omega) (by omega);have em:(((n:Int),((n:Int),(chainG b r n (n-2)).2.2.2)):Int×Int×List Int)=(chainG b r n (n-2)).2:=by rw[show(chainG b r n (n-2)).2=((chainG b r n (n-2)).2.1,(chainG b r n (n-2)).2.2.1,(chainG b r n (n-2)).2.2.2)from rfl,jc.hn,jc.hr]
  have es:(((chainG b r n (n-2)).1.1,(chainG b r n (n-2)).1.2):Int×Int)=(chainG b r n (n-2)).1:=rfl;have et:tree b r kd n=(endB b (chainG b r n (n-2)) n 2 1,⟨#[66]⟩++cr n):=if_pos c4;have e1:(endB b (chainG b r n (n-2)) n 2 1).2.1=(n:Int):=jc.hn;have e2:(endB b (chainG b r n (n-2)) n 2 1).2.2.1=(n:Int):=jc.hr;have sz:=tS (c:=66) h4;rw[fg]at sz;simp only[Z10,Z11,Z12,Z13,Z14,Z15,Z16,Z17,Z18,Z19,aD,dt c4,zP,cond_true];rw[big hn];simp only[Z25,aD,dt c4,w1,w2,em,es,pj,fm,fg,sz,cond_true,fG,et,e1,e2];rfl
 by_cases c5:kd=5
 ·have hn:=hk (.inr c5);have jc:Jd b (n:Int) (chainG b r n (n-2)):=Jd.chain _ zJ;have pj:=jc.P (i:=(n:Int)-2) (j:=(n:Int)-1) (x:=2) (y:=1) (by omega) (by omega) (by omega) (by omega);have pj':=jc.P (i:=(n:Int)-2) (j:=(n:Int)-1) (x:=1) (y:=2) (by omega) (by omega) (by omega) (by omega);have em:(((n:Int),((n:Int),(chainG b r n (n-2)).2.2.2)):Int×Int×List Int)=(chainG b r n (n-2)).2:=by rw[show(chainG b r n (n-2)).2=((chainG b r n (n-2)).2.1,(chainG b r n (n-2)).2.2.1,(chainG b r n (n-2)).2.2.2)from rfl,jc.hn,jc.hr]
  have es:(((chainG b r n (n-2)).1.1,(chainG b r n (n-2)).1.2):Int×Int)=(chainG b r n (n-2)).1:=rfl;have e1:∀x y,(endB b (chainG b r n (n-2)) n x y).2.1=(n:Int):=λ_ _=>jc.hn;have e2:∀x y,(endB b (chainG b r n (n-2)) n x y).2.2.1=(n:Int):=λ_ _=>jc.hr;have sz:=tS (c:=66) h4;have sz':=tS (c:=67) h4;rw[fg]at sz sz';simp only[Z10,Z11,Z12,Z13,Z14,Z15,Z16,Z17,Z18,Z19,aD,df c4,dt c5,zP,cond_true,cond_false];rw[big hn];by_cases c2:n=2
  ·have et:tree b r kd n=(endB b (chainG b r n (n-2)) n 2 1,⟨#[66]⟩++cr n):=(if_neg c4).trans ((if_pos c5).trans (if_pos c2));have c2':(n:Int)=2:=by omega
   simp only[Z25,aD,df c4,dt c2',w1,w2,em,es,pj,fm,fg,sz,cond_true,cond_false,fG,et,e1,e2];rfl
  ·have et:tree b r kd n=(endB b (chainG b r n (n-2)) n 1 2,⟨#[67]⟩++cr n):=(if_neg c4).trans ((if_pos c5).trans (if_neg c2));have c2':¬ (n:Int)=2:=by omega
   simp only[Z25,aD,df c4,df c2',w1,w2,em,es,pj',fm,fg,sz',cond_true,cond_false,fG,et,e1,e2];rfl
 simp only[Z10,Z11,Z12,Z13,Z14,Z15,Z16,Z26,Z27,Z28,aD,df c4,df c5,cond_false];by_cases c6:kd=6;·have et:tree b r kd n=((r,az.g (n:Int)),qT.getD n ByteArray.empty):=(if_neg c4).trans ((if_neg c5).trans (if_pos c6));have ib:ax (n:Int) qT.length=true:=aN (by show n<6;omega);simp only[qT]at ib;simp only[Z29,aD,dt c6,zP,ib,cond_true,fG,et,Int.toNat_natCast];rfl
 simp only[df c6,cond_false,Z30,Z31,Z32,aD];by_cases c7:kd=7;·have et:tree b r kd n=(aG.g b r (az.g 2) 0 1 3 1,⟨#[71,50]⟩):=(if_neg c4).trans ((if_neg c5).trans ((if_neg c6).trans (if_pos c7)));have z2:Jd b 2 (r,az.g 2):=Jd.zero h (by omega) (by omega);have pj:=z2.P (i:=0) (j:=1) (x:=3) (y:=1) (by omega) (by omega) (by omega) (by omega);have pz:az.P 2=true:=rfl;simp only[Z33,aD,dt c7,pz,er,pj,cond_true,et];rfl
 simp only[df c7,cond_false,Z34,Z35,Z36,aD];have z4:Jd b 4 (r,az.g 4):=Jd.zero h (by omega) (by omega);have pz4:az.P 4=true:=rfl;by_cases c8:kd=8;·have et:tree b r kd n=(zd b r,⟨#[68,52]⟩):=(if_neg c4).trans ((if_neg c5).trans ((if_neg c6).trans ((if_neg c7).trans (if_pos c8))));have js:Jd b 4 (zd b r):=Jd.star _ z4;simp only[Z37,Z38,Z39,Z40,Z41,Z42,Z43,aD,dt c8,pz4,cond_true,et];refine(OK _ t0 t1 N 1 (r,az.g 4) (by omega) z4 (by omega)).trans ?_;simp only[Z45];rw[js.hn,js.hr];rfl
 simp only[df c8,cond_false,Z46,aD];by_cases c9:kd=9;·have et:tree b r kd n=(f3 b r,⟨#[70,52]⟩):=(if_neg c4).trans ((if_neg c5).trans ((if_neg c6).trans ((if_neg c7).trans ((if_neg c8).trans (if_pos c9)))));have ja:Jd b 4 (f1 b r):=z4.join _ _ _ _;have jb:Jd b 4 (f2 b r):=ja.join _ _ _ _;have p1:=z4.P (i:=0) (j:=1) (x:=1) (y:=1) (by omega) (by omega) (by omega) (by omega);have p2:=ja.P (i:=1) (j:=2) (x:=2) (y:=1) (by omega) (by omega) (by omega) (by omega);have p3:=jb.P (i:=2) (j:=3) (x:=1) (y:=1) (by omega) (by omega) (by omega) (by omega);have g1:aG.g b r (az.g 4) 0 1 1 1=f1 b r:=rfl;have g2:aG.g b (f1 b r).1 (f1 b r).2 1 2 2 1=f2 b r:=rfl;have g3:aG.g b (f2 b r).1 (f2 b r).2 2 3 1 1=f3 b r:=rfl;have s1:(((az.g 4).1,((az.g 4).2.1,(f1 b r).2.2.2)):Int×Int×List Int)=(f1 b r).2:=rfl;have s2:(((az.g 4).1,((az.g 4).2.1,(f2 b r).2.2.2)):Int×Int×List Int)=(f2 b r).2:=rfl;simp only[aD,dt c9,pz4,er,p1,g1,s1,p2,g2,s2,p3,g3,cond_true,et];rfl
 simp only[df c9,cond_false];by_cases c10:kd=10;·have et:tree b r kd n=(aG.g b r (az.g 3) 0 1 1 1,⟨#[65,49,32,65,50]⟩):=(if_neg c4).trans ((if_neg c5).trans ((if_neg c6).trans ((if_neg c7).trans ((if_neg c8).trans ((if_neg c9).trans (if_pos c10))))));have z3:Jd b 3 (r,az.g 3):=Jd.zero h (by omega) (by omega);have pj:=z3.P (i:=0) (j:=1) (x:=1) (y:=1) (by omega) (by omega) (by omega) (by omega);have pz:az.P 3=true:=rfl;simp only[aD,dt c10,pz,er,pj,cond_true,et];rfl
 have et:tree b r kd n=(chainG b r n (n-1),⟨#[65]⟩++cr n):=(if_neg c4).trans ((if_neg c5).trans ((if_neg c6).trans ((if_neg c7).trans ((if_neg c8).trans ((if_neg c9).trans (if_neg c10))))));have jc:Jd b (n:Int) (chainG b r n (n-1)):=Jd.chain _ zJ;have sz:=tS (c:=65) h4;rw[fg]at sz;simp only[df c10,cond_false,Z47,Z48,Z49,aD,zP,cond_true,et];obtain⟨c,rfl⟩:∃c,n=c+1:=⟨n-1,by omega⟩;simp only[Z50,Z51,Z52,Z53];have e:((c+1:Nat):Int)=(c:Int)+1:=by omega
 have hc:∀{V:Type} (kn:List Int->Int->Int->Int->Int->Int->List Int->Int->Int->Option V),Z53L N kn N (az.g ((c+1:Nat):Int)).2.2 ((c+1:Nat):Int) 0 b r.1 r.2 t0 t1 (az.g ((c+1:Nat):Int)).1 (az.g ((c+1:Nat):Int)).2.1 =
   kn (chainG b r (c+1) c).2.2.2 ((c+1:Nat):Int) t0 t1 ((c+1:Nat):Int) ((c+1:Nat):Int) b (chainG b r (c+1) c).1.1 (chainG b r (c+1) c).1.2:=by
  intro V kn;rw[e]at zJ ⊢;refine(OJ kn t0 t1 (by omega) N 0 (r,az.g ((c:Int)+1)) (Nat.zero_le _) zJ (by omega)).trans ?_;rw[List.drop_zero];unfold chainG;rw[e];rfl
 rw[hc];have hn1:(chainG b r (c+1) (c+1-1)).2.1=((c+1:Nat):Int):=jc.hn;have hr1:(chainG b r (c+1) (c+1-1)).2.2.1=((c+1:Nat):Int):=jc.hr;simp only[Z55,aD,fm,fg,sz,cond_true,fG,hn1,hr1];rfl
def ok:Spec:=λu b r most hb hp=>⟨20,λN hN=>by
 simp only[P,Bool.and_eq_true,cC]at hp;obtain⟨h,hm1,hm4⟩:=hp;have h0:=ah.keep (n:=11) h;have hh:=ah.keep (n:=most) h0;have p0:ah.P b r 11=true:=h;have p1:ah.P b (ah.g b r 11).1 most=true:=h0;have rk:=ah.range (b:=b) (r:=r) (n:=11) (by omega) (by omega);have rn:=ah.range (b:=b) (r:=(ah.g b r 11).1) (n:=most) hm1 (by omega);have er:((r.1,r.2):Int×Int)=r:=rfl;have e1:(((ah.g b r 11).1.1,(ah.g b r 11).1.2):Int×Int)=(ah.g b r 11).1:=rfl;have w1:ac (1+(ah.g b (ah.g b r 11).1 most).2)=1+(ah.g b (ah.g b r 11).1 most).2:=aM (by omega) (by omega);simp only[Z0,Z1,Z2,Z3,Z4,Z5,aD,er,p0,e1,p1,w1,cond_true,Z6,z7,Z8,z9];have eg:g b r most=((tree b (ah.g b (ah.g b r 11).1 most).1 (Fw.spec_dTree.k2 (Fw.spec_dTree.k1 (ah.g b r 11).2 (1+(ah.g b (ah.g b r 11).1 most).2) most) most) (1+(ah.g b (ah.g b r 11).1 most).2).toNat).1.1,
   (tree b (ah.g b (ah.g b r 11).1 most).1 (Fw.spec_dTree.k2 (Fw.spec_dTree.k1 (ah.g b r 11).2 (1+(ah.g b (ah.g b r 11).1 most).2) most) most) (1+(ah.g b (ah.g b r 11).1 most).2).toNat).1.2,
   (tree b (ah.g b (ah.g b r 11).1 most).1 (Fw.spec_dTree.k2 (Fw.spec_dTree.k1 (ah.g b r 11).2 (1+(ah.g b (ah.g b r 11).1 most).2) most) most) (1+(ah.g b (ah.g b r 11).1 most).2).toNat).2):=rfl
 rw[eg];generalize(ah.g b (ah.g b r 11).1 most).1=r2 at hh;generalize hq:1+(ah.g b (ah.g b r 11).1 most).2=q;obtain⟨n,rfl⟩:=Int.eq_ofNat_of_zero_le (show 0<=q by omega);have hk:Fw.spec_dTree.k2 (Fw.spec_dTree.k1 (ah.g b r 11).2 (n:Int) most) most=4\/Fw.spec_dTree.k2 (Fw.spec_dTree.k1 (ah.g b r 11).2 (n:Int) most) most=5->2<=n:=by
  intro hx;by_cases h2:2<=n;·exact h2
  ·exfalso;generalize(ah.g b r 11).2=k at rk hx;have:¬ ((decide (4<=k)&&(decide (k<=6)&&decide ((n:Int)<2)))||(decide (k=7)&&decide (most<2)))=true->¬ (4<=k/\k<=6):=by simp;omega
   unfold Fw.spec_dTree.k2 Fw.spec_dTree.k1 at hx;by_cases hb:((decide (4<=k)&&(decide (k<=6)&&decide ((n:Int)<2)))||(decide (k=7)&&decide (most<2)))=true;·rw[hb]at hx;simp at hx
   ·have hb':=this hb;simp only[Bool.not_eq_true]at hb;rw[hb]at hx;simp only[cond_false]at hx;cases hc:((decide (k=8)&&decide (most<4))||((decide (k=9)&&decide (most<4))||(decide (k=10)&&decide (most<3))))<;>rw[hc]at hx<;>simp at hx<;>omega
 rw[ze (by omega) hh _ (by omega) (by omega) hk];rw[Int.toNat_natCast]⟩
end spec_dTree
namespace gI
def g(n low high:Int):Bool:=bz n low high
def Z0{J:Type}(N:Nat)(a b c:Int)(kr:Bool->Option J):Option J :=
 cond (lk N (decide (b<=a)))
 (
  kr (lk N (decide (a<=c))))
 (
  kr false)
def Spec:Prop:=∀ (v0 v1 v2:Int),∃N0,∀N,N0<=N->Z0 N v0 v1 v2 (λv6=>some ((),(v6,())))=some ((),((g v0 v1 v2),()))
def ok:Spec:=λn low high=>⟨0,λN hN=>by simp only[Z0,aD,g,bz];cases decide (low<=n)<;>rfl⟩
end gI
namespace cj
def g(m:Int×Int×List Int):Bool:=bg m
def Z1{J:Type}(N:Nat)(a:MT)(kn:I2 (LI->Option J)):Option J :=
 kn a.1 a.2.1 a.2.2
def Z3{J:Type}(N:Nat)(a b:Int)(c:LI)(kn:I2 (LI->Option J))(kr:Bool->Option J):Option J :=
 cond (!(lk N ((gI.g a 1 5))))
 (
  kr false)
 (
  cond (!(lk N ((gI.g b a 8))))
  (
   kr false)
  (
   cond (lk N (!(decide ((c.length:Int)=(ac (a*b))))))
   (
    kr false)
   (
    kn a b c)))
def Z6{J:Type}(N:Nat)(a b:Int)(c:LI)(kn:I3 (LI->Option J)):Option J :=
 kn 0 a b c
def Z9{J:Type}(N:Nat)(b c d:Int)(a:LI)(kn:I3 (LI->Option J))(k0:I2 (LI->Option J))(kr:Bool->Option J):Option J :=
 cond (lk N (decide (b<(a.length:Int))))
 (
  cond (lk N (ax b a.length)) (
   cond (!(lk N ((gI.g (a.getD b.toNat 0) (-99) 99))))
   (
    kr false)
   (
    kn (ac (b+1)) c d a)) none)
 (
  k0 c d a)
def Z8L{J:Type}(N:Nat)(k0:I2 (LI->Option J))(kr:Bool->Option J):Nat->Int->Int->Int->LI->Option J
 |0,_,_,_,_=>none
 |M+1,a,b,c,d=>Z9 N a b c d (λa b c d=>Z8L N k0 kr M a b c d) k0 kr
def Z8 N a b c d k0 kr:=(Z8L N k0 kr N a b c d:Option J)
def Z7 N a b c d kn kr:=(Z8 N a b c d kn kr:Option J)
def Z5 N a b c kn kr:=(Z6 N a b c (λd a b c=>Z7 N d a b c kn kr):Option J)
def Z12{J:Type}(N:Nat)(a b:Int)(c:LI)(kn:I3 (LI->Option J)):Option J :=
 kn 0 a b c
def Z16{J:Type}(N:Nat)(a b c:Int)(d:LI)(kn:I3 (LI->Option J))(k2:Option J):Option J :=
 cond (lk N (decide (a<b)))
 (
  kn a b c d)
 (
  k2)
def Z20{J:Type}(N:Nat)(a b c:Int)(d:LI)(kn:I4 (LI->Option J)):Option J :=
 kn a 0 b c d
def Z23{J:Type}(N:Nat)(b c a d:Int)(e:LI)(kn:I4 (LI->Option J))(k4:I3 (LI->Option J))(kr:Bool->Option J):Option J :=
 cond (lk N (decide (c<a)))
 (
  cond (lk N (bG.P (a,(d,e)) b c)) (
   cond (lk N (bG.P (a,(d,e)) c b)) (
    cond (lk N (!(((lk N (decide (0<(bG.g (a,(d,e)) b c)))) == (lk N (decide ((bG.g (a,(d,e)) c b)<0)))))))
    (
     kr false)
    (
     cond (lk N (!(((lk N (decide ((bG.g (a,(d,e)) b c)=0))) == (lk N (decide ((bG.g (a,(d,e)) c b)=0)))))))
     (
      kr false)
     (
      kn b (ac (c+1)) a d e))) none) none)
 (
  k4 b a d e)
def Z22L{J:Type}(N:Nat)(k4:I3 (LI->Option J))(kr:Bool->Option J):Nat->Int->Int->Int->Int->LI->Option J
 |0,_,_,_,_,_=>none
 |M+1,a,b,c,d,e=>Z23 N a b c d e (λa b c d e=>Z22L N k4 kr M a b c d e) k4 kr
def Z22 N a b c d e k4 kr:=(Z22L N k4 kr N a b c d e:Option J)
def Z21 N a b c d e kn kr:=(Z22 N a b c d e kn kr:Option J)
def Z19 N a b c d kn kr:=(Z20 N a b c d (λa e b c d=>Z21 N a e b c d kn kr):Option J)
def Z18 N a b c d kn kr:=(Z19 N a b c d kn kr:Option J)
def Z24{J:Type}(N:Nat)(a b c:Int)(d:LI)(kn:I3 (LI->Option J)):Option J :=
 kn (ac (a+1)) b c d
def Z17 N a b c d kn kr:=(Z18 N a b c d (λa b c d=>Z24 N a b c d kn) kr:Option J)
def Z15 N a b c d kn k2 kr:=(Z16 N a b c d (λa b c d=>Z17 N a b c d kn kr) k2:Option J)
def Z14L{J:Type}(N:Nat)(k2:Option J)(kr:Bool->Option J):Nat->Int->Int->Int->LI->Option J
 |0,_,_,_,_=>none
 |M+1,a,b,c,d=>Z15 N a b c d (λa b c d=>Z14L N k2 kr M a b c d) k2 kr
def Z14 N a b c d k2 kr:=(Z14L N k2 kr N a b c d:Option J)
def Z13 N a b c d kn kr:=(Z14 N a b c d kn kr:Option J)
def Z11 N a b c kn kr:=(Z12 N a b c (λd a b c=>Z13 N d a b c kn kr):Option J)
def Z25{J:Type}(N:Nat) (kr:Bool->Option J):Option J :=
 kr true
def Z10 N a b c kr:=(Z11 N a b c (Z25 N kr) kr:Option J)
def Z4 N a b c kr:=(Z5 N a b c (λa b c=>Z10 N a b c kr) kr:Option J)
def Z2 N a b c kr:=(Z3 N a b c (λa b c=>Z4 N a b c kr) kr:Option J)
def Z0 N a kr:=(Z1 N a (λb c d=>Z2 N b c d kr):Option J)
def Spec:Prop:=∀ (v0:MT),Ty.bd (.pair (.int .i64) (.pair (.int .i64) (.sl 0 (.int .i64)))) v0->∃N0,∀N,N0<=N->Z0 N v0 (λv2=>some ((),(v2,())))=some ((),((g v0),()))
section
variable {J : Type} {N : Nat} {m : Int × Int × List Int}
def at_g(hd:0<=m.1)(a b:Nat):bG.g (m.1,(m.2.1,m.2.2)) (a:Int) (b:Int)=aj m a b:=jE hd a b
def at_p(hd:aO m=true){a b:Nat}(ha:a<m.1.toNat)(hb:b<m.1.toNat):bG.P (m.1,(m.2.1,m.2.2)) (a:Int) (b:Int)=true:=by obtain⟨n,r,hn,hr,hn1,hn5,hnr,hr8,hl⟩:=bf hd;exact jF hd (by omega) hb
def loop1(hl:m.2.2.length<=maxLen)(k0:Int->Int->List Int->Option J)(kr:Bool->Option J):∀(M j:Nat),j<=m.2.2.length->m.2.2.length-j<M ->
  Z8L N k0 kr M (j:Int) m.1 m.2.1 m.2.2=cond (lh (m.2.2.drop j)) (k0 m.1 m.2.1 m.2.2) (kr false):=by
 intro M;induction M with
 |zero=>intro j _ h;omega
 |succ M ih =>
  intro j hj hM;simp only[Z8L,Z9];by_cases h:j<m.2.2.length;·rw[ct (dt (by omega)),ct (aN h),Int.toNat_natCast,bh (by omega),dB 0 h,lh,List.all_cons,ih (j+1) h (by omega)];simp only[aD,gI.g];cases bz (m.2.2.getD j 0) (-99) 99<;>rfl
  ·rw[cf (df (by omega)),List.drop_of_length_le (by omega)];rfl
def loop3(hd:aO m=true)(k4:Int->Int->Int->List Int->Option J)(kr:Bool->Option J){i:Nat}(hi:i<m.1.toNat):∀(M j:Nat),j<=m.1.toNat->m.1.toNat-j<M ->
  Z22L N k4 kr M (i:Int) (j:Int) m.1 m.2.1 m.2.2=cond (((List.range m.1.toNat).drop j).all λj=>fS (aj m i j) (aj m j i)) (k4 (i:Int) m.1 m.2.1 m.2.2) (kr false):=by
 obtain⟨n,r,hn,hr,hn1,hn5,hnr,hr8,hl⟩:=bf hd;intro M;induction M with
 |zero=>intro j _ h;omega
 |succ M ih =>
  intro j hj hM;simp only[Z22L,Z23];by_cases h:j<m.1.toNat;·rw[ct (dt (by omega)),ct (at_p hd hi h),ct (at_p hd h hi),iA h,List.all_cons,bh (by rw[bv];omega),ih (j+1) h (by omega)];have hA:bG.g (m.1,(m.2.1,m.2.2)) (i:Int) (j:Int)=aj m i j:=at_g (by omega) _ _;have hB:bG.g (m.1,(m.2.1,m.2.2)) (j:Int) (i:Int)=aj m j i:=at_g (by omega) _ _;simp only[aD,hA,hB,fS];cases(decide (0<aj m i j) == decide (aj m j i<0))<;>cases(decide (aj m i j=0) == decide (aj m j i=0))<;>rfl
  ·rw[cf (df (by omega)),List.drop_of_length_le (by simp;omega)];rfl
def loop2(hN:10<=N)(hd:aO m=true)(k2:Option J)(kr:Bool->Option J):∀(M i:Nat),i<=m.1.toNat->m.1.toNat-i<M ->
  Z14L N k2 kr M (i:Int) m.1 m.2.1 m.2.2=cond (((List.range m.1.toNat).drop i).all λi=>(List.range m.1.toNat).all λj=>fS (aj m i j) (aj m j i)) k2 (kr false):=by
 obtain⟨n,r,hn,hr,hn1,hn5,hnr,hr8,hl⟩:=bf hd;intro M;induction M with
 |zero=>intro i _ h;omega
 |succ M ih =>
  intro i hi hM;simp only[Z14L,Z15,Z16];by_cases h:i<m.1.toNat;·rw[ct (dt (by omega))];simp only[Z17,Z18,Z19,Z20,Z21,Z22];have h3:=loop3 (J:=J) (N:=N) hd (λa b c d=>Z24 N a b c d (λa b c d=>Z14L N k2 kr M a b c d)) kr h N 0 (by omega) (by omega);rw[show((0:Nat):Int)=0 from rfl]at h3;rw[h3,iA h,List.all_cons,List.drop_zero];simp only[Z24];rw[bh (by rw[bv];omega),ih (i+1) h (by omega)];cases((List.range m.1.toNat).all λj=>fS (aj m i j) (aj m j i))<;>rfl
  ·rw[cf (df (by omega)),List.drop_of_length_le (by simp;omega)];rfl
end
def ok:Spec:=λm hb=>⟨m.2.2.length+10,λN hN=>by
 have hlen:m.2.2.length<=maxLen:=hb.2.2.1;simp only[Z0,Z1,Z2,Z3,gI.g,g,bg,bn];have ze:aO m=true->Z4 N m.1 m.2.1 m.2.2 (λt=>some ((),(t,())))=some ((),((lh m.2.2&&(List.range m.1.toNat).all λi=>(List.range m.1.toNat).all λj=>fS (aj m i j) (aj m j i)),())):=by intro hd;obtain⟨n,r,hn,hr,hn1,hn5,hnr,hr8,hl⟩:=bf hd;simp only[Z4,Z5,Z6,Z7,Z8];have h1:=loop1 (N:=N) hlen (λa b c=>Z10 N a b c (λt=>some ((),(t,())))) (λt=>some ((),(t,()))) N 0 (by omega) (by omega);rw[show((0:Nat):Int)=0 from rfl]at h1;rw[h1,List.drop_zero];simp only[Z10,Z11,Z12,Z13,Z14,Z25];have h2:=loop2 (N:=N) (by omega) hd (some ((),(true,()))) (λt=>some ((),(t,()))) N 0 (by omega) (by omega);rw[show((0:Nat):Int)=0 from rfl]at h2;rw[h2,List.drop_zero];cases lh m.2.2<;>cases((List.range m.1.toNat).all λi=>(List.range m.1.toNat).all λj=>fS (aj m i j) (aj m j i))<;>rfl
 cases h1:bz m.1 1 5;·rw[aO,h1];simp[aD]
 cases h2:bz m.2.1 m.1 8;·rw[aO,h1,h2];simp[aD]
 have e1:=cC.1 h1;have e2:=cC.1 h2;have e3:0<=m.1*m.2.1:=Int.mul_nonneg (by omega) (by omega);have e4:m.1*m.2.1<=5*8:=Int.mul_le_mul (by omega) (by omega) (by omega) (by omega);rw[aM (by omega) (by omega)];by_cases h3:(m.2.2.length:Int)=m.1*m.2.1
 ·have hd:aO m=true:=by rw[aO,h1,h2,dt h3];rfl
  rw[fI (by simp[aD]),fI (by simp[aD]),cf (nf h3),ze hd,hd];rfl
 ·have hd:aO m=false:=by rw[aO,h1,h2,df h3];rfl
  rw[fI (by simp[aD]),fI (by simp[aD]),ct (nt h3),hd];rfl⟩
end cj
namespace jq
def g(m:Int×Int×List Int):Bool:=bg m&&!decide (bq m=[])
def Z0{J:Type}(N:Nat)(a:MT)(kr:Bool->Option J):Option J :=
 cond (!(lk N ((cj.g a))))
 (
  kr false)
 (
  cond (lk N (aV.P a)) (
   kr (lk N ((aV.g a).2))) none)
def Spec:Prop:=∀ (v0:MT),Ty.bd (.pair (.int .i64) (.pair (.int .i64) (.sl 0 (.int .i64)))) v0->∃N0,∀N,N0<=N->Z0 N v0 (λv2=>some ((),(v2,())))=some ((),((g v0),()))
def ok:Spec:=λm hb=>⟨0,λN hN=>by simp only[Z0,aD,g,cj.g,aV.P,aV.g];cases bg m<;>rfl⟩
end jq
namespace dX
def P(a:List Int):Bool:=decide (a.length<1099511627776)
abbrev g(a:List Int):List Int:=a
def Z0{J:Type}(N:Nat)(a:LI)(kr:LI->Option J):Option J :=
 cond (lk N (Nat.blt (([]:List Int).length+a.length) 1099511627776)) (
  kr (([]:List Int)++a)) none
def Spec:Prop:=∀ (v0:LI),Ty.bd (.sl 0 (.int .i64)) v0->P v0=true->∃N0,∀N,N0<=N->Z0 N v0 (λv2=>some ((),(v2,())))=some ((),((g v0),()))
def ok:Spec:=λa hb hp=>⟨0,λN hN=>by
 have hl:a.length<1099511627776:=by simpa[P]using hp
 have hc:Nat.blt (([]:List Int).length+a.length) 1099511627776=true:=by simpa using hl
 simp only[Z0,aD,g,hc,cond_true,List.nil_append]⟩
end dX
namespace dY
def P(m:Int×Int×List Int):Bool:=dX.P m.2.2
abbrev g(m:Int×Int×List Int):Int×Int×List Int:=m
def Z0{J:Type}(N:Nat)(a:MT)(kr:LI->I2 (Option J)):Option J :=
 cond (lk N (dX.P a.2.2)) (
  kr (dX.g a.2.2) a.1 a.2.1) none
def Spec:Prop:=∀ (v0:MT),Ty.bd (.pair (.int .i64) (.pair (.int .i64) (.sl 0 (.int .i64)))) v0->P v0=true->∃N0,∀N,N0<=N->Z0 N v0 (λv2_2 v2_0 v2_1=>some ((),((v2_0,(v2_1,v2_2)),())))=some ((),((g v0),()))
def ok:Spec:=λm hb hp=>⟨0,λN hN=>by simp only[Z0];exact ct (show dX.P m.2.2=true from hp)⟩
end dY
namespace bC
def P(m:Int×Int×List Int)(k:Int):Bool:=bn m&&(decide (0<=k)&&decide (k<m.1))
def g(m:Int×Int×List Int)(k:Int):Int×Int×List Int:=aU m k.toNat
def Z1{J:Type}(N:Nat)(a:MT)(b:Int)(kn:I3 (LI->I2 (Option J))):Option J :=
 kn b a.1 a.2.1 a.2.2 0 0
def Z3{J:Type}(N:Nat)(d a b:Int)(c:LI)(e f:Int)(kn:LI->I3 (LI->I4 (Option J))):Option J :=
 cond (lk N (dY.P (a,(b,c)))) (
  kn (dY.g (a,(b,c))).2.2 d a b c e f (dY.g (a,(b,c))).1 (dY.g (a,(b,c))).2.1) none
def Z6{J:Type}(N:Nat)(a:LI)(b c d:Int)(e:LI)(f g h i:Int)(kn:LI->I4 (LI->I4 (Option J))):Option J :=
 kn a b 0 c d e f g h i
def Z10{J:Type}(N:Nat)(a:LI)(h b i c:Int)(j:LI)(d e f g:Int)(kn:LI->I4 (LI->I4 (Option J)))(k0:LI->I4 (Option J)):Option J :=
 cond (lk N (decide (b<c)))
 (
  kn a h b i c j d e f g)
 (
  k0 a d e f g)
def Z14{J:Type}(N:Nat)(a:LI)(b c d e:Int)(f:LI)(g h i j:Int)(kn:LI->I5 (LI->I4 (Option J))):Option J :=
 kn a b c 0 d e f g h i j
def Z18{J:Type}(N:Nat)(b:LI)(c d e a f:Int)(g:LI)(h i j l:Int)(kn:LI->I5 (LI->I4 (Option J)))(k2:LI->I4 (LI->I4 (Option J))):Option J :=
 cond (lk N (decide (e<a)))
 (
  kn b c d e a f g h i j l)
 (
  k2 b c d a f g h i j l)
def Z22{J:Type}(N:Nat)(f:LI)(a b h c d:Int)(e:LI)(i j l m:Int)(kn:LI->I6 (LI->I4 (Option J))):Option J :=
 cond (lk N (bG.P (c,(d,e)) b a)) (
  kn f a b h (bG.g (c,(d,e)) b a) c d e i j l m) none
def Z24{J:Type}(N:Nat)(f:LI)(a h b i c d:Int)(e:LI)(j l m o:Int)(kn:LI->I7 (LI->I4 (Option J))):Option J :=
 cond (lk N (bG.P (c,(d,e)) a b)) (
  kn f a h b i (bG.g (c,(d,e)) a b) c d e j l m o) none
def Z27{J:Type}(N:Nat)(d:LI)(a b c e f g h:Int)(i:LI)(j l m o:Int)(kn:LI->I5 (Bool->I2 (LI->I4 (Option J)))):Option J :=
 cond (lk N (decide (b=a)))
 (
  kn d a b c e f true g h i j l m o)
 (
  kn d a b c e f (lk N (decide (c=a))) g h i j l m o)
def Z28{J:Type}(N:Nat)(f:LI)(h a b o p:Int)(q:Bool)(c d:Int)(e:LI)(i j l m:Int)(kn:LI->I5 (LI->I4 (Option J))):Option J :=
 cond (q)
 (
  cond (lk N (bG.P (c,(d,e)) a b)) (
   cond (lk N (ax (ac ((ac (a*c))+b)) f.length)) (
    kn (f.set (ac ((ac (a*c))+b)).toNat (ac (0-(bG.g (c,(d,e)) a b)))) h a b c d e i j l m) none) none)
 (
  cond (lk N (decide (0<o)))
  (
   cond (lk N (decide (0<p)))
   (
    cond (lk N (bG.P (c,(d,e)) a b)) (
     cond (lk N (ax (ac ((ac (a*c))+b)) f.length)) (
      kn (f.set (ac ((ac (a*c))+b)).toNat (ac ((bG.g (c,(d,e)) a b)+(ac (o*p))))) h a b c d e i j l m) none) none)
   (
    cond (lk N (decide (o<0)))
    (
     cond (lk N (decide (p<0)))
     (
      cond (lk N (bG.P (c,(d,e)) a b)) (
       cond (lk N (ax (ac ((ac (a*c))+b)) f.length)) (
        kn (f.set (ac ((ac (a*c))+b)).toNat (ac ((bG.g (c,(d,e)) a b)-(ac (o*p))))) h a b c d e i j l m) none) none)
     (
      kn f h a b c d e i j l m))
    (
     kn f h a b c d e i j l m)))
  (
   cond (lk N (decide (o<0)))
   (
    cond (lk N (decide (p<0)))
    (
     cond (lk N (bG.P (c,(d,e)) a b)) (
      cond (lk N (ax (ac ((ac (a*c))+b)) f.length)) (
       kn (f.set (ac ((ac (a*c))+b)).toNat (ac ((bG.g (c,(d,e)) a b)-(ac (o*p))))) h a b c d e i j l m) none) none)
    (
     kn f h a b c d e i j l m))
   (
    kn f h a b c d e i j l m)))
def Z26 N a b c d e f g h i j l m o kn:=(Z27 N a b c d e f g h i j l m o (λa b c d e f p g h i j l m o=>Z28 N a b c d e f p g h i j l m o kn):Option J)
def Z25 N a b c d e f g h i j l m o kn:=(Z26 N a b c d e f g h i j l m o kn:Option J)
def Z23 N a b c d e f g h i j l m kn:=(Z24 N a b c d e f g h i j l m (λa b c d e o f g h i j l m=>Z25 N a b c d e o f g h i j l m kn):Option J)
def Z21 N a b c d e f g h i j l kn:=(Z22 N a b c d e f g h i j l (λa b c d m e f g h i j l=>Z23 N a b c d m e f g h i j l kn):Option J)
def Z20 N a b c d e f g h i j l kn:=(Z21 N a b c d e f g h i j l kn:Option J)
def Z29{J:Type}(N:Nat)(a:LI)(b c d e f:Int)(g:LI)(h i j l:Int)(kn:LI->I5 (LI->I4 (Option J))):Option J :=
 kn a b c (ac (d+1)) e f g h i j l
def Z19 N a b c d e f g h i j l kn:=(Z20 N a b c d e f g h i j l (λa b c d e f g h i j l=>Z29 N a b c d e f g h i j l kn):Option J)
def Z17 N a b c d e f g h i j l kn k2:=(Z18 N a b c d e f g h i j l (λa b c d e f g h i j l=>Z19 N a b c d e f g h i j l kn) k2:Option J)
def Z16L{J:Type}(N:Nat)(k2:LI->I4 (LI->I4 (Option J))):Nat->LI->Int->Int->Int->Int->Int->LI->Int->Int->Int->Int->Option J
 |0,_,_,_,_,_,_,_,_,_,_,_=>none
 |M+1,a,b,c,d,e,f,g,h,i,j,l=>Z17 N a b c d e f g h i j l (λa b c d e f g h i j l=>Z16L N k2 M a b c d e f g h i j l) k2
def Z16 N a b c d e f g h i j l k2:=(Z16L N k2 N a b c d e f g h i j l:Option J)
def Z15 N a b c d e f g h i j l kn:=(Z16 N a b c d e f g h i j l kn:Option J)
def Z13 N a b c d e f g h i j kn:=(Z14 N a b c d e f g h i j (λa b c l d e f g h i j=>Z15 N a b c l d e f g h i j kn):Option J)
def Z12 N a b c d e f g h i j kn:=(Z13 N a b c d e f g h i j kn:Option J)
def Z30{J:Type}(N:Nat)(a:LI)(b c d e:Int)(f:LI)(g h i j:Int)(kn:LI->I4 (LI->I4 (Option J))):Option J :=
 kn a b (ac (c+1)) d e f g h i j
def Z11 N a b c d e f g h i j kn:=(Z12 N a b c d e f g h i j (λa b c d e f g h i j=>Z30 N a b c d e f g h i j kn):Option J)
def Z9 N a b c d e f g h i j kn k0:=(Z10 N a b c d e f g h i j (λa b c d e f g h i j=>Z11 N a b c d e f g h i j kn) k0:Option J)
def Z8L{J:Type}(N:Nat)(k0:LI->I4 (Option J)):Nat->LI->Int->Int->Int->Int->LI->Int->Int->Int->Int->Option J
 |0,_,_,_,_,_,_,_,_,_,_=>none
 |M+1,a,b,c,d,e,f,g,h,i,j=>Z9 N a b c d e f g h i j (λa b c d e f g h i j=>Z8L N k0 M a b c d e f g h i j) k0
def Z8 N a b c d e f g h i j k0:=(Z8L N k0 N a b c d e f g h i j:Option J)
def Z7 N a b c d e f g h i j kn:=(Z8 N a b c d e f g h i j kn:Option J)
def Z5 N a b c d e f g h i kn:=(Z6 N a b c d e f g h i (λa b j c d e f g h i=>Z7 N a b j c d e f g h i kn):Option J)
def Z31{J:Type}(N:Nat)(a:LI)(d e b c:Int)(kr:LI->I2 (Option J)):Option J :=
 kr a b c
def Z4 N a f g h i b c d e kr:=(Z5 N a f g h i b c d e (λa b c d e=>Z31 N a b c d e kr):Option J)
def Z2 N a b c d e f kr:=(Z3 N a b c d e f (λg a b c d e f h i=>Z4 N g a b c d e f h i kr):Option J)
def Z0 N b a kr:=(Z1 N b a (λa c d e f g=>Z2 N a c d e f g kr):Option J)
def Spec:Prop:=∀ (v0:MT) (v1:Int),Ty.bd (.pair (.int .i64) (.pair (.int .i64) (.sl 0 (.int .i64)))) v0->P v0 v1=true->∃N0,∀N,N0<=N->Z0 N v0 v1 (λv4_2 v4_0 v4_1=>some ((),((v4_0,(v4_1,v4_2)),())))=some ((),((g v0 v1),()))
section
variable {J : Type} {N : Nat} {m : Int × Int × List Int} {k : Nat}
def at_g(hd:0<=m.1)(a b:Nat):bG.g (m.1,(m.2.1,m.2.2)) (a:Int) (b:Int)=aj m a b:=jE hd a b
def at_p(hd:aO m=true){a b:Nat}(ha:a<m.2.1.toNat)(hb:b<m.1.toNat):bG.P (m.1,(m.2.1,m.2.2)) (a:Int) (b:Int)=true:=jF hd ha hb
def cur(m:Int×Int×List Int)(k p:Nat):List Int:=fR m.2.2.length p (jI m k) (λp=>m.2.2.getD p 0)
def inner(hs:bn m=true)(hk:k<m.1.toNat)(k2:List Int->Int->Int->Int->Int->List Int->Int->Int->Int->Int->Option J)(t0 t1 o0 o1:Int){i:Nat}(hi:i<m.2.1.toNat):∀(M j:Nat),j<=m.1.toNat->m.1.toNat-j<M ->
  Z16L N k2 M (cur m k (i*m.1.toNat+j)) (k:Int) (i:Int) (j:Int) m.1 m.2.1 m.2.2 t0 t1 o0 o1=k2 (cur m k (i*m.1.toNat+m.1.toNat)) (k:Int) (i:Int) m.1 m.2.1 m.2.2 t0 t1 o0 o1:=by
 have hd:=dE hs;obtain⟨n,r,hn,hr,hn1,hn5,hnr,hr8,hl⟩:=bf hd;intro M;induction M with
 |zero=>intro j _ h;omega
 |succ M ih =>
  intro j hj hM;simp only[Z16L,Z17,Z18];by_cases h:j<m.1.toNat
  ·have hlt:i*m.1.toNat+j<m.2.2.length:=by have:=hY (n:=n) (r:=r) (i:=i) (j:=j) (by omega) (by omega);rw[hl,hn];exact this
   have hidx:ac (ac ((i:Int)*m.1)+(j:Int))=((i*m.1.toNat+j:Nat):Int):=by
    have e:(i:Int)*m.1=((i*m.1.toNat:Nat):Int):=by rw[hn,Int.natCast_mul];simp
    have hb:i*m.1.toNat<=8*5:=Nat.mul_le_mul (by omega) (by omega);have e2:ac (((i*m.1.toNat:Nat):Int))=((i*m.1.toNat:Nat):Int):=aM (by omega) (by omega);rw[e,e2,aM (by omega) (by omega)];omega
   have b1:=gE hs i j;have b2:=gE hs i k;have b3:=gE hs k j;have hbc:=DB (f:=false) b1 b2 b3;have hF:=yz (m:=m) (k:=k) (i:=i) h;have hcl:(cur m k (i*m.1.toNat+j)).length=m.2.2.length:=qA;have hset:∀v,v=jI m k (i*m.1.toNat+j)->(cur m k (i*m.1.toNat+j)).set (i*m.1.toNat+j) v=cur m k (i*m.1.toNat+(j+1)):=λv hv=>by subst hv;exact De hlt
   have hsame:jI m k (i*m.1.toNat+j)=aj m i j->cur m k (i*m.1.toNat+j)=cur m k (i*m.1.toNat+(j+1)):=λhv=>(DD hv).symm;have iB:ax (((i*m.1.toNat+j:Nat):Int)) (cur m k (i*m.1.toNat+j)).length=true:=aN (by rw[hcl];exact hlt);have pij:=at_p hd hi h;rw[ct (dt (by omega))];simp only[Z19,Z20,Z21,Z22,Z23,Z24,Z25];rw[ct (at_p hd hi hk),ct (at_p hd (show k<m.2.1.toNat by omega) h),at_g (by omega),at_g (by omega)];have fin:∀c,c=cur m k (i*m.1.toNat+(j+1))->Z29 N c (k:Int) (i:Int) (j:Int) m.1 m.2.1 m.2.2 t0 t1 o0 o1 (λout5_2 k1 i6 j7 m2_0 m2_1 m2_2 t4_0 t4_1 out5_0 out5_1=>Z16L N k2 M out5_2 k1 i6 j7 m2_0 m2_1 m2_2 t4_0 t4_1 out5_0 out5_1)=k2 (cur m k (i*m.1.toNat+m.1.toNat)) (k:Int) (i:Int) m.1 m.2.1 m.2.2 t0 t1 o0 o1:=by intro c hc;subst hc;simp only[Z29];rw[bh (by rw[bv];omega)];exact ih (j+1) h (by omega)
   simp only[Z26,Z27,Z28,hidx,Int.toNat_natCast,at_g (show 0<=m.1 by omega)];by_cases hik:i=k;·rw[ct (dt (by omega)),gi rfl,ct pij,ct iB,aM (by omega) (by omega)];refine fin _ (hset _ ?_);rw[hF,dt hik,Int.zero_sub];rfl
   ·rw[cf (df (by omega))];by_cases hjk:j=k;·rw[gi (by rw[aD];exact dt (by omega)),ct pij,ct iB,aM (by omega) (by omega)];refine fin _ (hset _ ?_);rw[hF,df hik,dt hjk,Int.zero_sub];rfl
    ·rw[fI (by rw[aD];exact df (by omega))];rw[df hik,df hjk]at hF;simp only[ki,Bool.or_self,Bool.false_eq_true,if_false]at hF;have wbc:ac (aj m i k*aj m k j)=aj m i k*aj m k j:=aM (by omega) (by omega);rw[wbc];by_cases a1:0<aj m i k
     ·rw[ct (dt a1)];by_cases a2:0<aj m k j;·rw[ct (dt a2),ct pij,ct iB,aM (by omega) (by omega)];refine fin _ (hset _ ?_);rw[hF,if_pos ⟨a1,a2⟩]
      ·rw[cf (df a2),cf (df (by omega))];refine fin _ (hsame ?_);rw[hF,if_neg (by omega),if_neg (by omega)]
     ·rw[cf (df a1)];by_cases a2:aj m i k<0
      ·rw[ct (dt a2)];by_cases a3:aj m k j<0;·rw[ct (dt a3),ct pij,ct iB,aM (by omega) (by omega)];refine fin _ (hset _ ?_);rw[hF,if_neg (by omega),if_pos ⟨a2,a3⟩]
       ·rw[cf (df a3)];refine fin _ (hsame ?_);rw[hF,if_neg (by omega),if_neg (by omega)]
      ·rw[cf (df a2)];refine fin _ (hsame ?_);rw[hF,if_neg (by omega),if_neg (by omega)]
  ·rw[cf (df (by omega)),show j=m.1.toNat by omega]
def outer(hN:10<=N)(hs:bn m=true)(hk:k<m.1.toNat)(k0:List Int->Int->Int->Int->Int->Option J)(t0 t1 o0 o1:Int):∀(M i:Nat),i<=m.2.1.toNat->m.2.1.toNat-i<M ->
  Z8L N k0 M (cur m k (i*m.1.toNat)) (k:Int) (i:Int) m.1 m.2.1 m.2.2 t0 t1 o0 o1=k0 (cur m k (m.2.1.toNat*m.1.toNat)) t0 t1 o0 o1:=by
 have hd:=dE hs;obtain⟨n,r,hn,hr,hn1,hn5,hnr,hr8,hl⟩:=bf hd;intro M;induction M with
 |zero=>intro i _ h;omega
 |succ M ih =>
  intro i hi hM;simp only[Z8L,Z9,Z10];by_cases h:i<m.2.1.toNat;·rw[ct (dt (by omega))];simp only[Z11,Z12,Z13,Z14,Z15,Z16];have hin:=inner (J:=J) (N:=N) hs hk (λout5_2 k1 i6 m2_0 m2_1 m2_2 t4_0 t4_1 out5_0 out5_1=>Z30 N out5_2 k1 i6 m2_0 m2_1 m2_2 t4_0 t4_1 out5_0 out5_1 (λout5_2 k1 i6 m2_0 m2_1 m2_2 t4_0 t4_1 out5_0 out5_1=>Z8L N k0 M out5_2 k1 i6 m2_0 m2_1 m2_2 t4_0 t4_1 out5_0 out5_1)) t0 t1 o0 o1 h N 0 (by omega) (by omega);rw[show((0:Nat):Int)=0 from rfl,Nat.add_zero]at hin;rw[hin];simp only[Z30];rw[bh (by rw[bv];omega)];have:=ih (i+1) h (by omega);rw[Nat.add_mul,Nat.one_mul]at this;exact this
  ·rw[cf (df (by omega)),show i=m.2.1.toNat by omega]
end
def ok:Spec:=λm k hb hp=>⟨10,λN hN=>by
 simp only[P,Bool.and_eq_true,decide_eq_true_eq]at hp;obtain⟨hs,h0,h1⟩:=hp;obtain⟨x,rfl⟩:=Int.eq_ofNat_of_zero_le h0;have hd:=dE hs;obtain⟨n,r,hn,hr,hn1,hn5,hnr,hr8,hl⟩:=bf hd;have hlen:m.2.2.length<=8*5:=by rw[hl];exact Nat.mul_le_mul hr8 hn5
 simp only[Z0,Z1,Z2,Z3];rw[ct (show dY.P (m.1,(m.2.1,m.2.2))=true from dt (show m.2.2.length<1099511627776 by omega))];simp only[Z4,Z5,Z6,Z7,Z8];have hstart:cur m x 0=m.2.2:=by unfold cur;rw[Df];exact qB 0 rfl
 have hend:cur m x (m.2.1.toNat*m.1.toNat)=(aU m x).2.2:=by
  have e:m.2.1.toNat*m.1.toNat=m.2.2.length:=by rw[hl,hn,hr];simp
  rw[e];exact Dg
 have:=outer (J:=Unit×(Int×Int×List Int)×Unit) hN hs (show x<m.1.toNat by omega) (λout5_2 t4_0 t4_1 out5_0 out5_1=>Z31 N out5_2 t4_0 t4_1 out5_0 out5_1 (λt4_2 t4_0 t4_1=>some ((),((t4_0,(t4_1,t4_2)),())))) 0 0 m.1 m.2.1 N 0 (by omega) (by omega);rw[Nat.zero_mul,hstart,hend]at this;exact this⟩
end bC
namespace fb
def g(m:Int×Int×List Int)(k:Int):(Int×Int×List Int)×Bool :=
 if((bg m&&!decide (bq m=[]))&&(bz k 0 (m.1-1)&&bg (aU m k.toNat)))=true then(aU m k.toNat,true)else((0,0,[]),false)
def Z0{J:Type}(N:Nat)(a:MT)(b:Int)(kr:LI->Bool->I2 (Option J)):Option J :=
 cond (!(lk N ((jq.g a))))
 (
  kr ([]:List Int) false 0 0)
 (
  cond (!(lk N ((gI.g b 0 (ac (a.1-1))))))
  (
   kr ([]:List Int) false 0 0)
  (
   cond (lk N (bC.P a b)) (
    cond (!(lk N ((cj.g (bC.g a b)))))
    (
     kr ([]:List Int) false 0 0)
    (
     kr (bC.g a b).2.2 true (bC.g a b).1 (bC.g a b).2.1)) none))
def Spec:Prop:=∀ (v0:MT) (v1:Int),Ty.bd (.pair (.int .i64) (.pair (.int .i64) (.sl 0 (.int .i64)))) v0->∃N0,∀N,N0<=N->Z0 N v0 v1 (λv4_2 v5 v4_0 v4_1=>some ((),((v4_0,(v4_1,v4_2)),(v5,()))))=some ((),((g v0 v1).1,((g v0 v1).2,())))
def ok:Spec:=λm k hb=>⟨0,λN hN=>by
 simp only[Z0,aD,g,jq.g,gI.g,cj.g];cases h1:(bg m&&!decide (bq m=[]));·rfl
 have hs:bg m=true:=by simp only[Bool.and_eq_true]at h1;exact h1.1
 have hd:=dE (eJ hs);obtain⟨n,r,hn,hr,hn1,hn5,hnr,hr8,hl⟩:=bf hd;rw[aM (by omega) (by omega)];cases h2:bz k 0 (m.1-1);·rfl
 have h3:=cC.1 h2;have hP:bC.P m k=true:=by simp only[bC.P,Bool.and_eq_true,decide_eq_true_eq];exact⟨eJ hs,by omega,by omega⟩
 rw[hP];have hg:bC.g m k=aU m k.toNat:=rfl;rw[hg];cases bg (aU m k.toNat)<;>rfl⟩
end fb
namespace cH
def P(b:List Int)(r:Int×Int)(n:Int):Bool:=bc b r&&bz n 0 5
def stepN(b:List Int)(s:(Int×Int)×List Int)(k:Nat):(Int×Int)×List Int :=
 ((ah.g b s.1 ((s.2.length:Int)+1)).1,s.2.take (ah.g b s.1 ((s.2.length:Int)+1)).2.toNat++[(k:Int)]++s.2.drop (ah.g b s.1 ((s.2.length:Int)+1)).2.toNat)
def g(b:List Int)(r:Int×Int)(n:Int):(Int×Int)×List Int:=(List.range n.toNat).foldl (stepN b) (r,[])
def Z1{J:Type}(N:Nat)(b0:List Int)(r0:Int×Int)(a:Int)(kn:Int->List Int->I2 (Option J)):Option J :=
 kn a b0 r0.1 r0.2
def Z3{J:Type}(N:Nat)(a:Int)(b:List Int)(c d:Int)(kn:LI->Int->List Int->I2 (Option J)):Option J :=
 kn ([]:List Int) a b c d
def Z6{J:Type}(N:Nat)(a:LI)(b:Int)(c:List Int)(d e:Int)(kn:LI->I2 (List Int->I2 (Option J))):Option J :=
 kn a b 0 c d e
def Z9{J:Type}(N:Nat)(a:LI)(f b:Int)(c:List Int)(d e:Int)(kn:LI->I2 (List Int->I2 (Option J)))(k0:LI->List Int->I2 (Option J)):Option J :=
 let x1_:=(ah.g c (d,e) (ac ((a.length:Int)+1)));let x4_:=(lk N (bT 0 x1_.2&&bT x1_.2 a.length));let x7_:=(lk N (Nat.blt (([]:List Int).length+((a.drop 0).take x1_.2.toNat).length) 1099511627776));let x8_:=(([]:List Int)++((a.drop 0).take x1_.2.toNat));let x0_:=(
   cond (lk N (Nat.blt ((x8_++([b]:List Int)).length+((a.drop x1_.2.toNat).take (a.length-x1_.2).toNat).length) 1099511627776)) (
   kn ((x8_++([b]:List Int))++((a.drop x1_.2.toNat).take (a.length-x1_.2).toNat)) f (ac (b+1)) c x1_.1.1 x1_.1.2) none)
 let x5_:=(lk N (Nat.blt (x8_.length+([b]:List Int).length) 1099511627776));let x9_:=(
   ce (
   cond x5_ (
   cond x4_ x0_ none) none)
   (
   cond x4_ (
   cond x5_ x0_ none) none))
 let x2_:=(
   cond x7_ (
   cond x5_ x0_ none) none)
 let x3_:=(
   ce (
   cond x7_ x9_ none)
   (
   cond x4_ x2_ none))
 let x6_:=(
   ce (
   cond x7_ (
   ce x9_
   (
   cond x4_ (
   cond x5_ x0_ none) none)) none)
   (
   ce x3_
   (
   cond x4_ (
   bo x2_) none)))
 let x10_:=(
   ce (
   cond x4_ x3_ none)
   (
   cond x4_ (
   cond x4_ x2_ none) none))
 let x11_:=(
   ce (
   cond x4_ (
   bo x2_) none)
   (
   cond x4_ x2_ none))
 cond (lk N (decide (b<f)))
 (
 cond (lk N (ah.P c (d,e) (ac ((a.length:Int)+1)))) (
 ce (
 ce (
 cond x4_ x6_ none)
 (
 ce x10_
 (
 cond x4_ x11_ none)))
 (
 ce (
 cond x4_ (
 ce x6_
 (
 ce (
 ce x3_
 (
 cond x4_ x2_ none))
 (
 cond x4_ (
 ce (
 bo x2_)
 x2_) none))) none)
 (
 ce (
 ce x10_
 (
 ce (
 cond x4_ (
 ce x3_
 (
 cond x4_ x2_ none)) none)
 (
 cond x4_ (
 bo (
 cond x4_ x2_ none)) none)))
 (
 cond x4_ (
 ce x11_
 (
 ce (
 cond x4_ (
 ce (
 bo x2_)
 x2_) none)
 (
 bo (
 cond x4_ x2_ none)))) none)))) none)
 (
 k0 a c d e)
def Z8L{J:Type}(N:Nat)(k0:LI->List Int->I2 (Option J)):Nat->LI->Int->Int->List Int->Int->Int->Option J
 |0,_,_,_,_,_,_=>none
 |M+1,a,b,c,d,e,f=>Z9 N a b c d e f (λa b c d e f=>Z8L N k0 M a b c d e f) k0
def Z8 N a b c d e f k0:=(Z8L N k0 N a b c d e f:Option J)
def Z7 N a b c d e f kn:=(Z8 N a b c d e f kn:Option J)
def Z5 N a b c d e kn:=(Z6 N a b c d e (λa b f c d e=>Z7 N a b f c d e kn):Option J)
def Z10{J:Type}(N:Nat)(a:LI)(b:List Int)(c d:Int)(kr:LI->List Int->I2 (Option J)):Option J :=
 kr a b c d
def Z4 N a e b c d kr:=(Z5 N a e b c d (λa b c d=>Z10 N a b c d kr):Option J)
def Z2 N a b c d kr:=(Z3 N a b c d (λe a b c d=>Z4 N e a b c d kr):Option J)
def Z0 N b0 r0 a kr:=(Z1 N b0 r0 a (λa b c d=>Z2 N a b c d kr):Option J)
def Spec:Prop:=∀{U:Type} (u:U) (b0:List Int) (r0:Int×Int) (v1:Int),Ty.bd (.sl 0 (.int .u8)) b0->P b0 r0 v1=true->∃N0,∀N,N0<=N->Z0 N b0 r0 v1 (λv4 w0_0 w0_1 w0_2=>some (u,((w0_1,w0_2),((),(v4,())))))=some (u,((g b0 r0 v1).1,((),((g b0 r0 v1).2,()))))
def Er(b:List Int)(s:(Int×Int)×List Int)(k:Nat):(stepN b s k).2.Perm ((k:Int)::s.2):=by unfold stepN;generalize(ah.g b s.1 ((s.2.length:Int)+1)).2.toNat=q;simp only;have h:(s.2.take q++[(k:Int)]++s.2.drop q).Perm ([(k:Int)]++s.2.take q++s.2.drop q):=List.Perm.append_right _ List.perm_append_comm;rw[List.append_assoc [(k:Int)],List.take_append_drop]at h;exact h
def Es(b:List Int):∀(l:List Nat) (s:(Int×Int)×List Int),(l.foldl (stepN b) s).2.Perm (aF l++s.2)
 |[],s=>List.Perm.refl _
 |k::l,s=>by rw[List.foldl_cons];refine(Es b l (stepN b s k)).trans ?_;show(aF l++(stepN b s k).2).Perm ((k:Int)::(aF l++s.2));refine(List.Perm.append_left _ (Er b s k)).trans ?_;exact List.perm_middle
def keeps(b:List Int):∀(l:List Nat) (s:(Int×Int)×List Int),bc b s.1=true->bc b (l.foldl (stepN b) s).1=true
 |[],_,h=>h
 |k::l,s,h=>keeps b l (stepN b s k) (ah.keep h)
def keep{b:List Int}{r:Int×Int}{n:Int}(h:bc b r=true):bc b (g b r n).1=true:=keeps b _ _ h
def OO{l:List Int}{n:Nat}(h:l.Perm (aF (List.range n))):dF l (n:Int)=true:=by
 have hl:l.length=n:=by rw[h.length_eq,cG,List.length_range]
 have hnd:l.Nodup:=by refine h.nodup_iff.2 ?_;unfold aF;refine List.Pairwise.map _ (λa b hab=>?_) (List.nodup_range (n:=n));show((a:Nat):Int)≠((b:Nat):Int);omega
 simp only[dF,Bool.and_eq_true,decide_eq_true_eq];refine⟨by omega,List.all_eq_true.2 λi hi=>?_⟩;have hi:=List.mem_range.1 hi;have hm:=bO (l:=l) (j:=i) 0 hi;have hm2:=h.mem_iff.1 hm;unfold aF at hm2;obtain⟨x,hx,hxe⟩:=List.mem_map.1 hm2;have hx:=List.mem_range.1 hx;simp only[oy,Bool.and_eq_true,cC,Bool.not_eq_true',List.any_eq_false,decide_eq_true_eq];refine⟨by omega,λy hy e=>?_⟩;obtain⟨j,hj,hje⟩:=List.getElem_of_mem hy;rw[List.length_take]at hj;rw[List.getElem_take]at hje;have:l[j]'(by omega)=l[i]:=by rw[hje,e,List.getD_eq_getElem?_getD,List.getElem?_eq_getElem hi];rfl
 exact(List.pairwise_iff_getElem.1 hnd) j i (by omega) hi (by omega) this
def names{b:List Int}{r:Int×Int}(n:Nat):dF (g b r (n:Int)).2 (n:Int)=true:=by have:=Es b (List.range n) (r,[]);rw[List.append_nil]at this;refine OO ?_;unfold g;rw[Int.toNat_natCast];exact this
def loop{J:Type}{N:Nat}{b:List Int}(kk:List Int->List Int->Int->Int->Option J){n:Nat}(hn:n<=5):∀(M k:Nat) (s:(Int×Int)×List Int),k<=n->bc b s.1=true->s.2.length=k->n-k<M ->
  Z8L N kk M s.2 (n:Int) (k:Int) b s.1.1 s.1.2=kk (((List.range n).drop k).foldl (stepN b) s).2 b (((List.range n).drop k).foldl (stepN b) s).1.1 (((List.range n).drop k).foldl (stepN b) s).1.2:=by
 intro M;induction M with
 |zero=>intro k s _ _ _ h;omega
 |succ M ih =>
  intro k s hk hs hl hM;simp only[Z8L,Z9];by_cases h:k<n
  ·have es:((s.1.1,s.1.2):Int×Int)=s.1:=rfl;have w0:ac ((s.2.length:Int)+1)=(s.2.length:Int)+1:=aM (by omega) (by omega);have hr:=ah.range (b:=b) (r:=s.1) (n:=(s.2.length:Int)+1) (by omega) (by omega);have hP:ah.P b s.1 ((s.2.length:Int)+1)=true:=hs;have hst:stepN b s k=((ah.g b s.1 ((s.2.length:Int)+1)).1,s.2.take (ah.g b s.1 ((s.2.length:Int)+1)).2.toNat++[(k:Int)]++s.2.drop (ah.g b s.1 ((s.2.length:Int)+1)).2.toNat):=rfl;have hstl:(stepN b s k).2.length=k+1:=by have:=(Er b s k).length_eq;rw[List.length_cons]at this;omega
   have hkeep:bc b (stepN b s k).1=true:=ah.keep hs;rw[ct (dt (by omega)),iA h,List.foldl_cons];have nxt:=ih (k+1) (stepN b s k) h hkeep hstl (by omega);rw[hst]at nxt ⊢;rw[<-nxt];simp only[es,w0];generalize hx:ah.g b s.1 ((s.2.length:Int)+1)=x at hr;obtain⟨q,hq⟩:=Int.eq_ofNat_of_zero_le hr.1;have hq1:q<=s.2.length:=by omega
   have c1:(bT 0 x.2&&bT x.2 s.2.length)=true:=by rw[hq,jD (by omega),jD (by omega)];rfl
   have c2:∀l:List Int,l.length<=20->∀m:List Int,m.length<=20->Nat.blt (l.length+m.length) 1099511627776=true:=λl h1 m h2=>Nat.ble_eq_true_of_le (by omega);have l1:((s.2.drop 0).take x.2.toNat).length<=6:=by rw[List.length_take,List.length_drop];omega
   have l2:((s.2.drop x.2.toNat).take ((s.2.length:Int)-x.2).toNat).length<=6:=by rw[List.length_take,List.length_drop];omega
   have e2:(s.2.drop x.2.toNat).take ((s.2.length:Int)-x.2).toNat=s.2.drop x.2.toNat:=List.take_of_length_le (by rw[List.length_drop];omega);have w1:ac ((k:Int)+1)=((k+1:Nat):Int):=bh (by rw[bv];omega);have l3:(s.2.take x.2.toNat).length<=6:=by rw[List.length_take];omega
   have l4:(s.2.drop x.2.toNat).length<=6:=by rw[List.length_drop];omega
   have d1:=c2 [] (by simp) (s.2.take x.2.toNat) (by omega);have d2:=c2 (s.2.take x.2.toNat) (by omega) [(k:Int)] (by simp);have d3:=c2 (s.2.take x.2.toNat++[(k:Int)]) (by rw[List.length_append,List.length_singleton];omega) (s.2.drop x.2.toNat) (by omega);simp only[aD,hP,c1,d1,d2,d3,cond_true,fG,w1,e2,List.nil_append,List.drop_zero,hx]
  ·rw[cf (df (by omega)),List.drop_of_length_le (by rw[List.length_range];omega)];rfl
def ok:Spec:=λu b r n hb hp=>⟨10,λN hN=>by simp only[P,Bool.and_eq_true,cC]at hp;obtain⟨h,h0,h5⟩:=hp;obtain⟨k,rfl⟩:=Int.eq_ofNat_of_zero_le h0;simp only[Z0,Z1,Z2,Z3,Z4,Z5,Z6,Z7,Z8];refine(loop _ (by omega) N 0 (r,[]) (Nat.zero_le _) h rfl (by omega)).trans ?_;rw[List.drop_zero];rfl⟩
end cH
namespace bM
def P(m:Int×Int×List Int)(names:List Int):Bool:=aO m&&dF names m.1
def g(m:Int×Int×List Int)(names:List Int):Int×Int×List Int:=b9 m names
def Z1{J:Type}(N:Nat)(a:MT)(b:LI)(kn:LI->I2 (LI->I2 (Option J))):Option J :=
 kn b a.1 a.2.1 a.2.2 0 0
def Z3{J:Type}(N:Nat)(d:LI)(a b:Int)(c:LI)(e f:Int)(kn:LI->LI->I2 (LI->I4 (Option J))):Option J :=
 cond (lk N (dY.P (a,(b,c)))) (
  kn (dY.g (a,(b,c))).2.2 d a b c e f (dY.g (a,(b,c))).1 (dY.g (a,(b,c))).2.1) none
def Z6{J:Type}(N:Nat)(a b:LI)(c d:Int)(e:LI)(f g h i:Int)(kn:LI->LI->I3 (LI->I4 (Option J))):Option J :=
 kn a b 0 c d e f g h i
def Z10{J:Type}(N:Nat)(a h:LI)(b i c:Int)(j:LI)(d e f g:Int)(kn:LI->LI->I3 (LI->I4 (Option J)))(k0:LI->I4 (Option J)):Option J :=
 cond (lk N (decide (b<c)))
 (
  kn a h b i c j d e f g)
 (
  k0 a d e f g)
def Z14{J:Type}(N:Nat)(b c:LI)(a d e:Int)(f:LI)(g h i j:Int)(kn:LI->LI->I4 (LI->I4 (Option J))):Option J :=
 kn b c a a d e f g h i j
def Z16{J:Type}(N:Nat)(d b:LI)(a l c e:Int)(f:LI)(g h i j:Int)(kn:LI->LI->I4 (LI->I4 (Option J))):Option J :=
 cond (lk N (decide (a<c)))
 (
  cond (lk N (ax a b.length)) (
   kn d b a (b.getD a.toNat 0) c e f g h i j) none)
 (
  kn d b a l c e f g h i j)
def Z18{J:Type}(N:Nat)(a b:LI)(c d e f:Int)(g:LI)(h i j l:Int)(kn:LI->LI->I5 (LI->I4 (Option J))):Option J :=
 kn a b c d 0 e f g h i j l
def Z21{J:Type}(N:Nat)(h c:LI)(d i a b e:Int)(f:LI)(j l m o:Int)(kn:LI->LI->I5 (LI->I4 (Option J)))(k2:LI->LI->I3 (LI->I4 (Option J))):Option J :=
 cond (lk N (decide (a<b)))
 (
  cond (lk N (ax a c.length)) (
   cond (lk N (bG.P (b,(e,f)) d a)) (
    cond (lk N (ax (ac ((ac (i*b))+(c.getD a.toNat 0))) h.length)) (
     kn (h.set (ac ((ac (i*b))+(c.getD a.toNat 0))).toNat (bG.g (b,(e,f)) d a)) c d i (ac (a+1)) b e f j l m o) none) none) none)
 (
  k2 h c d b e f j l m o)
def Z20L{J:Type}(N:Nat)(k2:LI->LI->I3 (LI->I4 (Option J))):Nat->LI->LI->Int->Int->Int->Int->Int->LI->Int->Int->Int->Int->Option J
 |0,_,_,_,_,_,_,_,_,_,_,_,_=>none
 |M+1,a,b,c,d,e,f,g,h,i,j,l,m=>Z21 N a b c d e f g h i j l m (λa b c d e f g h i j l m=>Z20L N k2 M a b c d e f g h i j l m) k2
def Z20 N a b c d e f g h i j l m k2:=(Z20L N k2 N a b c d e f g h i j l m:Option J)
def Z19 N a b c d e f g h i j l m kn:=(Z20 N a b c d e f g h i j l m kn:Option J)
def Z17 N a b c d e f g h i j l kn:=(Z18 N a b c d e f g h i j l (λa b c d m e f g h i j l=>Z19 N a b c d m e f g h i j l kn):Option J)
def Z15 N a b c d e f g h i j l kn:=(Z16 N a b c d e f g h i j l (λa b c d e f g h i j l=>Z17 N a b c d e f g h i j l kn):Option J)
def Z13 N a b c d e f g h i j kn:=(Z14 N a b c d e f g h i j (λa b c l d e f g h i j=>Z15 N a b c l d e f g h i j kn):Option J)
def Z12 N a b c d e f g h i j kn:=(Z13 N a b c d e f g h i j kn:Option J)
def Z22{J:Type}(N:Nat)(a b:LI)(c d e:Int)(f:LI)(g h i j:Int)(kn:LI->LI->I3 (LI->I4 (Option J))):Option J :=
 kn a b (ac (c+1)) d e f g h i j
def Z11 N a b c d e f g h i j kn:=(Z12 N a b c d e f g h i j (λa b c d e f g h i j=>Z22 N a b c d e f g h i j kn):Option J)
def Z9 N a b c d e f g h i j kn k0:=(Z10 N a b c d e f g h i j (λa b c d e f g h i j=>Z11 N a b c d e f g h i j kn) k0:Option J)
def Z8L{J:Type}(N:Nat)(k0:LI->I4 (Option J)):Nat->LI->LI->Int->Int->Int->LI->Int->Int->Int->Int->Option J
 |0,_,_,_,_,_,_,_,_,_,_=>none
 |M+1,a,b,c,d,e,f,g,h,i,j=>Z9 N a b c d e f g h i j (λa b c d e f g h i j=>Z8L N k0 M a b c d e f g h i j) k0
def Z8 N a b c d e f g h i j k0:=(Z8L N k0 N a b c d e f g h i j:Option J)
def Z7 N a b c d e f g h i j kn:=(Z8 N a b c d e f g h i j kn:Option J)
def Z5 N a b c d e f g h i kn:=(Z6 N a b c d e f g h i (λa b j c d e f g h i=>Z7 N a b j c d e f g h i kn):Option J)
def Z23{J:Type}(N:Nat)(a:LI)(d e b c:Int)(kr:LI->I2 (Option J)):Option J :=
 kr a b c
def Z4 N a f g h i b c d e kr:=(Z5 N a f g h i b c d e (λa b c d e=>Z23 N a b c d e kr):Option J)
def Z2 N a b c d e f kr:=(Z3 N a b c d e f (λg a b c d e f h i=>Z4 N g a b c d e f h i kr):Option J)
def Z0 N b a kr:=(Z1 N b a (λa c d e f g=>Z2 N a c d e f g kr):Option J)
def Spec:Prop:=∀ (v0:MT) (v1:LI),Ty.bd (.pair (.int .i64) (.pair (.int .i64) (.sl 0 (.int .i64)))) v0->Ty.bd (.sl 0 (.int .i64)) v1->P v0 v1=true->∃N0,∀N,N0<=N->Z0 N v0 v1 (λv4_2 v4_0 v4_1=>some ((),((v4_0,(v4_1,v4_2)),())))=some ((),((g v0 v1),()))
section
variable {J : Type} {N : Nat} {m : Int × Int × List Int} {L : List Nat}
def at_g(hd:0<=m.1)(a b:Nat):bG.g (m.1,(m.2.1,m.2.2)) (a:Int) (b:Int)=aj m a b:=jE hd a b
def at_p(hd:aO m=true){a b:Nat}(ha:a<m.2.1.toNat)(hb:b<m.1.toNat):bG.P (m.1,(m.2.1,m.2.2)) (a:Int) (b:Int)=true:=jF hd ha hb
def cur(m:Int×Int×List Int)(L:List Nat)(st:List Int)(t:Nat):List Int:=iE m.2.2.length t (eV m.1.toNat L) (λp=>m.2.2.getD (eV m.1.toNat L p) 0) (λp=>st.getD p 0)
def inner(hd:aO m=true)(h1:L.Nodup)(h2:∀x∈L,x<m.1.toNat)(h3:L.length=m.1.toNat)(st:List Int)(k2:List Int->List Int->Int->Int->Int->List Int->Int->Int->Int->Int->Option J)(t0 t1 o0 o1:Int){i:Nat}(hi:i<m.2.1.toNat):∀(M j:Nat),j<=m.1.toNat->m.1.toNat-j<M ->
  Z20L N k2 M (cur m L st (i*m.1.toNat+j)) (aF L) (i:Int) ((cD m.1.toNat L i:Nat):Int) (j:Int) m.1 m.2.1 m.2.2 t0 t1 o0 o1=k2 (cur m L st (i*m.1.toNat+m.1.toNat)) (aF L) (i:Int) m.1 m.2.1 m.2.2 t0 t1 o0 o1:=by
 obtain⟨n,r,hn,hr,hn1,hn5,hnr,hr8,hl⟩:=bf hd;have hnr':m.1.toNat<=m.2.1.toNat:=by omega
 intro M;induction M with
 |zero=>intro j _ h;omega
 |succ M ih =>
  intro j hj hM;simp only[Z20L,Z21];by_cases h:j<m.1.toNat
  ·have hx:=h2 _ (bO (l:=L) (j:=j) 0 (by omega));have hrow:=yA h1 h2 h3 hnr' hi;have hlt:cD m.1.toNat L i*m.1.toNat+L.getD j 0<m.2.2.length:=by
    have:=hY (n:=m.1.toNat) (r:=m.2.1.toNat) hrow hx;rw[hl];have e:m.2.1.toNat*m.1.toNat=r*n:=by rw[hn,hr];rfl
    omega
   have hidx:ac (ac (((cD m.1.toNat L i:Nat):Int)*m.1)+((L.getD j 0:Nat):Int))=((cD m.1.toNat L i*m.1.toNat+L.getD j 0:Nat):Int):=by
    have e:((cD m.1.toNat L i:Nat):Int)*m.1=((cD m.1.toNat L i*m.1.toNat:Nat):Int):=by rw[hn,Int.natCast_mul];simp
    have hb:cD m.1.toNat L i*m.1.toNat<=8*5:=Nat.mul_le_mul (by omega) (by omega);have e2:ac (((cD m.1.toNat L i*m.1.toNat:Nat):Int))=((cD m.1.toNat L i*m.1.toNat:Nat):Int):=aM (by omega) (by omega);rw[e,e2,aM (by omega) (by omega)];omega
   have hset:(cur m L st (i*m.1.toNat+j)).set (cD m.1.toNat L i*m.1.toNat+L.getD j 0) (aj m i j)=cur m L st (i*m.1.toNat+(j+1)):=by have e:=DE (total:=m.2.2.length) (t:=i*m.1.toNat+j) (p:=cD m.1.toNat L i*m.1.toNat+L.getD j 0) (back:=eV m.1.toNat L) (F:=λp=>m.2.2.getD (eV m.1.toNat L p) 0) (G:=λp=>st.getD p 0) hlt (tA h1 h2 h3 hnr' h) (λq _ hq=>DJ h1 h2 h3 hnr' h hq);simp only[tA h1 h2 h3 hnr' h]at e;exact e
   rw[ct (dt (by omega)),ct (aN (by rw[cG];omega)),ct (at_p hd hi h)];simp only[Int.toNat_natCast,gD,hidx];rw[ct (aN (by rw[cur,qI];exact hlt)),at_g (by omega),hset,bh (by rw[bv];omega)];exact ih (j+1) h (by omega)
  ·rw[cf (df (by omega)),show j=m.1.toNat by omega]
def outer(hN:10<=N)(hd:aO m=true)(h1:L.Nodup)(h2:∀x∈L,x<m.1.toNat)(h3:L.length=m.1.toNat)(st:List Int)(k0:List Int->Int->Int->Int->Int->Option J)(t0 t1 o0 o1:Int):∀(M i:Nat),i<=m.2.1.toNat->m.2.1.toNat-i<M ->
  Z8L N k0 M (cur m L st (i*m.1.toNat)) (aF L) (i:Int) m.1 m.2.1 m.2.2 t0 t1 o0 o1=k0 (cur m L st (m.2.1.toNat*m.1.toNat)) t0 t1 o0 o1:=by
 obtain⟨n,r,hn,hr,hn1,hn5,hnr,hr8,hl⟩:=bf hd;intro M;induction M with
 |zero=>intro i _ h;omega
 |succ M ih =>
  intro i hi hM;simp only[Z8L,Z9,Z10];by_cases h:i<m.2.1.toNat
  ·have hin:=inner (J:=J) (N:=N) hd h1 h2 h3 st (λout5_2 names1 i6 m2_0 m2_1 m2_2 t4_0 t4_1 out5_0 out5_1=>Z22 N out5_2 names1 i6 m2_0 m2_1 m2_2 t4_0 t4_1 out5_0 out5_1 (λout5_2 names1 i6 m2_0 m2_1 m2_2 t4_0 t4_1 out5_0 out5_1=>Z8L N k0 M out5_2 names1 i6 m2_0 m2_1 m2_2 t4_0 t4_1 out5_0 out5_1)) t0 t1 o0 o1 h N 0 (by omega) (by omega);rw[show((0:Nat):Int)=0 from rfl,Nat.add_zero]at hin;have hnext:=ih (i+1) h (by omega);rw[Nat.add_mul,Nat.one_mul]at hnext;rw[ct (dt (by omega))];simp only[Z11,Z12,Z13,Z14,Z15,Z16];by_cases hin':i<m.1.toNat;·rw[ct (dt (by omega)),ct (aN (by rw[cG];omega)),Int.toNat_natCast,gD];rw[cD,if_pos hin']at hin;simp only[Z17,Z18,Z19,Z20];rw[hin];simp only[Z22];rw[bh (by rw[bv];omega)];exact hnext
   ·rw[cf (df (by omega))];rw[cD,if_neg hin']at hin;simp only[Z17,Z18,Z19,Z20];rw[hin];simp only[Z22];rw[bh (by rw[bv];omega)];exact hnext
  ·rw[cf (df (by omega)),show i=m.2.1.toNat by omega]
def cur_start(L:List Nat):cur m L m.2.2 0=m.2.2:=by unfold cur;rw[DF];exact qB 0 rfl
def cur_end(hd:aO m=true)(h1:L.Nodup)(h2:∀x∈L,x<m.1.toNat)(h3:L.length=m.1.toNat)(st:List Int):cur m L st (m.2.1.toNat*m.1.toNat)=(b9 m (aF L)).2.2:=by
 obtain⟨n,r,hn,hr,hn1,hn5,hnr,hr8,hl⟩:=bf hd;have e:m.2.1.toNat*m.1.toNat=m.2.2.length:=by rw[hl,hn,hr];simp
 rw[e];unfold cur b9;rw[iD];exact DG (λp hp=>by have:=DK h1 h2 h3 (r:=m.2.1.toNat) (by omega) (by omega) (q:=p) (by omega);omega)
end
def ok:Spec:=λm names hb hv hp=>⟨10,λN hN=>by
 simp only[P,Bool.and_eq_true]at hp;obtain⟨hd,hnm⟩:=hp;obtain⟨L,rfl,h1,h2,h3⟩:=kj hnm;obtain⟨n,r,hn,hr,hn1,hn5,hnr,hr8,hl⟩:=bf hd;have hlen:m.2.2.length<=8*5:=by rw[hl];exact Nat.mul_le_mul hr8 hn5
 simp only[Z0,Z1,Z2,Z3];rw[ct (show dY.P (m.1,(m.2.1,m.2.2))=true from dt (show m.2.2.length<1099511627776 by omega))];simp only[Z4,Z5,Z6,Z7,Z8];have:=outer (J:=Unit×(Int×Int×List Int)×Unit) hN hd h1 h2 h3 m.2.2 (λout5_2 t4_0 t4_1 out5_0 out5_1=>Z23 N out5_2 t4_0 t4_1 out5_0 out5_1 (λt4_2 t4_0 t4_1=>some ((),((t4_0,(t4_1,t4_2)),())))) 0 0 m.1 m.2.1 N 0 (by omega) (by omega);rw[Nat.zero_mul,cur_start,cur_end hd h1 h2 h3]at this;exact this⟩
end bM
namespace bY
def P(b:List Int)(r:Int×Int)(m:Int×Int×List Int):Bool:=bc b r&&aO m
abbrev S:=(Int×Int)×(Int×Int×List Int)
def moveS(b:List Int)(s:S):S :=
 ((ah.g b s.1 s.2.1).1,if(fb.g s.2 (ah.g b s.1 s.2.1).2).2=true then(fb.g s.2 (ah.g b s.1 s.2.1).2).1 else s.2)
def walkS(b:List Int):Nat->S->S
 |0,s=>s
 |n+1,s=>walkS b n (moveS b s)
def walked(b:List Int)(r:Int×Int)(m:Int×Int×List Int):S:=walkS b (ah.g b r 4).2.toNat ((ah.g b r 4).1,m)
def g(b:List Int)(r:Int×Int)(m:Int×Int×List Int):(Int×Int)×(Int×Int×List Int) :=
 ((cH.g b (walked b r m).1 (walked b r m).2.1).1,bM.g (walked b r m).2 (cH.g b (walked b r m).1 (walked b r m).2.1).2)
def Z1{J:Type}(N:Nat)(b0:List Int)(r0:Int×Int)(a:MT)(kn:List Int->I4 (LI->I2 (Option J))):Option J :=
 kn b0 r0.1 r0.2 a.1 a.2.1 a.2.2 0 0
def Z3{J:Type}(N:Nat)(a:List Int)(b c d e:Int)(f:LI)(h i:Int)(kn:Int->List Int->I4 (LI->I2 (Option J))):Option J :=
 cond (lk N (ah.P a (b,c) 4)) (
  kn (ah.g a (b,c) 4).2 a (ah.g a (b,c) 4).1.1 (ah.g a (b,c) 4).1.2 d e f h i) none
def Z6{J:Type}(N:Nat)(a:Int)(b:List Int)(c d e f:Int)(g:LI)(h i:Int)(kn:I2 (List Int->I4 (LI->I2 (Option J)))):Option J :=
 kn a 0 b c d e f g h i
def Z9{J:Type}(N:Nat)(c d:Int)(a:List Int)(e f b h:Int)(i:LI)(j l:Int)(kn:I2 (List Int->I4 (LI->I2 (Option J))))(k0:List Int->I4 (LI->I2 (Option J))):Option J :=
 let x1_:=(ah.g a (e,f) b);let x2_:=(fb.g (b,(h,i)) x1_.2);let x3_:=(lk N (ah.P a (e,f) b));let x0_:=(
   cond (lk N (x2_.2))
   (
   kn c (ac (d+1)) a x1_.1.1 x1_.1.2 x2_.1.1 x2_.1.2.1 x2_.1.2.2 j l)
   (
   kn c (ac (d+1)) a x1_.1.1 x1_.1.2 b h i j l))
 cond (lk N (decide (d<c)))
 (
 ce (
 ce (
 cond x3_ (
 bo x0_) none)
 (
 cond x3_ x0_ none))
 (
 ce (
 cond x3_ (
 ce (
 bo x0_)
 x0_) none)
 (
 bo (
 cond x3_ x0_ none))))
 (
 k0 a e f b h i j l)
def Z8L{J:Type}(N:Nat)(k0:List Int->I4 (LI->I2 (Option J))):Nat->Int->Int->List Int->Int->Int->Int->Int->LI->Int->Int->Option J
 |0,_,_,_,_,_,_,_,_,_,_=>none
 |M+1,a,b,c,d,e,f,g,h,i,j=>Z9 N a b c d e f g h i j (λa b c d e f g h i j=>Z8L N k0 M a b c d e f g h i j) k0
def Z8 N a b c d e f g h i j k0:=(Z8L N k0 N a b c d e f g h i j:Option J)
def Z7 N a b c d e f g h i j kn:=(Z8 N a b c d e f g h i j kn:Option J)
def Z5 N a b c d e f g h i kn:=(Z6 N a b c d e f g h i (λa j b c d e f g h i=>Z7 N a j b c d e f g h i kn):Option J)
def Z10{J:Type}(N:Nat)(b:List Int)(c d a e:Int)(f:LI)(h i:Int)(kr:LI->I2 (List Int->I2 (Option J))):Option J :=
 bo (
  cond (lk N (cH.P b (c,d) a)) (
   cond (lk N (bM.P (a,(e,f)) (cH.g b (c,d) a).2)) (
    kr (bM.g (a,(e,f)) (cH.g b (c,d) a).2).2.2 (bM.g (a,(e,f)) (cH.g b (c,d) a).2).1 (bM.g (a,(e,f)) (cH.g b (c,d) a).2).2.1 b (cH.g b (c,d) a).1.1 (cH.g b (c,d) a).1.2) none) none)
def Z4 N i a b c d e f g h kr:=(Z5 N i a b c d e f g h (λa b c d e f g h=>Z10 N a b c d e f g h kr):Option J)
def Z2 N a b c d e f g h kr:=(Z3 N a b c d e f g h (λi a b c d e f g h=>Z4 N i a b c d e f g h kr):Option J)
def Z0 N b0 r0 a kr:=(Z1 N b0 r0 a (λb c d e f g h i=>Z2 N b c d e f g h i kr):Option J)
def Spec:Prop:=∀{U:Type} (u:U) (b0:List Int) (r0:Int×Int) (v1:MT),Ty.bd (.sl 0 (.int .u8)) b0->Ty.bd (.pair (.int .i64) (.pair (.int .i64) (.sl 0 (.int .i64)))) v1->P b0 r0 v1=true->∃N0,∀N,N0<=N->Z0 N b0 r0 v1 (λv4_2 v4_0 v4_1 w0_0 w0_1 w0_2=>some (u,((w0_1,w0_2),((),((v4_0,(v4_1,v4_2)),())))))=some (u,((g b0 r0 v1).1,((),((g b0 r0 v1).2,()))))
def mut_step{m:Int×Int×List Int}{k:Int}(h:(fb.g m k).2=true):(fb.g m k).1=aU m k.toNat:=by
 unfold fb.g at h ⊢;split at h;·rename_i hc;rw[if_pos hc]
 ·cases h
structure Jd(b:List Int)(n q:Int)(s:S):Prop where
 cur:bc b s.1=true
 dim:aO s.2=true
 hn:s.2.1=n
 hr:s.2.2.1=q
def Jd.move{b:List Int}{n q:Int}{s:S}(h:Jd b n q s):Jd b n q (moveS b s):=by
 unfold moveS;by_cases hc:(fb.g s.2 (ah.g b s.1 s.2.1).2).2=true;·rw[if_pos hc,mut_step hc];exact⟨ah.keep h.cur,mT h.dim _,h.hn,h.hr⟩
 ·rw[if_neg hc];exact⟨ah.keep h.cur,h.dim,h.hn,h.hr⟩
def Jd.walk{b:List Int}{n q:Int}:∀(c:Nat) {s:S},Jd b n q s->Jd b n q (walkS b c s)
 |0,_,h=>h
 |c+1,s,h=>Jd.walk c h.move
def zf{b:List Int}{r:Int×Int}{m:Int×Int×List Int}(h:bc b r=true)(hd:aO m=true):Jd b m.1 m.2.1 (walked b r m) :=
 Jd.walk _ ⟨ah.keep h,hd,rfl,rfl⟩
def keep{b:List Int}{r:Int×Int}{m:Int×Int×List Int}(h:bc b r=true)(hd:aO m=true):bc b (g b r m).1=true:=cH.keep (zf h hd).cur
def dim{b:List Int}{r:Int×Int}{m:Int×Int×List Int}(h:bc b r=true)(hd:aO m=true):aO (g b r m).2=true/\(g b r m).2.1=m.1/\(g b r m).2.2.1=m.2.1:=by have hj:=zf h hd;refine⟨?_,hj.hn,hj.hr⟩;have:=hj.dim;simpa[aO,g,bM.g,b9]using this
def loop{J:Type}{N:Nat}{b:List Int}(kk:List Int->Int->Int->Int->Int->List Int->Int->Int->Option J)(t0 t1 n0 q0:Int){c:Nat}(hc:c<=5):∀(M i:Nat) (s:S),i<=c->Jd b n0 q0 s->c-i<M ->
  Z8L N kk M (c:Int) (i:Int) b s.1.1 s.1.2 s.2.1 s.2.2.1 s.2.2.2 t0 t1=kk b (walkS b (c-i) s).1.1 (walkS b (c-i) s).1.2 (walkS b (c-i) s).2.1 (walkS b (c-i) s).2.2.1 (walkS b (c-i) s).2.2.2 t0 t1:=by
 intro M;induction M with
 |zero=>intro i s _ _ h;omega
 |succ M ih =>
  intro i s hi hs hM;simp only[Z8L,Z9];by_cases h:i<c
  ·have es:((s.1.1,s.1.2):Int×Int)=s.1:=rfl;have em:((s.2.1,(s.2.2.1,s.2.2.2)):Int×Int×List Int)=s.2:=rfl;have hP:ah.P b s.1 s.2.1=true:=hs.cur;have w1:ac ((i:Int)+1)=((i+1:Nat):Int):=bh (by rw[bv];omega);rw[ct (dt (by omega))];have nxt:=ih (i+1) (moveS b s) h hs.move (by omega);have ec:c-i=(c-(i+1))+1:=by omega
   rw[ec];show _=kk b (walkS b (c-(i+1)) (moveS b s)).1.1 (walkS b (c-(i+1)) (moveS b s)).1.2 (walkS b (c-(i+1)) (moveS b s)).2.1 (walkS b (c-(i+1)) (moveS b s)).2.2.1 (walkS b (c-(i+1)) (moveS b s)).2.2.2 t0 t1;rw[<-nxt];simp only[aD,es,em,hP,cond_true,fG,w1];unfold moveS;cases hq:(fb.g s.2 (ah.g b s.1 s.2.1).2).2;·rw[if_neg (by simp)];rfl
   ·rw[if_pos rfl];rfl
  ·rw[cf (df (by omega)),show c-i=0 by omega];rfl
def ok:Spec:=λu b r m hb hbm hp=>⟨10,λN hN=>by
 simp only[P,Bool.and_eq_true]at hp;obtain⟨h,hd⟩:=hp;have h0:=ah.keep (n:=4) h;have p0:ah.P b r 4=true:=h;have er:((r.1,r.2):Int×Int)=r:=rfl;have hr:=ah.range (b:=b) (r:=r) (n:=4) (by omega) (by omega);simp only[Z0,Z1,Z2,Z3,aD,er,p0,cond_true,Z4,Z5,Z6,Z7,Z8];have hj:=zf h hd;obtain⟨c,hc⟩:=Int.eq_ofNat_of_zero_le hr.1;have hw:walked b r m=walkS b (c-0) ((ah.g b r 4).1,m):=by unfold walked;rw[hc];rfl
 rw[hc];refine(loop _ 0 0 m.1 m.2.1 (by omega) N 0 ((ah.g b r 4).1,m) (Nat.zero_le _) ⟨h0,hd,rfl,rfl⟩ (by omega)).trans ?_;simp only[g];rw[<-hw];have es:(((walked b r m).1.1,(walked b r m).1.2):Int×Int)=(walked b r m).1:=rfl;have em:(((walked b r m).2.1,((walked b r m).2.2.1,(walked b r m).2.2.2)):Int×Int×List Int)=(walked b r m).2:=rfl;obtain⟨n,q,hn,_,hn1,hn5,_⟩:=bf hj.dim;have pn:cH.P b (walked b r m).1 (walked b r m).2.1=true:=by simp only[cH.P,Bool.and_eq_true,cC];exact⟨hj.cur,by omega,by omega⟩
 have hnm:dF (cH.g b (walked b r m).1 (walked b r m).2.1).2 (walked b r m).2.1=true:=by rw[hn];exact cH.names n
 have pr:bM.P (walked b r m).2 (cH.g b (walked b r m).1 (walked b r m).2.1).2=true:=by simp only[bM.P,Bool.and_eq_true];exact⟨hj.dim,hnm⟩
 simp only[Z10,aD,es,em,pn,pr,cond_true,fG]⟩
end bY
namespace ed
def P(b:List Int)(r:Int×Int)(most:Int):Bool:=bc b r&&bz most 1 4
def g(b:List Int)(r:Int×Int)(most:Int):(Int×Int)×(Int×Int×List Int)×ByteArray :=
 ((bY.g b (spec_dTree.g b r most).1 (spec_dTree.g b r most).2.1).1,(bY.g b (spec_dTree.g b r most).1 (spec_dTree.g b r most).2.1).2,(spec_dTree.g b r most).2.2)
def Z0{J:Type}(N:Nat)(b0:List Int)(r0:Int×Int)(a:Int)(kr:LI->ByteArray->I2 (List Int->I2 (Option J))):Option J :=
 cond (lk N (spec_dTree.P b0 r0 a)) (
  cond (lk N (bY.P b0 (spec_dTree.g b0 r0 a).1 (spec_dTree.g b0 r0 a).2.1)) (
   kr (bY.g b0 (spec_dTree.g b0 r0 a).1 (spec_dTree.g b0 r0 a).2.1).2.2.2 (spec_dTree.g b0 r0 a).2.2 (bY.g b0 (spec_dTree.g b0 r0 a).1 (spec_dTree.g b0 r0 a).2.1).2.1 (bY.g b0 (spec_dTree.g b0 r0 a).1 (spec_dTree.g b0 r0 a).2.1).2.2.1 b0 (bY.g b0 (spec_dTree.g b0 r0 a).1 (spec_dTree.g b0 r0 a).2.1).1.1 (bY.g b0 (spec_dTree.g b0 r0 a).1 (spec_dTree.g b0 r0 a).2.1).1.2) none) none
def Spec:Prop:=∀{U:Type} (u:U) (b0:List Int) (r0:Int×Int) (v1:Int),Ty.bd (.sl 0 (.int .u8)) b0->P b0 r0 v1=true->∃N0,∀N,N0<=N->Z0 N b0 r0 v1 (λv4_2 v5 v4_0 v4_1 w0_0 w0_1 w0_2=>some (u,((w0_1,w0_2),((),((v4_0,(v4_1,v4_2)),(v5,()))))))=some (u,((g b0 r0 v1).1,((),((g b0 r0 v1).2.1,((g b0 r0 v1).2.2,())))))
def facts{b:List Int}{r:Int×Int}{most:Int}(h:bc b r=true)(h1:1<=most)(h4:most<=4):bc b (g b r most).1=true/\aO (g b r most).2.1=true/\(g b r most).2.1.1<=4/\(g b r most).2.1.2.1=(g b r most).2.1.1:=by obtain⟨q,q1,q4,hj⟩:=spec_dTree.facts h h1 h4;obtain⟨d1,d2,d3⟩:=bY.dim hj.cur hj.dim;have e1:=hj.hn;have e2:=hj.hr;exact⟨bY.keep hj.cur hj.dim,d1,by show(bY.g b _ _).2.1<=4;rw[d2,e1];exact q4,by show(bY.g b _ _).2.2.1=(bY.g b _ _).2.1;rw[d2,d3,e1,e2]⟩
def ok:Spec:=λu b r most hb hp=>⟨0,λN hN=>by
 simp only[P,Bool.and_eq_true,cC]at hp;obtain⟨q,q1,q4,hj⟩:=spec_dTree.facts hp.1 hp.2.1 hp.2.2;have p1:spec_dTree.P b r most=true:=by simp only[spec_dTree.P,Bool.and_eq_true,cC];exact⟨hp.1,hp.2⟩
 have p2:bY.P b (spec_dTree.g b r most).1 (spec_dTree.g b r most).2.1=true:=by simp only[bY.P,Bool.and_eq_true];exact⟨hj.cur,hj.dim⟩
 simp only[Z0,aD,p1,p2,cond_true];rfl⟩
end ed
namespace cJ
def P(b:List Int)(r:Int×Int):Bool:=bc b r
def g(b:List Int)(r:Int×Int):(Int×Int)×(Int×Int×List Int) :=
 if(bX.g b r 3).2=true then aX.g b (bX.g b r 3).1 else((ed.g b (bX.g b r 3).1 4).1,(ed.g b (bX.g b r 3).1 4).2.1)
def Z0{J:Type}(N:Nat)(b0:List Int)(r0:Int×Int)(kr:LI->I2 (List Int->I2 (Option J))):Option J :=
 cond (lk N (bX.P b0 r0 3)) (
  cond (lk N ((bX.g b0 r0 3).2))
  (
   cond (lk N (aX.P b0 (bX.g b0 r0 3).1)) (
    kr (aX.g b0 (bX.g b0 r0 3).1).2.2.2 (aX.g b0 (bX.g b0 r0 3).1).2.1 (aX.g b0 (bX.g b0 r0 3).1).2.2.1 b0 (aX.g b0 (bX.g b0 r0 3).1).1.1 (aX.g b0 (bX.g b0 r0 3).1).1.2) none)
  (
   cond (lk N (ed.P b0 (bX.g b0 r0 3).1 4)) (
    kr (ed.g b0 (bX.g b0 r0 3).1 4).2.1.2.2 (ed.g b0 (bX.g b0 r0 3).1 4).2.1.1 (ed.g b0 (bX.g b0 r0 3).1 4).2.1.2.1 b0 (ed.g b0 (bX.g b0 r0 3).1 4).1.1 (ed.g b0 (bX.g b0 r0 3).1 4).1.2) none)) none
def Spec:Prop:=∀{U:Type} (u:U) (b0:List Int) (r0:Int×Int),Ty.bd (.sl 0 (.int .u8)) b0->P b0 r0=true->∃N0,∀N,N0<=N->Z0 N b0 r0 (λv2_2 v2_0 v2_1 w0_0 w0_1 w0_2=>some (u,((w0_1,w0_2),((),((v2_0,(v2_1,v2_2)),())))))=some (u,((g b0 r0).1,((),((g b0 r0).2,()))))
def OP(b:List Int)(r:Int×Int):(aX.g b r).2.1<=4:=by
 unfold aX.g;split;·show(3:Int)<=4;decide
 split;·show(2:Int)<=4;decide
 split;·show(3:Int)<=4;decide
 ·show(4:Int)<=4;decide
def facts{b:List Int}{r:Int×Int}(h:bc b r=true):bc b (g b r).1=true/\aO (g b r).2=true/\(g b r).2.1<=4/\(g b r).2.2.1=(g b r).2.1:=by
 have h0:=bX.keep (n:=3) h;unfold g;split;·have:=aX.dim h0;exact⟨aX.keep h0,this.1,OP b _,this.2.symm⟩
 ·exact ed.facts h0 (by omega) (by omega)
def ok:Spec:=λu b r hb hp=>⟨0,λN hN=>by
 have h0:=bX.keep (n:=3) hp;have p0:bX.P b r 3=true:=hp;have p1:aX.P b (bX.g b r 3).1=true:=h0;have p2:ed.P b (bX.g b r 3).1 4=true:=by simp only[ed.P,Bool.and_eq_true,cC];exact⟨h0,by omega,by omega⟩
 simp only[Z0,aD,p0,p1,p2,cond_true,g];cases(bX.g b r 3).2;·rw[if_neg (by simp)];rfl
 ·rw[if_pos rfl];rfl⟩
end cJ
end
end Go.Fw
namespace Go.Fw
def eF(_:Nat):Int:=1
def m8(i:Nat):0<eF i:=by show(0:Int)<1;decide
def Et{b:List Int}{d:Nat->Int}:∀(l:List Nat) {s:spec_dTree.S},(∀i∈l,i+1<s.2.1.toNat/\d i=d (i+1))->bw s.2 d->bw (l.foldl (spec_dTree.chainS b) s).2 d/\(l.foldl (spec_dTree.chainS b) s).2.1=s.2.1
 |[],_,_,h=>⟨h,rfl⟩
 |i::l,s,hl,h=>by obtain⟨h1,h2⟩:=hl i List.mem_cons_self;have g:bw (spec_dTree.chainS b s i).2 d:=ic h rfl (show(i:Int)+1=((i+1:Nat):Int) by omega) (by omega) h1 (by omega) (by omega) (by omega) (by rw[h2]);exact Et l (s:=spec_dTree.chainS b s i) (λx hx=>hl x (List.mem_cons_of_mem _ hx)) g
def Eu{b:List Int}:∀(l:List Nat) {s:spec_dTree.S},(∀i∈l,0<i/\i<s.2.1.toNat)->bw s.2 eF->bw (l.foldl (spec_dTree.starS b) s).2 eF
 |[],_,_,h=>h
 |i::l,s,hl,h=>by obtain⟨h1,h2⟩:=hl i List.mem_cons_self;have g:bw (spec_dTree.starS b s i).2 eF:=ic (i:=0) (j:=i) h rfl rfl (by omega) h2 (by omega) (by omega) (by omega) rfl;exact Eu l (s:=spec_dTree.starS b s i) (λx hx=>hl x (List.mem_cons_of_mem _ hx)) g
def Ev{b:List Int}{r:Int×Int}{n c:Nat}{d:Nat->Int}(hd:∀i,0<d i)(h1:1<=n)(h4:n<=4)(hc:∀i,i<c->i+1<n/\d i=d (i+1)):bw (spec_dTree.chainG b r n c).2 d/\(spec_dTree.chainG b r n c).2.1=(n:Int):=by refine Et (List.range c) (s:=(r,az.g (n:Int))) (λi hi=>?_) (ku (by omega) (by omega) hd);have:=hc i (List.mem_range.1 hi);exact this
def tT(n:Nat)(x y:Int)(i:Nat):Int:=if i+1<n then x else y
def OQ{b:List Int}{r:Int×Int}(k:Int){n:Nat}(h1:1<=n)(h4:n<=4)(hk:k=4\/k=5->2<=n):∃d,bw (spec_dTree.tree b r k n).1.2 d:=by
 have big:∀(x y u v:Int),2<=n->0<u->0<v->-99<=x/\x<=99->-99<=y/\y<=99->u*x=v*y->∃d,bw (spec_dTree.endB b (spec_dTree.chainG b r n (n-2)) n x y).2 d:=by intro x y u v h2 hu hv hx hy he;obtain⟨g1,g2⟩:=Ev (b:=b) (r:=r) (n:=n) (c:=n-2) (d:=tT n u v) (λi=>by unfold tT;split<;>omega) h1 h4 (λi hi=>⟨by omega,by unfold tT;rw[if_pos (by omega),if_pos (by omega)]⟩);refine⟨_,ic (i:=n-2) (j:=n-1) g1 (show(n:Int)-2=((n-2:Nat):Int) by omega) (show(n:Int)-1=((n-1:Nat):Int) by omega) (by omega) (by omega) (by omega) hx hy ?_⟩;unfold tT;rw[if_pos (by omega),if_neg (by omega)];exact he
 unfold spec_dTree.tree;split;·rename_i e;exact big 2 1 1 2 (hk (.inl e)) (by omega) (by omega) (by omega) (by omega) (by omega)
 split
 ·rename_i e;split;·exact big 2 1 1 2 (hk (.inr e)) (by omega) (by omega) (by omega) (by omega) (by omega)
  ·exact big 1 2 2 1 (hk (.inr e)) (by omega) (by omega) (by omega) (by omega) (by omega)
 split;·exact⟨eF,ku (by omega) (by omega) m8⟩
 split;·exact⟨λi=>if i=0 then 1 else 3,ic (i:=0) (j:=1) (ku (n:=2) (by omega) (by omega) (λi=>by split<;>omega)) rfl rfl (by decide) (by decide) (by omega) (by omega) (by omega) (by decide)⟩
 split
 ·exact⟨eF,Eu _ (λi hi=>by
   have:i∈(List.range 4).drop 1:=hi;have h:∀i∈(List.range 4).drop 1,0<i/\i<4:=by decide
   exact h i this) (ku (n:=4) (by omega) (by omega) m8)⟩
 split
 ·let d:Nat->Int:=λi=>if i<2 then 1 else 2
  have z:bw (az.g 4) d:=ku (by omega) (by omega) (λi=>by show 0<(if i<2 then(1:Int)else 2);split<;>omega);have z1:bw (spec_dTree.f1 b r).2 d:=ic (i:=0) (j:=1) z rfl rfl (by decide) (by decide) (by omega) (by omega) (by omega) (by decide);have z2:bw (spec_dTree.f2 b r).2 d:=ic (i:=1) (j:=2) z1 rfl rfl (show 1<4 by decide) (show 2<4 by decide) (by omega) (by omega) (by omega) (by decide);exact⟨d,ic (i:=2) (j:=3) z2 rfl rfl (show 2<4 by decide) (show 3<4 by decide) (by omega) (by omega) (by omega) (by decide)⟩
 split;·exact⟨eF,ic (i:=0) (j:=1) (ku (n:=3) (by omega) (by omega) m8) rfl rfl (by decide) (by decide) (by omega) (by omega) (by omega) (by decide)⟩
 ·exact⟨eF,(Ev m8 h1 h4 (λi hi=>⟨by omega,rfl⟩)).1⟩
def OR{k n most:Int}(h:spec_dTree.k2 (spec_dTree.k1 k n most) most=4\/spec_dTree.k2 (spec_dTree.k1 k n most) most=5):2<=n:=by
 unfold spec_dTree.k2 spec_dTree.k1 at h;by_cases hn:n<2;·exfalso;rw[dt hn]at h;by_cases h4:4<=k<;>by_cases h6:k<=6<;>by_cases h7:k=7<;>by_cases hm:most<2<;>simp[h4,h6,h7,hm]at h<;>first|omega | (revert h;generalize(decide (k=8)&&decide (most<4))=b1;generalize(decide (k=9)&&decide (most<4))=b2;generalize(decide (k=10)&&decide (most<3))=b3;intro h;cases b1<;>cases b2<;>cases b3<;>simp at h<;>omega)|skip
 ·omega
def OS{b:List Int}{r:Int×Int}{most:Int}(h1:1<=most)(h4:most<=4):∃d,bw (spec_dTree.g b r most).2.1 d:=by have rn:=ah.range (b:=b) (r:=(ah.g b r 11).1) (n:=most) h1 (by omega);refine OQ (b:=b) _ (n:=(1+(ah.g b (ah.g b r 11).1 most).2).toNat) (by omega) (by omega) λh=>?_;have:=OR h;omega
def OT{b:List Int}{d:Nat->Int}{s:bY.S}(h:bw s.2 d)(hc:bc b s.1=true):bw (bY.moveS b s).2 d/\(bY.moveS b s).2.1=s.2.1/\bc b (bY.moveS b s).1=true:=by
 unfold bY.moveS;refine⟨?_, ?_,ah.keep hc⟩
 ·by_cases hq:(fb.g s.2 (ah.g b s.1 s.2.1).2).2=true
  ·simp only[hq,if_true];rw[bY.mut_step hq];unfold fb.g at hq;split at hq;·rename_i h3;simp only[Bool.and_eq_true]at h3;have:=cC.1 h3.2.1;exact h.mut (by omega) h3.2.2
   ·cases hq
  ·simp only[hq];exact h
 ·by_cases hq:(fb.g s.2 (ah.g b s.1 s.2.1).2).2=true;·simp only[hq,if_true];rw[bY.mut_step hq];rfl
  ·simp only[hq];rfl
def Ew{b:List Int}{d:Nat->Int}:∀(c:Nat) {s:bY.S},bw s.2 d->bc b s.1=true->bw (bY.walkS b c s).2 d
 |0,_,h,_=>h
 |c+1,s,h,hc=>by obtain⟨h1,h2,h3⟩:=OT h hc;exact Ew c h1 h3
def OU{b:List Int}{r:Int×Int}{m:Int×Int×List Int}{d:Nat->Int}(h:bw m d)(hc:bc b r=true):∃d',bw (bY.g b r m).2 d':=by have hw:bw (bY.walked b r m).2 d:=Ew _ h (ah.keep hc);obtain⟨n,q,hn,_⟩:=bf hw.dim;refine⟨_,bw.ren hw ?_⟩;rw[hn];exact cH.names n
def OV{b:List Int}{r:Int×Int}{most:Int}(h:bc b r=true)(h1:1<=most)(h4:most<=4):∃d,bw (ed.g b r most).2.1 d:=by obtain⟨d,hd⟩:=OS (b:=b) (r:=r) h1 h4;obtain⟨q,_,_,hj⟩:=spec_dTree.facts h h1 h4;exact OU hd hj.cur
def OW{m:Int×Int×List Int}(h:∀u,u<m.1.toNat->∀v,v<m.1.toNat->aj m u v=-aj m v u):cT m.1.toNat (aj m) eF:=λu hu=>⟨m8 u,λv hv=>by show 1*aj m u v=-(1*aj m v u);rw[h u hu v hv];omega⟩
def OX:bw aX.markov eF:=by refine⟨by decide +kernel,OW ?_⟩;show ∀u,u<3->∀v,v<3->aj aX.markov u v=-aj aX.markov v u;decide +kernel
def OY{b:List Int}{r:Int×Int}:∃d,bw (aX.two b r).2 d:=by
 have r1:=ah.range (b:=b) (r:=r) (n:=4) (by omega) (by omega);have r2:=ah.range (b:=b) (r:=(ah.g b r 4).1) (n:=4) (by omega) (by omega);let d:Nat->Int:=λi=>if i=0 then 1+(ah.g b (ah.g b r 4).1 4).2 else 1+(ah.g b r 4).2
 refine⟨d,ic (i:=0) (j:=1) (ku (n:=2) (by omega) (by omega) (λi=>?_)) rfl rfl (by decide) (by decide) (by omega) (by omega) (by omega) ?_⟩;·show 0<(if i=0 then 1+(ah.g b (ah.g b r 4).1 4).2 else 1+(ah.g b r 4).2);split<;>omega
 ·show(1+(ah.g b (ah.g b r 4).1 4).2)*(1+(ah.g b r 4).2)=(1+(ah.g b r 4).2)*(1+(ah.g b (ah.g b r 4).1 4).2);exact Int.mul_comm _ _
def OZ{b:List Int}{r:Int×Int}:bw (aX.three b r).2 eF:=by
 have z1:bw (aX.j1 b r).2 eF:=ic (i:=0) (j:=1) (ku (n:=3) (by omega) (by omega) m8) rfl rfl (by decide) (by decide) (by omega) (by omega) (by omega) (by decide);have z2:bw (aX.j2 b r).2 eF:=ic (i:=1) (j:=2) z1 rfl rfl (show 1<3 by decide) (show 2<3 by decide) (by omega) (by omega) (by omega) (by decide);have rr:=ah.range (b:=b) (r:=(aX.j2 b r).1) (n:=2) (by omega) (by omega);let x:Int:=1+(ah.g b (aX.j2 b r).1 2).2;have hx:1<=x/\x<=2:=by show 1<=1+_/\1+_<=(2:Int);omega
 let s:Bool:=(bX.g b (ah.g b (aX.j2 b r).1 2).1 2).2;have z3:bw (aG.joinM s (aX.j2 b r).2 0 2 x x) eF:=ic (i:=0) (j:=2) z2 rfl rfl (show 0<3 by decide) (show 2<3 by decide) (by omega) (by omega) (by omega) rfl;have hl:(aX.j2 b r).2.2.2.length=9:=by simp[aX.j2,aX.j1,aG.g,aG.joinM,az.g]
 have e:(aX.three b r).2=aG.joinM s (aX.j2 b r).2 0 2 x x:=by
  have h1:(aX.j3 b r).2.2.2=((aX.j2 b r).2.2.2.set 2 (if s=true then -x else x)).set 6 (if s=true then 1 else -1):=rfl;have h2:(((aX.j2 b r).2.2.2.set 2 (if s=true then -x else x)).set 6 (if s=true then 1 else -1)).getD 2 0=if s=true then -x else x:=by rw[List.getD_eq_getElem?_getD,List.getElem?_set_ne (by decide),List.getElem?_set_self (by omega)];rfl
  have h3:ac (0-(if s=true then -x else x))=if s=true then x else -x:=by
   split;·rw[aM (by omega) (by omega)];omega
   ·rw[aM (by omega) (by omega)];omega
  show((3:Int),(3:Int),(aX.j3 b r).2.2.2.set 6 (ac (0-(aX.j3 b r).2.2.2.getD 2 0)))=(3,3,((aX.j2 b r).2.2.2.set 2 (if s=true then -x else x)).set 6 (if s=true then x else -x));rw[h1,h2,h3,List.set_set]
 rw[e];exact z3
def O0{b:List Int}{i j:Nat}{s:(Int×Int)×List Int}(hj:j<i)(hi:i<4)(h:bw (4,4,s.2) eF):bw (4,4,(aX.step4 b i s j).2) eF:=by
 have rr:=ah.range (b:=b) (r:=s.1) (n:=5) (by omega) (by omega);have:=ic (s:=false) (i:=i) (j:=j) (a:=(ah.g b s.1 5).2-2) (c:=(ah.g b s.1 5).2-2) h rfl rfl hi (show j<4 by omega) (by omega) (by omega) (by omega) rfl;have e1:((i:Int)*4+(j:Int)).toNat=i*4+j:=by omega
 have e2:((j:Int)*4+(i:Int)).toNat=j*4+i:=by omega
 have e3:-((ah.g b s.1 5).2-2)=2-(ah.g b s.1 5).2:=by omega
 have e:aG.joinM false (4,4,s.2) (i:Int) (j:Int) ((ah.g b s.1 5).2-2) ((ah.g b s.1 5).2-2)=(4,4,(aX.step4 b i s j).2):=by unfold aG.joinM aX.step4;simp only[e1,e2,e3,Bool.false_eq_true,if_false]
 rwa [e]at this
def Ey{b:List Int}{i:Nat}(hi:i<4):∀(l:List Nat) {s:(Int×Int)×List Int},(∀j∈l,j<i)->bw (4,4,s.2) eF->bw (4,4,(l.foldl (aX.step4 b i) s).2) eF
 |[],_,_,h=>h
 |j::l,_,hl,h=>Ey hi l (λx hx=>hl x (List.mem_cons_of_mem _ hx)) (O0 (hl j List.mem_cons_self) hi h)
def Ez{b:List Int}:∀(l:List Nat) {s:(Int×Int)×List Int},(∀i∈l,i<4)->bw (4,4,s.2) eF->bw (4,4,(l.foldl (aX.row4 b) s).2) eF
 |[],_,_,h=>h
 |i::l,_,hl,h=>Ez l (λx hx=>hl x (List.mem_cons_of_mem _ hx)) (Ey (hl i List.mem_cons_self) (List.range i) (λj hj=>List.mem_range.1 hj) h)
def O1{b:List Int}{r:Int×Int}:∃d,bw (aX.g b r).2 d:=by
 unfold aX.g;split;·exact⟨_,OX⟩
 split;·exact OY
 split;·exact⟨_,OZ⟩
 ·exact⟨eF,Ez (List.range 4) (s:=((ah.g b r 4).1,List.replicate 16 0)) (λi hi=>List.mem_range.1 hi) (ku (n:=4) (by omega) (by omega) m8)⟩
def O3{b:List Int}{r:Int×Int}(h:bc b r=true):∃d,bw (cJ.g b r).2 d:=by
 unfold cJ.g;split;·exact O1
 ·exact OV (bX.keep h) (by omega) (by omega)
def Cl(n:Int)(S:List (Int×Int×List Int)):Prop:=∀x∈S,∀k,k<n.toNat->bg (aU x k)=true/\∃y∈S,y=cE x k
def O4{S:List (Int×Int×List Int)}{y:Int×Int×List Int}:(∀x∈S,x∈eM S y)/\eL (eM S y) y.2.2=true:=by
 unfold eM;split;·exact⟨λx hx=>hx,by assumption⟩
 ·exact⟨λx hx=>List.mem_append_left _ hx,oE.2 ⟨y,by simp,rfl⟩⟩
def EA{S S':List (Int×Int×List Int)}(h:∀x∈S,x∈S'){d:List Int}(hd:eL S d=true):eL S' d=true:=by obtain⟨y,h1,h2⟩:=oE.1 hd;exact oE.2 ⟨y,h _ h1,h2⟩
def EB{x:Int×Int×List Int}:∀(r k:Nat) {S S':List (Int×Int×List Int)},dU x k r S=some S'->(∀y∈S,y∈S')/\∀k',k<=k'->k'<k+r->bg (aU x k')=true/\eL S' (cE x k').2.2=true
 |0,k,S,S',h=>by injection h with h;subst h;exact⟨λy hy=>hy,λk' h1 h2=>by omega⟩
 |r+1,k,S,S',h=>by
  obtain⟨S1,h1,h2⟩:=Option.bind_eq_some_iff.1 (show(d8 x k S).bind (dU x (k+1) r)=some S' from h);obtain⟨g1,g2⟩:=EB r (k+1) h2;unfold d8 at h1;split at h1
  ·rename_i hs;split at h1
   ·injection h1 with h1;subst h1;obtain⟨f1,f2⟩:=O4 (S:=S) (y:=cE x k);refine⟨λy hy=>g1 y (f1 y hy),λk' h3 h4=>?_⟩;by_cases e:k'=k;·subst e;exact⟨hs,EA g1 f2⟩
    ·exact g2 k' (by omega) (by omega)
   ·cases h1
  ·cases h1
def EC{n:Int}:∀(F a:Nat) {S S':List (Int×Int×List Int)},d9 n S->S.length<=100->(∀i,i<a->i<S.length->∀k,k<n.toNat->bg (aU (S.getD i z3) k)=true/\eL S (cE (S.getD i z3) k).2.2=true)->eN n.toNat F a S=some S' ->
  (∀x∈S,x∈S')/\∀i,i<S'.length->∀k,k<n.toNat->bg (aU (S'.getD i z3) k)=true/\eL S' (cE (S'.getD i z3) k).2.2=true
 |0,a,S,S',_,_,_,h=>by cases h
 |F+1,a,S,S',hS,hl,hh,h=>by
  have e1:eN n.toNat (F+1) a S=if a<S.length then(dU (S.getD a z3) 0 n.toNat S).bind (eN n.toNat F (a+1))else some S:=rfl
  rw[e1]at h;by_cases ha:a<S.length
  ·rw[if_pos ha]at h;obtain⟨S1,h1,h2⟩:=Option.bind_eq_some_iff.1 h;obtain⟨f1,f2,f3,f4⟩:=qN (qM hS ha) n.toNat 0 (by omega) hS hl h1;obtain⟨g1,g2⟩:=EB n.toNat 0 h1;obtain⟨k1,k2⟩:=EC F (a+1) f1 f3 (λi hi hi2 k hk=>by
    by_cases e:i=a;·subst e;rw[f4 i _ ha];exact g2 k (Nat.zero_le _) (by omega)
    ·rw[f4 i _ (by omega)];obtain⟨p1,p2⟩:=hh i (by omega) (by omega) k hk;exact⟨p1,EA g1 p2⟩) h2
   exact⟨λx hx=>k1 x (g1 x hx),k2⟩
  ·rw[if_neg ha]at h;injection h with h;subst h;exact⟨λx hx=>hx,λi hi k hk=>hh i (by omega) hi k hk⟩
def O5{n:Int}{x y:Int×Int×List Int}(hx:bU n x)(hy:bU n y)(h:x.2.2=y.2.2):x=y:=by
 obtain⟨_,a1,a2⟩:=hx;obtain⟨_,b1,b2⟩:=hy;obtain⟨p,q,d⟩:=x;obtain⟨p',q',d'⟩:=y;simp only at *
 rw[a1,a2,b1,b2,h]
def zg{m:Int×Int×List Int}(hp:fW m=true){S:List (Int×Int×List Int)}(h:fV m=some S):Cl m.1 S/\bL m∈S:=by
 have h0:d9 m.1 [bL m]:=λx hx=>by rw[List.mem_singleton.1 hx];exact(tN hp).can
 obtain⟨h1,h2⟩:=EC 102 0 h0 (by simp) (λi hi=>by omega) h;have hS:=(mX hp h).1;refine⟨λx hx k hk=>?_,h1 _ (by simp)⟩;obtain⟨i,hi,rfl⟩:=List.getElem_of_mem hx;have:=h2 i hi k hk;rw[List.getD_eq_getElem?_getD,List.getElem?_eq_getElem hi]at this;obtain⟨p1,p2⟩:=this;obtain⟨y,q1,q2⟩:=oE.1 p2;exact⟨p1,y,q1,O5 (hS y q1) ((hS _ hx).nxt hk p1) q2⟩
def ie(S:List (Int×Int×List Int)):Prop:=(S.map (·.2.2)).Nodup
def ED{α:Type}[DecidableEq α]:∀{l T:List α},l.Nodup->(∀x∈l,x∈T)->l.length<=T.length
 |[],T,_,_=>Nat.zero_le _
 |a::l,T,hn,h=>by obtain⟨h1,h2⟩:=List.nodup_cons.1 hn;have ha:=h a List.mem_cons_self;have:=ED (T:=T.erase a) h2 (λx hx=>(List.mem_erase_of_ne (λe=>h1 (by subst e;exact hx))).2 (h x (List.mem_cons_of_mem _ hx)));rw[List.length_erase_of_mem ha]at this;have:=List.length_pos_of_mem ha;simp only[List.length_cons];omega
def O6{S:List (Int×Int×List Int)}{y:Int×Int×List Int}(h:ie S):ie (eM S y):=by
 unfold eM;split;·exact h
 ·rename_i hh;unfold ie;rw[List.map_append];refine List.nodup_append.2 ⟨h,by simp,λa ha b hb e=>hh (oE.2 ?_)⟩;obtain⟨z,hz,rfl⟩:=List.mem_map.1 ha;rw[List.map_cons,List.map_nil,List.mem_singleton]at hb;exact⟨z,hz,e.trans hb⟩
def EE{S T:List (Int×Int×List Int)}(h:ie S)(hs:∀y∈S,y∈T):S.length<=T.length:=by
 have:=ED (T:=T.map (·.2.2)) h (λx hx=>by obtain⟨z,hz,rfl⟩:=List.mem_map.1 hx;exact List.mem_map_of_mem (hs z hz))
 simpa using this
def EF{n:Int}{T:List (Int×Int×List Int)}(hT:Cl n T)(h100:T.length<=100){x:Int×Int×List Int}(hx:x∈T):∀(r k:Nat) {S:List (Int×Int×List Int)},k+r=n.toNat->ie S->(∀y∈S,y∈T) ->
  ∃S',dU x k r S=some S'/\ie S'/\(∀y∈S',y∈T)/\S.length<=S'.length
 |0,k,S,_,h1,h2=>⟨S,rfl,h1,h2,Nat.le_refl _⟩
 |r+1,k,S,hk,h1,h2=>by
  obtain⟨a1,y,a2,a3⟩:=hT x hx k (by omega);have b1:ie (eM S (cE x k)):=O6 h1;have b2:∀y∈eM S (cE x k),y∈T:=λz hz=>by
   unfold eM at hz;split at hz;·exact h2 z hz
   ·rcases List.mem_append.1 hz with hz|hz;·exact h2 z hz
    ·rw[List.mem_singleton.1 hz,<-a3];exact a2
  obtain⟨S',c1,c2,c3,c4⟩:=EF hT h100 hx r (k+1) (by omega) b1 b2;have hl:=EE b1 b2;refine⟨S', ?_,c2,c3,Nat.le_trans DZ c4⟩;have e:d8 x k S=some (eM S (cE x k)):=by unfold d8;rw[if_pos a1,if_pos (by omega)]
  show(d8 x k S).bind (dU x (k+1) r)=some S';rw[e];exact c1
def EG{n:Int}{T:List (Int×Int×List Int)}(hT:Cl n T)(h100:T.length<=100):∀(F a:Nat) {S:List (Int×Int×List Int)},ie S->(∀y∈S,y∈T)->a<=S.length->101-a<F ->
  ∃S',eN n.toNat F a S=some S'/\ie S'/\∀y∈S',y∈T
 |0,a,S,_,_,_,h=>by omega
 |F+1,a,S,h1,h2,ha,hF=>by
  have e1:eN n.toNat (F+1) a S=if a<S.length then(dU (S.getD a z3) 0 n.toNat S).bind (eN n.toNat F (a+1))else some S:=rfl
  rw[e1];have hl:=EE h1 h2;by_cases h:a<S.length;·rw[if_pos h];obtain⟨S1,c1,c2,c3,c4⟩:=EF hT h100 (h2 _ (bO z3 h)) n.toNat 0 (by omega) h1 h2;rw[c1];exact EG hT h100 F (a+1) c2 c3 (by omega) (by omega)
  ·rw[if_neg h];exact⟨S,rfl,h1,h2⟩
def zh{m:Int×Int×List Int}{T:List (Int×Int×List Int)}(hT:Cl m.1 T)(h100:T.length<=100)(hm:bL m∈T):∃S,fV m=some S/\ie S/\∀y∈S,y∈T :=
 EG hT h100 102 0 (by simp[ie]) (λy hy=>by rw[List.mem_singleton.1 hy];exact hm) (Nat.zero_le _) (by omega)
def EH{n:Int}{T:List (Int×Int×List Int)}(hT:Cl n T){x:Int×Int×List Int}(hx:bU n x)(hc:bL x∈T){k:Nat}(hk:k<n.toNat):bg (aU x k)=true/\bL (aU x k)∈T:=by
 obtain⟨⟨d,hR⟩,e1,e2⟩:=id hx;obtain⟨o,ho,e⟩:=yO hR.dim (e2.trans e1.symm);obtain⟨L,rfl,h1,h2,h3⟩:=kj ho;have hk':k<x.1.toNat:=by rw[e1];exact hk
 have hLk:=h2 _ (bO (l:=L) (j:=k) 0 (by omega));obtain⟨a1,y,a2,a3⟩:=hT _ hc (L.getD k 0) (by rw[<-e1];exact hLk);have em:aU (bL x) (L.getD k 0)=b9 (aU x k) (aF L):=by rw[e];exact N5 hR.dim h1 h2 h3 hk'
 have hd:=mT hR.dim k;have hg:=qH hR.dim hk' hR.good;rw[em]at a1;have hs:bg (aU x k)=true:=by have:=eJ a1;rw[N4 hd h1 h2 h3]at this;exact bw.sizes (d:=d) ⟨this,hg⟩
 refine⟨hs, ?_⟩;have ey:cE (bL x) (L.getD k 0)=bL (aU x k):=by unfold cE;rw[em];exact N7 hd (e2.trans e1.symm) ho
 rw[<-ey,<-a3];exact a2
def O7{n:Int}{T:List (Int×Int×List Int)}(hT:Cl n T){x:Int×Int×List Int}(hx:bU n x){k:Nat}(hk:k<n.toNat)(hs:bg (aU x k)=true)(hc:bL (aU x k)∈T):bL x∈T:=by have:=(EH hT (hx.mut hk hs) hc hk).2;rwa [DV hx.dim (by rw[hx.2.1];exact hk)]at this
def O8{m b:Int×Int×List Int}(hm:fW m=true)(hb:fW b=true)(hn:b.1=m.1){S:List (Int×Int×List Int)}(h:fV m=some S)(h1:bL b∈S)(h2:∀T,Cl m.1 T->bL b∈T->bL m∈T) :
  ∃S',fV b=some S'/\dw b.1 S'=dw m.1 S/\ie S:=by
 obtain⟨c1,c2⟩:=zg hm h;obtain⟨f1,f2,f3⟩:=mX hm h;obtain⟨S0,p1,p2,p3⟩:=zh c1 f3 c2;rw[h]at p1;injection p1 with p1;subst p1;obtain⟨S',q1,q2,q3⟩:=zh (m:=b) (by rw[hn];exact c1) f3 h1;obtain⟨d1,d2⟩:=zg hb q1;obtain⟨g1,g2,g3⟩:=mX hb q1;rw[hn]at d1;obtain⟨S'',r1,r2,r3⟩:=zh (m:=m) d1 g3 (h2 _ d1 d2);rw[h]at r1;injection r1 with r1;subst r1;refine⟨S',q1, ?_,p2⟩;have hp:(S'.map (·.2.2)).Perm (S.map (·.2.2)):=(List.perm_ext_iff_of_nodup q2 p2).2 λa=>by rw[List.mem_map,List.mem_map];exact⟨λ⟨y,h1,h2⟩=>⟨y,q3 y h1,h2⟩,λ⟨y,h1,h2⟩=>⟨y,r3 y h1,h2⟩⟩
 unfold dw;rw[hn,yH ((lr _).trans (hp.trans (lr _).symm)) (tJ _) (tJ _)]
end Go.Fw
namespace Go.Fw
section
variable {J : Type}
namespace kG
def g(b:List Int):Bool:=decide (1048576<(b.length:Int))
def Z0{J:Type}(N:Nat)(a:List Int)(kr:Bool->Option J):Option J :=
 kr (lk N (decide (1048576<(a.length:Int))))
def Spec:Prop:=∀ (v0:List Int),Ty.bd (.sl 0 (.int .u8)) v0->∃N0,∀N,N0<=N->Z0 N v0 (λv2=>some ((),(v2,())))=some ((),((g v0),()))
def ok:Spec:=λb hb=>⟨0,λN hN=>by simp only[Z0,aD,g]⟩
end kG
namespace ci
def tU(h x:Int):Int:=fj .and .i64 (ac (ac (ac (h*131)+ac x)+7)) 1073741823
def g(b:List Int):Int×Int:=(0,(b.take 4000).foldl tU (ac (124929+(b.length:Int))))
def Z1{J:Type}(N:Nat)(a:List Int)(kn:List Int->Option J):Option J :=
 kn a
def Z3{J:Type}(N:Nat)(a:List Int)(kn:List Int->Int->Option J):Option J :=
 kn a (ac (124929+(a.length:Int)))
def Z6{J:Type}(N:Nat)(a:List Int)(b:Int)(kn:List Int->I2 (Option J)):Option J :=
 kn a b 0
def Z9{J:Type}(N:Nat)(a:List Int)(c b:Int)(kn:List Int->I2 (Option J))(k0:List Int->Int->Option J):Option J :=
 cond (lk N (decide (b<(a.length:Int))))
 (
  cond (lk N (decide (b<4000)))
  (
   cond (lk N (ax b a.length)) (
    kn a (fj .and .i64 (ac ((ac ((ac (c*131))+(ac ((a.getD b.toNat 0)))))+7)) 1073741823) (ac (b+1))) none)
  (
   k0 a c))
 (
  k0 a c)
def Z8L{J:Type}(N:Nat)(k0:List Int->Int->Option J):Nat->List Int->Int->Int->Option J
 |0,_,_,_=>none
 |M+1,a,b,c=>Z9 N a b c (λa b c=>Z8L N k0 M a b c) k0
def Z8 N a b c k0:=(Z8L N k0 N a b c:Option J)
def Z7 N a b c kn:=(Z8 N a b c kn:Option J)
def Z5 N a b kn:=(Z6 N a b (λa b c=>Z7 N a b c kn):Option J)
def Z10{J:Type}(N:Nat)(a:List Int)(b:Int)(kr:List Int->I2 (Option J)):Option J :=
 kr a 0 b
def Z4 N a b kr:=(Z5 N a b (λa b=>Z10 N a b kr):Option J)
def Z2 N a kr:=(Z3 N a (λa b=>Z4 N a b kr):Option J)
def Z0 N a kr:=(Z1 N a (λa=>Z2 N a kr):Option J)
def Spec:Prop:=∀{U:Type} (u:U) (v0:List Int),Ty.bd (.sl 0 (.int .u8)) v0->∃N0,∀N,N0<=N->Z0 N v0 (λv31_0 v31_1 v31_2=>some (u,(v31_1,v31_2)))=some (u,(g v0))
def loop{J:Type}{N:Nat}(b:List Int)(k0:List Int->Int->Option J):∀(M i:Nat) (h:Int),i<=(b.take 4000).length->(b.take 4000).length-i<M ->
  Z8L N k0 M b h (i:Int)=k0 b (((b.take 4000).drop i).foldl tU h):=by
 intro M;induction M with
 |zero=>intro i h _ hM;omega
 |succ M ih =>
  intro i h hi hM;have hL:(b.take 4000).length=min 4000 b.length:=List.length_take;simp only[Z8L,Z9];by_cases hl:i<(b.take 4000).length
  ·have hlt:i<b.length:=by omega
   have hge:(b.take 4000).getD i 0=b.getD i 0:=by rw[List.getD_eq_getElem?_getD,List.getD_eq_getElem?_getD,List.getElem?_take,if_pos (by omega)]
   rw[ct (dt (by omega)),ct (dt (by omega)),ct (aN hlt),Int.toNat_natCast,dB (l:=b.take 4000) 0 hl,hge,bh (by rw[bv];omega)];exact ih (i+1) _ hl (by omega)
  ·rw[List.drop_of_length_le (by omega)];by_cases hlt:i<b.length;·rw[ct (dt (by omega)),cf (df (by omega))];rfl
   ·rw[cf (df (by omega))];rfl
def ok:Spec:=λu b hb=>⟨5000,λN hN=>by simp only[Z0,Z1,Z2,Z3,Z4,Z5,Z6,Z7,Z8];refine(loop b _ N 0 _ (Nat.zero_le _) (by rw[List.length_take];omega)).trans ?_;rw[List.drop_zero];rfl⟩
end ci
namespace cW
def P(b:List Int)(r:Int×Int)(n most:Int):Bool:=bc b r&&bz most 0 100
def stepK(b:List Int)(n:Int)(s:(Int×Int)×List Int):(Int×Int)×List Int:=((ah.g b s.1 n).1,s.2++[(ah.g b s.1 n).2])
def lA(b:List Int)(n:Int):Nat->(Int×Int)×List Int->(Int×Int)×List Int
 |0,s=>s
 |c+1,s=>lA b n c (stepK b n s)
def g(b:List Int)(r:Int×Int)(n most:Int):(Int×Int)×List Int:=lA b n (ah.g b r (most+1)).2.toNat ((ah.g b r (most+1)).1,[])
def Z1{J:Type}(N:Nat)(b0:List Int)(r0:Int×Int)(a b:Int)(kn:I2 (List Int->I2 (Option J))):Option J :=
 kn a b b0 r0.1 r0.2
def Z3{J:Type}(N:Nat)(a b:Int)(c:List Int)(d e:Int)(kn:LI->I2 (List Int->I2 (Option J))):Option J :=
 kn ([]:List Int) a b c d e
def Z5{J:Type}(N:Nat)(e:LI)(f b:Int)(a:List Int)(c d:Int)(kn:LI->I2 (List Int->I2 (Option J))):Option J :=
 cond (lk N (ah.P a (c,d) (ac (b+1)))) (
  kn e f (ah.g a (c,d) (ac (b+1))).2 a (ah.g a (c,d) (ac (b+1))).1.1 (ah.g a (c,d) (ac (b+1))).1.2) none
def Z8{J:Type}(N:Nat)(a:LI)(b c:Int)(d:List Int)(e f:Int)(kn:LI->I3 (List Int->I2 (Option J))):Option J :=
 kn a b c 0 d e f
def Z11{J:Type}(N:Nat)(e:LI)(b f h:Int)(a:List Int)(c d:Int)(kn:LI->I3 (List Int->I2 (Option J)))(k0:LI->List Int->I2 (Option J)):Option J :=
 cond (lk N (decide (h<f)))
 (
  cond (lk N (ah.P a (c,d) b)) (
   cond (lk N (Nat.blt (e.length+([(ah.g a (c,d) b).2]:List Int).length) 1099511627776)) (
    kn (e++([(ah.g a (c,d) b).2]:List Int)) b f (ac (h+1)) a (ah.g a (c,d) b).1.1 (ah.g a (c,d) b).1.2) none) none)
 (
  k0 e a c d)
def Z10L{J:Type}(N:Nat)(k0:LI->List Int->I2 (Option J)):Nat->LI->Int->Int->Int->List Int->Int->Int->Option J
 |0,_,_,_,_,_,_,_=>none
 |M+1,a,b,c,d,e,f,g=>Z11 N a b c d e f g (λa b c d e f g=>Z10L N k0 M a b c d e f g) k0
def Z10 N a b c d e f g k0:=(Z10L N k0 N a b c d e f g:Option J)
def Z9 N a b c d e f g kn:=(Z10 N a b c d e f g kn:Option J)
def Z7 N a b c d e f kn:=(Z8 N a b c d e f (λa b c g d e f=>Z9 N a b c g d e f kn):Option J)
def Z12{J:Type}(N:Nat)(a:LI)(b:List Int)(c d:Int)(kr:LI->List Int->I2 (Option J)):Option J :=
 kr a b c d
def Z6 N a e f b c d kr:=(Z7 N a e f b c d (λa b c d=>Z12 N a b c d kr):Option J)
def Z4 N a b f c d e kr:=(Z5 N a b f c d e (λa b g c d e=>Z6 N a b g c d e kr):Option J)
def Z2 N a b c d e kr:=(Z3 N a b c d e (λf a b c d e=>Z4 N f a b c d e kr):Option J)
def Z0 N b0 r0 a b kr:=(Z1 N b0 r0 a b (λa b c d e=>Z2 N a b c d e kr):Option J)
def Spec:Prop:=∀{U:Type} (u:U) (b0:List Int) (r0:Int×Int) (v1 v2:Int),Ty.bd (.sl 0 (.int .u8)) b0->P b0 r0 v1 v2=true->∃N0,∀N,N0<=N->Z0 N b0 r0 v1 v2 (λv6 w0_0 w0_1 w0_2=>some (u,((w0_1,w0_2),((),(v6,())))))=some (u,((g b0 r0 v1 v2).1,((),((g b0 r0 v1 v2).2,()))))
def EI{b:List Int}{n:Int}(h1:1<=n)(h2:n<=256):∀(c:Nat) {s:(Int×Int)×List Int},(∀x∈s.2,0<=x/\x<n)->(∀x∈(lA b n c s).2,0<=x/\x<n)/\(lA b n c s).2.length=s.2.length+c
 |0,_,h=>⟨h,rfl⟩
 |c+1,s,h=>by
  have:=EI h1 h2 (b:=b) c (s:=stepK b n s) (λx hx=>by
   rcases List.mem_append.1 hx with hx|hx;·exact h x hx
   ·rw[List.mem_singleton.1 hx];exact ah.range h1 h2)
  refine⟨this.1,this.2.trans ?_⟩;simp[stepK];omega
def range{b:List Int}{r:Int×Int}{n most:Int}(h1:1<=n)(h2:n<=256)(hm:0<=most/\most<=100):(∀x∈(g b r n most).2,0<=x/\x<n)/\((g b r n most).2.length:Int)<=most:=by have h0:=ah.range (b:=b) (r:=r) (n:=most+1) (by omega) (by omega);have:=EI h1 h2 (b:=b) (ah.g b r (most+1)).2.toNat (s:=((ah.g b r (most+1)).1,[])) (λx hx=>by cases hx);refine⟨this.1, ?_⟩;have h3:(g b r n most).2.length=0+(ah.g b r (most+1)).2.toNat:=this.2;omega
def loop{J:Type}{N:Nat}{b:List Int}(n:Int)(k0:List Int->List Int->Int->Int->Option J){c:Nat}(hc:c<=101):∀(M i:Nat) (s:(Int×Int)×List Int),i<=c->bc b s.1=true->s.2.length+(c-i)<=1000->c-i<M ->
  Z10L N k0 M s.2 n (c:Int) (i:Int) b s.1.1 s.1.2=k0 (lA b n (c-i) s).2 b (lA b n (c-i) s).1.1 (lA b n (c-i) s).1.2:=by
 intro M;induction M with
 |zero=>intro i s _ _ _ h;omega
 |succ M ih =>
  intro i s hi hs hl hM;simp only[Z10L,Z11];by_cases h:i<c;·have es:((s.1.1,s.1.2):Int×Int)=s.1:=rfl;have hP:ah.P b s.1 n=true:=hs;have w1:ac ((i:Int)+1)=((i+1:Nat):Int):=bh (by rw[bv];omega);have c1:Nat.blt (s.2.length+([(ah.g b s.1 n).2]:List Int).length) 1099511627776=true:=Nat.ble_eq_true_of_le (by rw[List.length_singleton];omega);rw[ct (dt (by omega)),es,ct hP,ct c1,w1,show c-i=(c-(i+1))+1 by omega];exact ih (i+1) (stepK b n s) h (ah.keep hs) (by simp[stepK];omega) (by omega)
  ·rw[cf (df (by omega)),show c-i=0 by omega];rfl
def ok:Spec:=λu b r n most hb hp=>⟨200,λN hN=>by simp only[P,Bool.and_eq_true,cC]at hp;obtain⟨h,hm⟩:=hp;have h0:=ah.keep (n:=most+1) h;have hr:=ah.range (b:=b) (r:=r) (n:=most+1) (by omega) (by omega);have er:((r.1,r.2):Int×Int)=r:=rfl;have p0:ah.P b r (most+1)=true:=h;simp only[Z1,Z3,Z5,Z8,Z11,Z10,Z9,Z7,Z12,Z6,Z4,Z2,Z0];rw[er,aM (n:=most+1) (by omega) (by omega),ct p0];obtain⟨c,hc⟩:=Int.eq_ofNat_of_zero_le hr.1;have key:=λ{J:Type} (k0:List Int->List Int->Int->Int->Option J)=>loop (J:=J) (N:=N) n k0 (c:=c) (by omega) N 0 ((ah.g b r (most+1)).1,[]) (Nat.zero_le _) h0 (by simp;omega) (by omega);rw[hc];refine(key _).trans ?_;unfold g;rw[hc];rfl⟩
end cW
namespace gr
def g(b:List Int):(Int×Int×List Int)×List Int:=((cJ.g b (ci.g b)).2,(cW.g b (cJ.g b (ci.g b)).1 (cJ.g b (ci.g b)).2.1 4).2)
def Z0{J:Type}(N:Nat)(a:List Int)(kr:LI->LI->I2 (Option J)):Option J :=
 cond (lk N (cJ.P a (ci.g a))) (
  bo (
   cond (lk N (cW.P a (cJ.g a (ci.g a)).1 (cJ.g a (ci.g a)).2.1 4)) (
    kr (cW.g a (cJ.g a (ci.g a)).1 (cJ.g a (ci.g a)).2.1 4).2 (cJ.g a (ci.g a)).2.2.2 (cJ.g a (ci.g a)).2.1 (cJ.g a (ci.g a)).2.2.1) none)) none
def Spec:Prop:=∀ (v0:List Int),Ty.bd (.sl 0 (.int .u8)) v0->∃N0,∀N,N0<=N->Z0 N v0 (λv3 v2_2 v2_0 v2_1=>some ((),((v2_0,(v2_1,v2_2)),(v3,()))))=some ((),((g v0).1,((g v0).2,())))
def cur0{b:List Int}(h:b.length<=maxLen):bc b (ci.g b)=true:=by rw[yr];exact⟨Int.le_refl 0,by show(0:Int)<=_;omega,h⟩
def ok:Spec:=λb hb=>⟨0,λN hN=>by
 have h0:=cur0 hb.1;obtain⟨h1,d1,n4,hsq⟩:=cJ.facts h0;have p1:cJ.P b (ci.g b)=true:=h0;have p2:cW.P b (cJ.g b (ci.g b)).1 (cJ.g b (ci.g b)).2.1 4=true:=by simp only[cW.P,Bool.and_eq_true,cC];exact⟨h1,by omega,by omega⟩
 simp only[Z0,aD,p1,p2,cond_true,bo,fG];rfl⟩
end gr
namespace f9
def g(n low high:Int):Bool:=bz n low high
def Z0{J:Type}(N:Nat)(a b c:Int)(kr:Bool->Option J):Option J :=
 cond (lk N (decide (b<=a)))
 (
  kr (lk N (decide (a<=c))))
 (
  kr false)
def Spec:Prop:=∀ (v0 v1 v2:Int),∃N0,∀N,N0<=N->Z0 N v0 v1 v2 (λv6=>some ((),(v6,())))=some ((),((g v0 v1 v2),()))
def ok:Spec:=λn low high=>⟨0,λN hN=>by simp only[Z0,aD,g,bz];cases decide (low<=n)<;>rfl⟩
end f9
namespace gb
def g(x:Int):Bool:=!bz x (-99) 99
def Z0{J:Type}(N:Nat)(a:Int)(kr:Bool->Option J):Option J :=
 kr (!(lk N ((f9.g a (-99) 99))))
def Spec:Prop:=∀ (v0:Int),∃N0,∀N,N0<=N->Z0 N v0 (λv2=>some ((),(v2,())))=some ((),((g v0),()))
def ok:Spec:=λn=>⟨0,λN hN=>by simp only[Z0,g,aD,f9.g]⟩
end gb
namespace fc
def go(p:Int->Bool):List Int->Nat->Int
 |[],_=>-1
 |x::xs,j=>if p x=true then(j:Int)else go p xs (j+1)
def g(s:List Int)(_:Unit):Int:=go gb.g s 0
def Z1{J:Type}(N:Nat)(a:LI)(b:Unit)(kn:LI->Option J):Option J :=
 kn a
def Z4{J:Type}(N:Nat)(a:LI)(kn:LI->I2 (Option J)):Option J :=
 kn a (a.length:Int) 0
def Z7{J:Type}(N:Nat)(b:LI)(c a:Int)(kn:LI->I2 (Option J))(k0:Option J)(kr:Int->Option J):Option J :=
 cond (lk N (decide (a<c)))
 (
  cond (lk N (ax a b.length)) (
   cond (lk N ((gb.g (b.getD a.toNat 0))))
   (
    kr a)
   (
    kn b c (ac (a+1)))) none)
 (
  k0)
def Z6L{J:Type}(N:Nat)(k0:Option J)(kr:Int->Option J):Nat->LI->Int->Int->Option J
 |0,_,_,_=>none
 |M+1,a,b,c=>Z7 N a b c (λa b c=>Z6L N k0 kr M a b c) k0 kr
def Z6 N a b c k0 kr:=(Z6L N k0 kr N a b c:Option J)
def Z5 N a b c kn kr:=(Z6 N a b c kn kr:Option J)
def Z3 N a kn kr:=(Z4 N a (λa b c=>Z5 N a b c kn kr):Option J)
def Z8{J:Type}(N:Nat) (kr:Int->Option J):Option J :=
 kr (-1)
def Z2 N a kr:=(Z3 N a (Z8 N kr) kr:Option J)
def Z0 N a b kr:=(Z1 N a b (λa=>Z2 N a kr):Option J)
def Spec:Prop:=∀ (v0:LI) (v1:Unit),Ty.bd (.sl 0 (.int .i64)) v0->∃N0,∀N,N0<=N->Z0 N v0 v1 (λv4=>some ((),(v4,())))=some ((),((g v0 v1),()))
def loop{J:Type}(N:Nat)(kr:Int->Option J)(a:List Int)(ha:a.length<=maxLen):∀(M j:Nat),j<=a.length->a.length-j<M ->
  Z6L N (kr (-1)) kr M a (a.length:Int) (j:Int)=kr (go gb.g (a.drop j) j):=by
 intro M;induction M with
 |zero=>intro j _ h;omega
 |succ M ih =>
  intro j hj hM;simp only[Z6L,Z7];by_cases h:j<a.length
  ·rw[ct (dt (by omega)),ct (aN h),Int.toNat_natCast,bh (by omega),ih (j+1) h (by omega),dB 0 h,go];cases e:gb.g (a.getD j 0);·rw[cf rfl,if_neg (by simp)]
   ·rw[ct rfl,if_pos rfl]
  ·rw[cf (df (by omega)),List.drop_of_length_le (by omega),go]
def ok:Spec:=λa _ ha=>⟨a.length+1,λN hN=>by simp only[Z1,Z4,Z7,Z6,Z5,Z3,Z8,Z2,Z0];exact(loop N (λt=>some ((),(t,()))) a ha.1 N 0 (by omega) (by omega)).trans rfl⟩
def go_pos(p:Int->Bool):∀(l:List Int) (j:Nat),0<=go p l j↔∃x∈l,p x=true
 |[],j=>by simp[go]
 |x::xs,j=>by
  rw[go];by_cases h:p x=true;·rw[if_pos h];simp[h]
  ·rw[if_neg h,go_pos p xs];simp[h]
end fc
namespace kH
def g(s:List Int)(_:Unit):Bool:=s.any gb.g
def Z0{J:Type}(N:Nat)(a:LI)(b:Unit)(kr:Bool->Option J):Option J :=
 kr (lk N (decide (0<=(fc.g a ()))))
def Spec:Prop:=∀ (v0:LI) (v1:Unit),Ty.bd (.sl 0 (.int .i64)) v0->∃N0,∀N,N0<=N->Z0 N v0 v1 (λv4=>some ((),(v4,())))=some ((),((g v0 v1),()))
def ok:Spec:=λa _ ha=>⟨0,λN hN=>by
 simp only[Z0,aD,g];have:=(show 0<=fc.g a ()↔∃x∈a,gb.g x=true from fc.go_pos gb.g a 0);cases e:a.any gb.g;·rw[df (λh=>by have:=this.1 h;rw[<-List.any_eq_true,e]at this;cases this)]
 ·rw[dt (this.2 (List.any_eq_true.1 e))]⟩
end kH
namespace kI
def g(m:Int×Int×List Int):Bool:=bn m
def Z0{J:Type}(N:Nat)(a:MT)(kr:Bool->Option J):Option J :=
 cond (lk N ((f9.g a.1 1 5)))
 (
  cond (lk N ((f9.g a.2.1 a.1 8)))
  (
   cond (lk N (decide ((a.2.2.length:Int)=(ac (a.1*a.2.1)))))
   (
    kr (!(lk N ((kH.g a.2.2 ())))))
   (
    kr false))
  (
   kr false))
 (
  kr false)
def Spec:Prop:=∀ (v0:MT),Ty.bd (.pair (.int .i64) (.pair (.int .i64) (.sl 0 (.int .i64)))) v0->∃N0,∀N,N0<=N->Z0 N v0 (λv2=>some ((),(v2,())))=some ((),((g v0),()))
def ok:Spec:=λm hb=>⟨0,λN hN=>by
 simp only[Z0,g,aD,f9.g,bn,aO,kH.g,List.not_any_eq_all_not,lh];cases h1:bz m.1 1 5;·rfl
 cases h2:bz m.2.1 m.1 8;·rfl
 have e1:=cC.1 h1;have e2:=cC.1 h2;have e3:0<=m.1*m.2.1:=Int.mul_nonneg (by omega) (by omega);have e4:m.1*m.2.1<=5*8:=Int.mul_le_mul (by omega) (by omega) (by omega) (by omega);rw[aM (by omega) (by omega)];cases h3:decide ((m.2.2.length:Int)=m.1*m.2.1);·rfl
 simp[gb.g]⟩
end kI
namespace cS
def P(m:Int×Int×List Int)(i j:Int):Bool:=ou m i j
def g(m:Int×Int×List Int)(i j:Int):Int:=ov m i j
def Z0{J:Type}(N:Nat)(a:MT)(b c:Int)(kr:Int->Option J):Option J :=
 cond (lk N (ax (ac ((ac (b*a.1))+c)) a.2.2.length)) (
  kr (a.2.2.getD (ac ((ac (b*a.1))+c)).toNat 0)) none
def Spec:Prop:=∀ (v0:MT) (v1 v2:Int),Ty.bd (.pair (.int .i64) (.pair (.int .i64) (.sl 0 (.int .i64)))) v0->P v0 v1 v2=true->∃N0,∀N,N0<=N->Z0 N v0 v1 v2 (λv6=>some ((),(v6,())))=some ((),((g v0 v1 v2),()))
def ok:Spec:=λm i j hb hp=>⟨0,λN hN=>by obtain⟨h1,h2,h3⟩:=Di hb.2.2.1 hp;simp only[Z0,g,ov,h1];rw[ct (CW h2 h3)]⟩
end cS
namespace cX
def P(a b:Int):Bool:=decide (0<=a)&&(decide (a<9223372036854775808)&&(decide (0<=b)&&decide (b<9223372036854775808)))
def g(a b:Int):Int:=(Int.gcd a b:Int)
def Z1{J:Type}(N:Nat)(a b:Int)(kn:I2 (Option J)):Option J :=
 kn a b
def Z5{J:Type}(N:Nat)(b a:Int)(kn:I2 (Option J))(k0:Int->Option J):Option J :=
 cond (lk N (!(decide (a=0))))
 (
  cond (lk N (!(decide (a=0)))) (
   kn a (Int.tmod b a)) none)
 (
  k0 b)
def Z4L{J:Type}(N:Nat)(k0:Int->Option J):Nat->Int->Int->Option J
 |0,_,_=>none
 |M+1,a,b=>Z5 N a b (λa b=>Z4L N k0 M a b) k0
def Z4 N a b k0:=(Z4L N k0 N a b:Option J)
def Z3 N a b kn:=(Z4 N a b kn:Option J)
def Z6{J:Type}(N:Nat)(a:Int)(kr:Int->Option J):Option J :=
 kr (mx a (ac (0-a)))
def Z2 N a b kr:=(Z3 N a b (λa=>Z6 N a kr):Option J)
def Z0 N a b kr:=(Z1 N a b (λa b=>Z2 N a b kr):Option J)
def Spec:Prop:=∀ (v0 v1:Int),P v0 v1=true->∃N0,∀N,N0<=N->Z0 N v0 v1 (λv4=>some ((),(v4,())))=some ((),((g v0 v1),()))
def loop{J:Type}(N:Nat)(k0:Int->Option J):∀(M:Nat) (a b:Nat),b<M->Z4L N k0 M (a:Int) (b:Int)=k0 (Nat.gcd b a:Nat):=by
 intro M;induction M with
 |zero=>intro a b h;omega
 |succ M ih =>
  intro a b hM;simp only[Z4L,Z5];by_cases h:b=0;·subst h;rw[cf (by simp),Nat.gcd_zero_left]
  ·rw[ct (nt (by omega)),ct (nt (by omega)),show Int.tmod (a:Int) (b:Int)=((a%b:Nat):Int)from rfl,ih _ _ (by have:=Nat.mod_lt a (Nat.pos_of_ne_zero h);omega),<-Nat.gcd_rec]
def ok:Spec:=λa b hp=>⟨b.toNat+1,λN hN=>by
 simp only[P,Bool.and_eq_true,decide_eq_true_eq]at hp;obtain⟨h1,h2,h3,h4⟩:=hp;obtain⟨x,rfl⟩:=Int.eq_ofNat_of_zero_le h1;obtain⟨y,rfl⟩:=Int.eq_ofNat_of_zero_le h3;simp only[Z1,Z5,Z4,Z3,Z6,Z2,Z0,g];rw[loop N _ N x y (by omega),Nat.gcd_comm];have hl:Nat.gcd x y<=max x y:=by
  rcases Nat.eq_zero_or_pos x with h|h;·subst h;rw[Nat.gcd_zero_left];omega
  ·have:=Nat.gcd_le_left y h;omega
 show some ((),(mx ((Nat.gcd x y:Nat):Int) (ac (0-((Nat.gcd x y:Nat):Int))),()))=some ((),(((Nat.gcd x y:Nat):Int),()));rw[aM (by omega) (by omega),yl];congr 3;omega⟩
end cX
namespace aJ
def P(m:Int×Int×List Int):Bool:=bn m
abbrev g(m:Int×Int×List Int):List Int:=bq m
def Z1{J:Type}(N:Nat)(a:MT)(kn:I2 (LI->Option J)):Option J :=
 kn a.1 a.2.1 a.2.2
def Z3{J:Type}(N:Nat)(a b:Int)(c:LI)(kn:LI->LI->I2 (LI->Option J)):Option J :=
 bo (
  cond (lk N (bT 0 a&&decide (a<1099511627776))) (
   cond (lk N (bT 0 a&&decide (a<1099511627776))) (
    kn (List.replicate a.toNat (0:Int)) (List.replicate a.toNat (0:Int)) a b c) none) none)
def Z5{J:Type}(N:Nat)(b c:LI)(a d:Int)(e:LI)(kn:LI->LI->LI->I2 (LI->Option J)):Option J :=
 cond (lk N (bT 0 a&&decide (a<1099511627776))) (
  kn b c (List.replicate a.toNat (0:Int)) a d e) none
def Z8{J:Type}(N:Nat)(a b c:LI)(d e:Int)(f:LI)(kn:LI->LI->LI->I4 (LI->Option J)):Option J :=
 kn a b c (a.length:Int) 0 d e f
def Z12{J:Type}(N:Nat)(c d e:LI)(a b f g:Int)(h:LI)(kn:LI->LI->LI->I2 (Bool->I2 (LI->Option J))):Option J :=
 kn c d e a b (lk N (decide (b<a))) f g h
def Z14{J:Type}(N:Nat)(b c a:LI)(d e:Int)(f:Bool)(g h:Int)(i:LI)(kn:LI->LI->LI->I4 (LI->Option J))(k0:LI->Option J):Option J :=
 cond (f)
 (
  kn b c a d e g h i)
 (
  k0 a)
def Z18{J:Type}(N:Nat)(b c d:LI)(e a f g:Int)(h:LI)(kn:LI->LI->LI->I5 (LI->Option J)):Option J :=
 kn b c d a e a f g h
def Z20{J:Type}(N:Nat)(a c d:LI)(b e f g h:Int)(i:LI)(kn:LI->LI->LI->I5 (LI->Option J))(k1:LI->LI->LI->I4 (LI->Option J)):Option J :=
 cond (lk N (ax b a.length)) (
  cond (lk N (!(decide ((a.getD b.toNat 0)=0))))
  (
   k1 a c d e f g h i)
  (
   kn a c d b e f g h i)) none
def Z22{J:Type}(N:Nat)(b c d:LI)(a e f g h:Int)(i:LI)(kn:LI->LI->LI->I5 (LI->Option J)):Option J :=
 cond (lk N (ax a b.length)) (
  cond (lk N (ax a c.length)) (
   kn (b.set a.toNat 1) (c.set a.toNat 1) d a e f g h i) none) none
def Z24{J:Type}(N:Nat)(a b c:LI)(d e f g h:Int)(i:LI)(kn:LI->LI->LI->LI->I4 (LI->Option J)):Option J :=
 kn a b c ([d]:List Int) e f g h i
def Z27{J:Type}(N:Nat)(a b c d:LI)(e f g h:Int)(i:LI)(kn:LI->LI->LI->LI->I5 (LI->Option J)):Option J :=
 kn a b c d 0 e f g h i
def Z31{J:Type}(N:Nat)(b c d a:LI)(e f g h i:Int)(j:LI)(kn:LI->LI->LI->LI->I5 (LI->Option J))(k2:LI->LI->LI->LI->I4 (LI->Option J)):Option J :=
 cond (lk N (decide (e<(a.length:Int))))
 (
  kn b c d a e f g h i j)
 (
  k2 b c d a f g h i j)
def Z35{J:Type}(N:Nat)(c d e a:LI)(b f g h i:Int)(j:LI)(kn:LI->LI->LI->LI->I6 (LI->Option J)):Option J :=
 cond (lk N (ax b a.length)) (
  kn c d e a b (a.getD b.toNat 0) f g h i j) none
def Z37{J:Type}(N:Nat)(a b c d:LI)(e f g h i j:Int)(l:LI)(kn:LI->LI->LI->LI->I8 (LI->Option J)):Option J :=
 kn a b c d e f g h (a.length:Int) 0 i j l
def Z41{J:Type}(N:Nat)(c d e f:LI)(g h i j a b l m:Int)(o:LI)(kn:LI->LI->LI->LI->I6 (Bool->I2 (LI->Option J))):Option J :=
 kn c d e f g h i j a b (lk N (decide (b<a))) l m o
def Z43{J:Type}(N:Nat)(a b c d:LI)(e l f g m o:Int)(p:Bool)(h i:Int)(j:LI)(kn:LI->LI->LI->LI->I8 (LI->Option J))(k4:LI->LI->LI->LI->I5 (LI->Option J)):Option J :=
 cond (p)
 (
  kn a b c d e l f g m o h i j)
 (
  k4 a b c d e f g h i j)
def Z47{J:Type}(N:Nat)(b c d e:LI)(f g h i j a l m:Int)(o:LI)(kn:LI->LI->LI->LI->Int->I8 (LI->Option J)):Option J :=
 kn b c d e f g a h i j a l m o
def Z49{J:Type}(N:Nat)(f h i j:LI)(l a b m o p q c d:Int)(e:LI)(kn:LI->LI->LI->LI->I3 (I8 (LI->Option J))):Option J :=
 cond (lk N (cS.P (c,(d,e)) a b)) (
  cond (lk N (cS.P (c,(d,e)) b a)) (
   kn f h i j l a b (cS.g (c,(d,e)) a b) (ac (0-(cS.g (c,(d,e)) b a))) m o p q c d e) none) none
def Z51{J:Type}(N:Nat)(a b c d:LI)(e f r g h i j l m o p:Int)(q:LI)(kn:LI->LI->LI->LI->I3 (I8 (LI->Option J)))(k5:LI->LI->LI->LI->I8 (LI->Option J)):Option J :=
 cond (lk N (decide (g=0)))
 (
  cond (lk N (decide (h=0)))
  (
   k5 a b c d e f i j l m o p q)
  (
   kn a b c d e f r g h i j l m o p q))
 (
  kn a b c d e f r g h i j l m o p q)
def Z52{J:Type}(N:Nat)(b c i h:LI)(j d a e f l m o p q r:Int)(s:LI)(kn:LI->LI->LI->LI->I8 (LI->Option J))(kr:LI->Option J):Option J :=
 let x1_:=(ac ((b.getD d.toNat 0)*(mx e (ac (0-e)))));let x2_:=(ac ((c.getD d.toNat 0)*(mx f (ac (0-f)))));let x0_:=(cX.g x1_ x2_);cond (lk N (decide (e=0)))
 (
 kr ([]:List Int))
 (
 cond (lk N (decide (f=0)))
 (
 kr ([]:List Int))
 (
 cond (lk N (!(((lk N (decide (0<e))) == (lk N (decide (0<f)))))))
 (
 kr ([]:List Int))
 (
 cond (lk N (decide (d=a)))
 (
 kr ([]:List Int))
 (
 cond (lk N (ax d b.length)) (
 cond (lk N (ax d c.length)) (
 cond (lk N (cX.P x1_ x2_)) (
 cond (lk N (!(decide (x0_=0)))) (
 cond (lk N (!(decide (x0_=0)))) (
 cond (lk N (ax a b.length)) (
 cond (lk N (decide ((b.getD a.toNat 0)=0)))
 (
 cond (lk N (ax a b.length)) (
 cond (lk N (ax a c.length)) (
 cond (lk N (Nat.blt (h.length+([a]:List Int).length) 1099511627776)) (
 kn (b.set a.toNat (ac (Int.tdiv x1_ x0_))) (c.set a.toNat (ac (Int.tdiv x2_ x0_))) i (h++([a]:List Int)) j d l m o p q r s) none) none) none)
 (
 cond (lk N (ax a b.length)) (
 cond (lk N (!(decide ((b.getD a.toNat 0)=(ac (Int.tdiv x1_ x0_))))))
 (
 kr ([]:List Int))
 (
 cond (lk N (ax a c.length)) (
 cond (lk N (!(decide ((c.getD a.toNat 0)=(ac (Int.tdiv x2_ x0_))))))
 (
 kr ([]:List Int))
 (
 kn b c i h j d l m o p q r s)) none)) none)) none) none) none) none) none) none))))
def Z50 N a b c d e f g h i j l m o p q r kn k5 kr:=(Z51 N a b c d e f g h i j l m o p q r (λa b c d e f g h i j l m o p q r=>Z52 N a b c d e f g h i j l m o p q r kn kr) k5:Option J)
def Z48 N a b c d e f g h i j l m o p kn k5 kr:=(Z49 N a b c d e f g h i j l m o p (λa b c d e f g q r h i j l m o p=>Z50 N a b c d e f g q r h i j l m o p kn k5 kr):Option J)
def Z46 N a b c d e f g h i j l m o kn k5 kr:=(Z47 N a b c d e f g h i j l m o (λa b c d e f p g h i j l m o=>Z48 N a b c d e f p g h i j l m o kn k5 kr):Option J)
def Z45 N a b c d e f g h i j l m o kn kr:=(Z46 N a b c d e f g h i j l m o kn kn kr:Option J)
def Z53{J:Type}(N:Nat)(a b c d:LI)(e f g h i j l m:Int)(o:LI)(kn:LI->LI->LI->LI->I8 (LI->Option J)):Option J :=
 kn a b c d e f g h i (ac (j+1)) l m o
def Z44 N a b c d e f g h i j l m o kn kr:=(Z45 N a b c d e f g h i j l m o (λa b c d e f g h i j l m o=>Z53 N a b c d e f g h i j l m o kn) kr:Option J)
def Z42 N a b c d e f g h i j p l m o kn k4 kr:=(Z43 N a b c d e f g h i j p l m o (λa b c d e f g h i j l m o=>Z44 N a b c d e f g h i j l m o kn kr) k4:Option J)
def Z40 N a b c d e f g h i j l m o kn k4 kr:=(Z41 N a b c d e f g h i j l m o (λa b c d e f g h i j p l m o=>Z42 N a b c d e f g h i j p l m o kn k4 kr):Option J)
def Z39L{J:Type}(N:Nat)(k4:LI->LI->LI->LI->I5 (LI->Option J))(kr:LI->Option J):Nat->LI->LI->LI->LI->Int->Int->Int->Int->Int->Int->Int->Int->LI->Option J
 |0,_,_,_,_,_,_,_,_,_,_,_,_,_=>none
 |M+1,a,b,c,d,e,f,g,h,i,j,l,m,o=>Z40 N a b c d e f g h i j l m o (λa b c d e f g h i j l m o=>Z39L N k4 kr M a b c d e f g h i j l m o) k4 kr
def Z39 N a b c d e f g h i j l m o k4 kr:=(Z39L N k4 kr N a b c d e f g h i j l m o:Option J)
def Z38 N a b c d e f g h i j l m o kn kr:=(Z39 N a b c d e f g h i j l m o kn kr:Option J)
def Z36 N a b c d e f g h i j l kn kr:=(Z37 N a b c d e f g h i j l (λa b c d e f g h m o i j l=>Z38 N a b c d e f g h m o i j l kn kr):Option J)
def Z34 N a b c d e f g h i j kn kr:=(Z35 N a b c d e f g h i j (λa b c d e l f g h i j=>Z36 N a b c d e l f g h i j kn kr):Option J)
def Z33 N a b c d e f g h i j kn kr:=(Z34 N a b c d e f g h i j kn kr:Option J)
def Z54{J:Type}(N:Nat)(a b c d:LI)(e f g h i:Int)(j:LI)(kn:LI->LI->LI->LI->I5 (LI->Option J)):Option J :=
 kn a b c d (ac (e+1)) f g h i j
def Z32 N a b c d e f g h i j kn kr:=(Z33 N a b c d e f g h i j (λa b c d e f g h i j=>Z54 N a b c d e f g h i j kn) kr:Option J)
def Z30 N a b c d e f g h i j kn k2 kr:=(Z31 N a b c d e f g h i j (λa b c d e f g h i j=>Z32 N a b c d e f g h i j kn kr) k2:Option J)
def Z29L{J:Type}(N:Nat)(k2:LI->LI->LI->LI->I4 (LI->Option J))(kr:LI->Option J):Nat->LI->LI->LI->LI->Int->Int->Int->Int->Int->LI->Option J
 |0,_,_,_,_,_,_,_,_,_,_=>none
 |M+1,a,b,c,d,e,f,g,h,i,j=>Z30 N a b c d e f g h i j (λa b c d e f g h i j=>Z29L N k2 kr M a b c d e f g h i j) k2 kr
def Z29 N a b c d e f g h i j k2 kr:=(Z29L N k2 kr N a b c d e f g h i j:Option J)
def Z28 N a b c d e f g h i j kn kr:=(Z29 N a b c d e f g h i j kn kr:Option J)
def Z26 N a b c d e f g h i kn kr:=(Z27 N a b c d e f g h i (λa b c d j e f g h i=>Z28 N a b c d j e f g h i kn kr):Option J)
def Z56{J:Type}(N:Nat)(a b c d:LI)(e f g h:Int)(i:LI)(kn:LI->LI->LI->LI->I5 (LI->Option J)):Option J :=
 kn a b c d 1 e f g h i
def Z59{J:Type}(N:Nat)(b c d a:LI)(e f g h i:Int)(j:LI)(kn:LI->LI->LI->LI->I7 (LI->Option J)):Option J :=
 kn b c d a e f g (a.length:Int) 0 h i j
def Z62{J:Type}(N:Nat)(e c f a:LI)(d h i j b l m:Int)(o:LI)(kn:LI->LI->LI->LI->I7 (LI->Option J))(k6:LI->LI->LI->LI->I5 (LI->Option J)):Option J :=
 cond (lk N (decide (b<j)))
 (
  cond (lk N (ax b a.length)) (
   cond (lk N (ax (a.getD b.toNat 0) c.length)) (
    cond (lk N (ax (a.getD b.toNat 0) c.length)) (
     cond (lk N (cX.P d (c.getD (a.getD b.toNat 0).toNat 0))) (
      cond (lk N (!(decide ((cX.g d (c.getD (a.getD b.toNat 0).toNat 0))=0)))) (
       kn e c f a (ac ((ac (Int.tdiv d (cX.g d (c.getD (a.getD b.toNat 0).toNat 0))))*(c.getD (a.getD b.toNat 0).toNat 0))) h i j (ac (b+1)) l m o) none) none) none) none) none)
 (
  k6 e c f a d h i l m o)
def Z61L{J:Type}(N:Nat)(k6:LI->LI->LI->LI->I5 (LI->Option J)):Nat->LI->LI->LI->LI->Int->Int->Int->Int->Int->Int->Int->LI->Option J
 |0,_,_,_,_,_,_,_,_,_,_,_,_=>none
 |M+1,a,b,c,d,e,f,g,h,i,j,l,m=>Z62 N a b c d e f g h i j l m (λa b c d e f g h i j l m=>Z61L N k6 M a b c d e f g h i j l m) k6
def EJ N a b c d e f g h i j l m k6:=(Z61L N k6 N a b c d e f g h i j l m:Option J)
def Z60 N a b c d e f g h i j l m kn:=(EJ N a b c d e f g h i j l m kn:Option J)
def Z58 N a b c d e f g h i j kn:=(Z59 N a b c d e f g h i j (λa b c d e f g l m h i j=>Z60 N a b c d e f g l m h i j kn):Option J)
def Z64{J:Type}(N:Nat)(a b c d:LI)(e f g h i:Int)(j:LI)(kn:LI->LI->LI->LI->I6 (LI->Option J)):Option J :=
 kn a b c d e 0 f g h i j
def Z67{J:Type}(N:Nat)(b c d a:LI)(e f g h i j:Int)(l:LI)(kn:LI->LI->LI->LI->I8 (LI->Option J)):Option J :=
 kn b c d a e f g h (a.length:Int) 0 i j l
def Z70{J:Type}(N:Nat)(d c e a:LI)(f h i j l b m o:Int)(p:LI)(kn:LI->LI->LI->LI->I8 (LI->Option J))(k8:LI->LI->LI->LI->I5 (LI->Option J)):Option J :=
 cond (lk N (decide (b<l)))
 (
  cond (lk N (ax b a.length)) (
   cond (lk N (ax (a.getD b.toNat 0) c.length)) (
    cond (lk N (!(decide ((c.getD (a.getD b.toNat 0).toNat 0)=0)))) (
     cond (lk N (ax (a.getD b.toNat 0) d.length)) (
      cond (lk N (ax (a.getD b.toNat 0) e.length)) (
       cond (lk N (ax (a.getD b.toNat 0) (e.set (a.getD b.toNat 0).toNat (ac ((ac (Int.tdiv f (c.getD (a.getD b.toNat 0).toNat 0)))*(d.getD (a.getD b.toNat 0).toNat 0)))).length)) (
        cond (lk N (cX.P h ((e.set (a.getD b.toNat 0).toNat (ac ((ac (Int.tdiv f (c.getD (a.getD b.toNat 0).toNat 0)))*(d.getD (a.getD b.toNat 0).toNat 0)))).getD (a.getD b.toNat 0).toNat 0))) (
         kn d c (e.set (a.getD b.toNat 0).toNat (ac ((ac (Int.tdiv f (c.getD (a.getD b.toNat 0).toNat 0)))*(d.getD (a.getD b.toNat 0).toNat 0)))) a f (cX.g h ((e.set (a.getD b.toNat 0).toNat (ac ((ac (Int.tdiv f (c.getD (a.getD b.toNat 0).toNat 0)))*(d.getD (a.getD b.toNat 0).toNat 0)))).getD (a.getD b.toNat 0).toNat 0)) i j l (ac (b+1)) m o p) none) none) none) none) none) none) none)
 (
  k8 d c e a h i j m o p)
def Z69L{J:Type}(N:Nat)(k8:LI->LI->LI->LI->I5 (LI->Option J)):Nat->LI->LI->LI->LI->Int->Int->Int->Int->Int->Int->Int->Int->LI->Option J
 |0,_,_,_,_,_,_,_,_,_,_,_,_,_=>none
 |M+1,a,b,c,d,e,f,g,h,i,j,l,m,o=>Z70 N a b c d e f g h i j l m o (λa b c d e f g h i j l m o=>Z69L N k8 M a b c d e f g h i j l m o) k8
def EK N a b c d e f g h i j l m o k8:=(Z69L N k8 N a b c d e f g h i j l m o:Option J)
def Z68 N a b c d e f g h i j l m o kn:=(EK N a b c d e f g h i j l m o kn:Option J)
def Z66 N a b c d e f g h i j l kn:=(Z67 N a b c d e f g h i j l (λa b c d e f g h m o i j l=>Z68 N a b c d e f g h m o i j l kn):Option J)
def Z72{J:Type}(N:Nat)(b c d a:LI)(e f g h i:Int)(j:LI)(kn:LI->LI->LI->LI->I7 (LI->Option J)):Option J :=
 kn b c d a e f g (a.length:Int) 0 h i j
def Z75{J:Type}(N:Nat)(e f c b:LI)(d g h i a j l:Int)(m:LI)(kn:LI->LI->LI->LI->I7 (LI->Option J))(k10:LI->LI->LI->I4 (LI->Option J)):Option J :=
 cond (lk N (decide (a<i)))
 (
  cond (lk N (ax a b.length)) (
   cond (lk N (ax (b.getD a.toNat 0) c.length)) (
    cond (lk N (!(decide (d=0)))) (
     cond (lk N (ax (b.getD a.toNat 0) c.length)) (
      kn e f (c.set (b.getD a.toNat 0).toNat (ac (Int.tdiv (c.getD (b.getD a.toNat 0).toNat 0) d))) b d g h i (ac (a+1)) j l m) none) none) none) none)
 (
  k10 e f c g h j l m)
def Z74L{J:Type}(N:Nat)(k10:LI->LI->LI->I4 (LI->Option J)):Nat->LI->LI->LI->LI->Int->Int->Int->Int->Int->Int->Int->LI->Option J
 |0,_,_,_,_,_,_,_,_,_,_,_,_=>none
 |M+1,a,b,c,d,e,f,g,h,i,j,l,m=>Z75 N a b c d e f g h i j l m (λa b c d e f g h i j l m=>Z74L N k10 M a b c d e f g h i j l m) k10
def EL N a b c d e f g h i j l m k10:=(Z74L N k10 N a b c d e f g h i j l m:Option J)
def Z73 N a b c d e f g h i j l m kn:=(EL N a b c d e f g h i j l m kn:Option J)
def zi N a b c j d e f g h i kn:=(Z72 N a b c j d e f g h i (λa b c l d e f m o g h i=>Z73 N a b c l d e f m o g h i kn):Option J)
def EM N a b c d l e f g h i j kn:=(Z66 N a b c d l e f g h i j (λa b c d e f g h i j=>zi N a b c d e f g h i j kn):Option J)
def zj N a b c d e f g h i j kn:=(Z64 N a b c d e f g h i j (λa b c d e l f g h i j=>EM N a b c d e l f g h i j kn):Option J)
def EN N a b c d e f g h i j kn:=(Z58 N a b c d e f g h i j (λa b c d e f g h i j=>zj N a b c d e f g h i j kn):Option J)
def Z55 N a b c d e f g h i kn:=(Z56 N a b c d e f g h i (λa b c d j e f g h i=>EN N a b c d j e f g h i kn):Option J)
def Z25 N a b c d e f g h i kn kr:=(Z26 N a b c d e f g h i (λa b c d e f g h i=>Z55 N a b c d e f g h i kn) kr:Option J)
def Z23 N a b c i d e f g h kn kr:=(Z24 N a b c i d e f g h (λa b c j d e f g h=>Z25 N a b c j d e f g h kn kr):Option J)
def Z21 N a b c d e f g h i kn kr:=(Z22 N a b c d e f g h i (λa b c d e f g h i=>Z23 N a b c d e f g h i kn kr):Option J)
def Z19 N a b c d e f g h i kn k1 kr:=(Z20 N a b c d e f g h i (λa b c d e f g h i=>Z21 N a b c d e f g h i kn kr) k1:Option J)
def Z17 N a b c d e f g h kn k1 kr:=(Z18 N a b c d e f g h (λa b c i d e f g h=>Z19 N a b c i d e f g h kn k1 kr):Option J)
def Z16 N a b c d e f g h kn kr:=(Z17 N a b c d e f g h kn kn kr:Option J)
def Z76{J:Type}(N:Nat)(a b c:LI)(d e f g:Int)(h:LI)(kn:LI->LI->LI->I4 (LI->Option J)):Option J :=
 kn a b c d (ac (e+1)) f g h
def Z15 N a b c d e f g h kn kr:=(Z16 N a b c d e f g h (λa b c d e f g h=>Z76 N a b c d e f g h kn) kr:Option J)
def Z13 N a b c d e i f g h kn k0 kr:=(Z14 N a b c d e i f g h (λa b c d e f g h=>Z15 N a b c d e f g h kn kr) k0:Option J)
def Z11 N a b c d e f g h kn k0 kr:=(Z12 N a b c d e f g h (λa b c d e i f g h=>Z13 N a b c d e i f g h kn k0 kr):Option J)
def Z10L{J:Type}(N:Nat)(k0 kr:LI->Option J):Nat->LI->LI->LI->Int->Int->Int->Int->LI->Option J
 |0,_,_,_,_,_,_,_,_=>none
 |M+1,a,b,c,d,e,f,g,h=>Z11 N a b c d e f g h (λa b c d e f g h=>Z10L N k0 kr M a b c d e f g h) k0 kr
def Z10 N a b c d e f g h k0 kr:=(Z10L N k0 kr N a b c d e f g h:Option J)
def Z9 N a b c d e f g h kn kr:=(Z10 N a b c d e f g h kn kr:Option J)
def Z7 N a b c d e f kn kr:=(Z8 N a b c d e f (λa b c g h d e f=>Z9 N a b c g h d e f kn kr):Option J)
def Z77{J:Type}(N:Nat)(a:LI)(kr:LI->Option J):Option J :=
 cond (Nat.blt 0 a.length) (
  kr a) none
def Z6 N b c a d e f kr:=(Z7 N b c a d e f (λa=>Z77 N a kr) kr:Option J)
def Z4 N a b c d e kr:=(Z5 N a b c d e (λa b f c d e=>Z6 N a b f c d e kr):Option J)
def Z2 N a b c kr:=(Z3 N a b c (λd e a b c=>Z4 N d e a b c kr):Option J)
def Z0 N a kr:=(Z1 N a (λb c d=>Z2 N b c d kr):Option J)
def Spec:Prop:=∀ (v0:MT),Ty.bd (.pair (.int .i64) (.pair (.int .i64) (.sl 0 (.int .i64)))) v0->P v0=true->∃N0,∀N,N0<=N->Z0 N v0 (λv2=>some ((),(v2,())))=some ((),((g v0),()))
def EO{a:Int}(h:-99<=a/\a<=99):mx a (ac (0-a))=bP a:=by rw[aM (by omega) (by omega),yl];unfold bP;omega
def O9(a:Int):bP (-a)=bP a:=by unfold bP;omega
def EP{k:Nat}(h:k<=4):(99:Int) ^ k<=96059601:=by
 have h1:99 ^ k<=99 ^ 4:=Nat.pow_le_pow_right (by omega) h;have h2:(99:Int) ^ k=((99 ^ k:Nat):Int):=by rw[Int.natCast_pow];rfl
 rw[h2];omega
def EQ{n:Nat}{A:Nat->Nat->Int}{x j:Nat}(hx:x<n)(hj:j<n)(h:¬ (A x j=0/\A j x=0))(h':A x j=0\/A j x=0):¬ ∃e,cT n A e:=by
 rintro ⟨e,he⟩
 rcases h' with z|z;·exact h ⟨z,tq he hx hj z⟩
 ·exact h ⟨tq he hj hx z,z⟩
section
variable {J : Type} {N : Nat} {m : Int × Int × List Int} {s p x j : Nat} {num0 num den out : List Int} {L : List Nat}
def Pa(hm:bn m=true)(hn:m.1.toNat<=5)(hcl:tB m.1.toNat (aj m) num0)(hf:fv m.1.toNat (aj m) s num0 L num den)(hp:p<L.length)(hx:L.getD p 0=x)(hj:j<m.1.toNat)(h0:¬ (aj m x j=0/\aj m j x=0))
  (kn:List Int->List Int->List Int->List Int->Int->Int->Int->Int->Int->Int->Int->Int->List Int->Option J) (kr:List Int->Option J) (t34 t35 t62 t63:Int) :
  (Z52 N num den out (aF L) (p:Int) (x:Int) (j:Int) (aj m x j) (-(aj m j x)) t34 t35 t62 t63 m.1 m.2.1 m.2.2 kn kr=kr []/\¬ ∃e,cT m.1.toNat (aj m) e) \/
  (∃L' num' den',fv m.1.toNat (aj m) s num0 L' num' den'/\(∃u,L'=L++u)/\(∀y∈L,∀k,fT (aj m) L num den y k->fT (aj m) L' num' den' y k)/\fT (aj m) L' num' den' x j /\
   Z52 N num den out (aF L) (p:Int) (x:Int) (j:Int) (aj m x j) (-(aj m j x)) t34 t35 t62 t63 m.1 m.2.1 m.2.2 kn kr=kn num' den' out (aF L') (p:Int) (x:Int) t34 t35 t62 t63 m.1 m.2.1 m.2.2):=by
 have hxm:x∈L:=by rw[<-hx];exact bO 0 hp
 have hxn:=hf.lt x hxm;have hle:=hf.le;simp only[Z52];by_cases z1:aj m x j=0;·rw[ct (dt z1)];exact Or.inl ⟨rfl,EQ hxn hj h0 (Or.inl z1)⟩
 rw[cf (df z1)];by_cases z2:aj m j x=0;·rw[ct (dt (by omega))];exact Or.inl ⟨rfl,EQ hxn hj h0 (Or.inr z2)⟩
 rw[cf (df (by omega))];by_cases sg:(0<aj m x j↔0 < -(aj m j x))
 ·have sgb:(!(((lk N (decide (0<aj m x j))) == (lk N (decide (0 < -(aj m j x)))))))=false:=by
   rw[aD,aD];by_cases h1:0<aj m x j;·rw[dt h1,dt (sg.1 h1)];rfl
   ·rw[df h1,df (λh=>h1 (sg.2 h))];rfl
  rw[cf sgb];have hne:¬ ((x:Int)=(j:Int)):=λe=>by
   have e':x=j:=by omega
   subst e';omega
  rw[cf (df hne)];obtain⟨Q,q1,q2,q3⟩:=hf.frac;obtain⟨c1,c2,c3,c4,c5⟩:=q3 x hxm;have st:=stepN (A:=aj m) (num:=num) (den:=den) x j c1 c3 z1 z2;have sk:=NN z1 z2 sg;have hb:=gE hm;have e1:=EO (hb x j);have e2:mx (-(aj m j x)) (ac (0 - -(aj m j x)))=bP (aj m j x):=by rw[EO (by have:=hb j x;omega),O9]
  have pw:=EP (k:=L.length-1) (by omega);have hdQ:=Int.le_of_dvd q1 c4;have a1:=qC (hb x j);have a2:=qC (hb j x);have a1':=ox z1;have a2':=ox z2;have b1:num.getD x 0*bP (aj m x j)<=96059601*99:=Int.mul_le_mul (by omega) a1 (by omega) (by omega);have b2:den.getD x 0*bP (aj m j x)<=96059601*99:=Int.mul_le_mul (by omega) a2 (by omega) (by omega);have hA:=st.a0p;have hB:=st.b0p;simp only[e1,e2,Int.toNat_natCast,aM (show -9223372036854775808<=num.getD x 0*bP (aj m x j) by omega) (by omega),aM (show -9223372036854775808<=den.getD x 0*bP (aj m j x) by omega) (by omega),cX.g];generalize hA0:num.getD x 0*bP (aj m x j)=A0 at *
  generalize hB0:den.getD x 0*bP (aj m j x)=B0 at *
  generalize hG:(Int.gcd A0 B0:Int)=G at *
  generalize ha:Int.tdiv A0 G=a at *
  generalize hb':Int.tdiv B0 G=b at *
  have gp:=st.gp;have ap:=st.ap;have bp:=st.bp;have al:a<=A0:=by have h1:=Int.mul_le_mul_of_nonneg_left (show(1:Int)<=G by omega) (Int.le_of_lt ap);have h2:=st.ea;omega
  have bl:b<=B0:=by have h1:=Int.mul_le_mul_of_nonneg_left (show(1:Int)<=G by omega) (Int.le_of_lt bp);have h2:=st.eb;omega
  have i1:ax (x:Int) num.length=true:=aN (by rw[hf.nl];exact hxn);have i2:ax (x:Int) den.length=true:=aN (by rw[hf.dl];exact hxn);have i3:ax (j:Int) num.length=true:=aN (by rw[hf.nl];exact hj);have i4:ax (j:Int) den.length=true:=aN (by rw[hf.dl];exact hj);have hP:cX.P A0 B0=true:=by simp only[cX.P,Bool.and_eq_true,decide_eq_true_eq];omega
  rw[ct i1,ct i2,ct hP,ct (nt (by omega)),ct (nt (by omega)),ct i3];simp only[aM (show -9223372036854775808<=a by omega) (by omega),aM (show -9223372036854775808<=b by omega) (by omega)];by_cases hz:num.getD j 0=0
  ·obtain⟨hg,hnj⟩:=hf.grow hp hj hz (by rw[hx];exact st) (λy k=>qC (hb y k));have hxj:∀y∈L,j≠y:=λy hy e=>hnj (e▸hy);have hnl:j<num.length:=by rw[hf.nl];exact hj
   have hdl:j<den.length:=by rw[hf.dl];exact hj
   rw[ct (dt hz),ct i3,ct i4,ct (show Nat.blt ((aF L).length+([(j:Int)]).length) 1099511627776=true by simp[cG,Nat.blt_eq];omega),yx];refine Or.inr ⟨L++[j],num.set j a,den.set j b,hg,⟨_,rfl⟩,λy hy k he=>he.grow hxj hnl hdl hy,Or.inr ⟨by simp, ?_⟩,rfl⟩;have:=DM st sk;rw[cM hnl,if_neg (hxj x hxm),cM hdl,if_pos rfl,cM hnl,if_pos rfl,cM hdl,if_neg (hxj x hxm)];exact this
  ·have hjm:j∈L:=Classical.byContradiction λhc=>by
    have h1:num0.getD j 0≠0:=by rw[<-hf.out j hj hc];exact hz
    exact hcl j hj h1 x hxn (Or.inr z1) (hf.new x hxm)
   obtain⟨d1,d2,d3,d4,d5⟩:=q3 j hjm;have hgood:(∃e,cT m.1.toNat (aj m) e)->num.getD j 0=a/\den.getD j 0=b:=by
    rintro ⟨e,he⟩
    have g1:=DL st hxn hj he (hf.good e he x hxm);have g2:=hf.good e he j hjm;have p1:=(he j hj).1;have p2:0<e s:=(he s (by rw[<-hf.hd];exact hf.lt _ (bO 0 hf.pos))).1;have g3:(e s*e j)*(num.getD j 0*b)=(e s*e j)*(a*den.getD j 0):=by grind
    have p3:=Int.mul_pos p2 p1;exact NM d1 d3 ap bp d5 st.co (Int.eq_of_mul_eq_mul_left (by omega) g3)
   rw[cf (df hz),ct i3];by_cases ea:num.getD j 0=a
   ·rw[cf (nf ea),ct i4];by_cases eb:den.getD j 0=b;·rw[cf (nf eb)];refine Or.inr ⟨L,num,den,hf,⟨[],by simp⟩,λ_ _ _ h=>h,Or.inr ⟨hjm, ?_⟩,rfl⟩;rw[ea,eb];exact DM st sk
    ·rw[ct (nt eb)];exact Or.inl ⟨rfl,λh=>eb (hgood h).2⟩
   ·rw[ct (nt ea)];exact Or.inl ⟨rfl,λh=>ea (hgood h).1⟩
 ·have sgb:(!(((lk N (decide (0<aj m x j))) == (lk N (decide (0 < -(aj m j x)))))))=true:=by
   rw[aD,aD];by_cases h1:0<aj m x j;·rw[dt h1,df (λh2=>sg ⟨λ_=>h2,λ_=>h1⟩)];rfl
   ·rw[df h1,dt (Classical.byContradiction λh2=>sg ⟨λh=>absurd h h1,λh=>absurd h h2⟩)];rfl
  rw[ct sgb];refine Or.inl ⟨rfl, ?_⟩;rintro ⟨e,he⟩
  have h1:=ow he hxn hj;rw[fS,Bool.and_eq_true,beq_iff_eq,decide_eq_decide]at h1;have:=h1.1;omega
def at_g(hd:0<=m.1)(a b:Nat):cS.g (m.1,(m.2.1,m.2.2)) (a:Int) (b:Int)=aj m a b:=jE hd a b
def at_p(hd:aO m=true){a b:Nat}(ha:a<m.1.toNat)(hb:b<m.1.toNat):cS.P (m.1,(m.2.1,m.2.2)) (a:Int) (b:Int)=true:=by obtain⟨n,r,hn,hr,hn1,hn5,hnr,hr8,hl⟩:=bf hd;exact jF hd (by omega) hb
def inner(hm:bn m=true)(hcl:tB m.1.toNat (aj m) num0)(k4:List Int->List Int->List Int->List Int->Int->Int->Int->Int->Int->List Int->Option J)(kr:List Int->Option J)(t34 t35:Int):∀(M j:Nat) (L:List Nat) (num den:List Int),fv m.1.toNat (aj m) s num0 L num den->p<L.length->L.getD p 0=x->j<=m.1.toNat->m.1.toNat-j<M ->
  (∀k',k'<p->∀k,k<m.1.toNat->fT (aj m) L num den (L.getD k' 0) k)->(∀k,k<j->fT (aj m) L num den x k) ->
  (Z39L N k4 kr M num den out (aF L) (p:Int) (x:Int) t34 t35 (m.1.toNat:Int) (j:Int) m.1 m.2.1 m.2.2=kr []/\¬ ∃e,cT m.1.toNat (aj m) e) \/
  (∃L' num' den',fv m.1.toNat (aj m) s num0 L' num' den'/\p<L'.length/\(∀k',k'<p+1->∀k,k<m.1.toNat->fT (aj m) L' num' den' (L'.getD k' 0) k) /\
   Z39L N k4 kr M num den out (aF L) (p:Int) (x:Int) t34 t35 (m.1.toNat:Int) (j:Int) m.1 m.2.1 m.2.2=k4 num' den' out (aF L') (p:Int) t34 t35 m.1 m.2.1 m.2.2):=by
 have hdim:=dE hm;obtain⟨n,r,hn,hr,hn1,hn5,hnr,hr8,hl⟩:=bf hdim;intro M;induction M with
 |zero=>intro j _ _ _ _ _ _ _ h;omega
 |succ M ih =>
  intro j L num den hf hp hx hj hM hE1 hE2;have hxm:x∈L:=by rw[<-hx];exact bO 0 hp
  have hxn:=hf.lt x hxm;simp only[Z39L,Z40,Z41,Z42,Z43];by_cases hlt:j<m.1.toNat
  ·rw[gi (by rw[aD];exact dt (by omega))];simp only[Z44,Z45,Z46,Z47,Z48,Z49];rw[ct (at_p hdim hxn hlt),ct (at_p hdim hlt hxn),at_g (by omega),at_g (by omega)];have hb:=gE hm j x;rw[show ac (0-aj m j x)=-(aj m j x) by rw[aM (by omega) (by omega)];omega];simp only[Z50,Z51];have next:∀(L':List Nat) (num' den':List Int),fv m.1.toNat (aj m) s num0 L' num' den'->(∃u,L'=L++u)->(∀y∈L,∀k,fT (aj m) L num den y k->fT (aj m) L' num' den' y k)->fT (aj m) L' num' den' x j ->
     (Z39L N k4 kr M num' den' out (aF L') (p:Int) (x:Int) t34 t35 (m.1.toNat:Int) ((j+1:Nat):Int) m.1 m.2.1 m.2.2=kr []/\¬ ∃e,cT m.1.toNat (aj m) e) \/
     (∃L'' num'' den'',fv m.1.toNat (aj m) s num0 L'' num'' den''/\p<L''.length/\(∀k',k'<p+1->∀k,k<m.1.toNat->fT (aj m) L'' num'' den'' (L''.getD k' 0) k) /\
      Z39L N k4 kr M num' den' out (aF L') (p:Int) (x:Int) t34 t35 (m.1.toNat:Int) ((j+1:Nat):Int) m.1 m.2.1 m.2.2=k4 num'' den'' out (aF L'') (p:Int) t34 t35 m.1 m.2.1 m.2.2):=by
    intro L' num' den' hf' hu hk he;obtain⟨u,hu⟩:=hu;have hget:∀k',k'<L.length->L'.getD k' 0=L.getD k' 0:=λk' hk'=>by rw[hu,jl hk']
    refine ih (j+1) L' num' den' hf' (by rw[hu];simp;omega) (by rw[hget p hp];exact hx) hlt (by omega) (λk' hk' k hkn=>?_) (λk hk'=>?_);·rw[hget k' (by omega)];exact hk _ (bO 0 (by omega)) k (hE1 k' hk' k hkn)
    ·by_cases e:k=j;·subst e;exact he
     ·exact hk x hxm k (hE2 k (by omega))
   by_cases h0:aj m x j=0/\aj m j x=0;·rw[ct (dt h0.1),ct (dt (by omega))];simp only[Z53];rw[bh (by rw[bv];omega)];exact next L num den hf ⟨[],by simp⟩ (λ_ _ _ h=>h) (Or.inl h0)
   ·have hz:∀(X Y:Option J),(cond (lk N (decide (aj m x j=0))) (cond (lk N (decide (-(aj m j x)=0))) X Y) Y)=Y:=by
     intro X Y;by_cases z1:aj m x j=0;·rw[ct (dt z1),cf (df (λz2=>h0 ⟨z1,by omega⟩))]
     ·rw[cf (df z1)]
    rw[hz];rcases Pa (N:=N) (out:=out) hm (by omega) hcl hf hp hx hlt h0 (λnum3 den4 out5 piece7 at8 i9 t34 t35 t62 t63 m1_0 m1_1 m1_2=>Z53 N num3 den4 out5 piece7 at8 i9 t34 t35 t62 t63 m1_0 m1_1 m1_2 (λnum3 den4 out5 piece7 at8 i9 t34 t35 t62 t63 m1_0 m1_1 m1_2=>Z39L N k4 kr M num3 den4 out5 piece7 at8 i9 t34 t35 t62 t63 m1_0 m1_1 m1_2)) kr t34 t35 (m.1.toNat:Int) (j:Int)with hc|⟨L',num',den',h1,h2,h3,h4,h5⟩;·exact Or.inl hc
    ·rw[h5];simp only[Z53];rw[bh (by rw[bv];omega)];exact next L' num' den' h1 h2 h3 h4
  ·rw[fI (by rw[aD];exact df (by omega))];refine Or.inr ⟨L,num,den,hf,hp,λk' hk' k hk=>?_,rfl⟩;by_cases e:k'=p;·subst e;rw[hx];exact hE2 k (by omega)
   ·exact hE1 k' (by omega) k hk
def Pb(hN:10<=N)(hm:bn m=true)(hcl:tB m.1.toNat (aj m) num0)(k2:List Int->List Int->List Int->List Int->Int->Int->Int->Int->List Int->Option J)(kr:List Int->Option J)(t34 t35:Int):∀(M p:Nat) (L:List Nat) (num den:List Int),fv m.1.toNat (aj m) s num0 L num den->p<=L.length->m.1.toNat-p<M ->
  (∀k',k'<p->∀k,k<m.1.toNat->fT (aj m) L num den (L.getD k' 0) k) ->
  (Z29L N k2 kr M num den out (aF L) (p:Int) t34 t35 m.1 m.2.1 m.2.2=kr []/\¬ ∃e,cT m.1.toNat (aj m) e) \/
  (∃L' num' den',fv m.1.toNat (aj m) s num0 L' num' den'/\(∀x∈L',∀k,k<m.1.toNat->fT (aj m) L' num' den' x k) /\
   Z29L N k2 kr M num den out (aF L) (p:Int) t34 t35 m.1 m.2.1 m.2.2=k2 num' den' out (aF L') t34 t35 m.1 m.2.1 m.2.2):=by
 have hdim:=dE hm;obtain⟨n,r,hn,hr,hn1,hn5,hnr,hr8,hl⟩:=bf hdim;intro M;induction M with
 |zero=>intro p _ _ _ _ _ h;omega
 |succ M ih =>
  intro p L num den hf hp hM hE;have hle:=hf.le;simp only[Z29L,Z30,Z31];by_cases hlt:p<L.length
  ·rw[ct (dt (by rw[cG];omega))];simp only[Z32,Z33,Z34,Z35];rw[ct (aN (by rw[cG];exact hlt))];simp only[Z36,Z37,Z38,Z39,Int.toNat_natCast,gD,hf.nl];have hin:=inner (J:=J) (N:=N) (out:=out) hm hcl (λnum3 den4 out5 piece7 at8 t34 t35 m1_0 m1_1 m1_2=>Z54 N num3 den4 out5 piece7 at8 t34 t35 m1_0 m1_1 m1_2 (λnum3 den4 out5 piece7 at8 t34 t35 m1_0 m1_1 m1_2=>Z29L N k2 kr M num3 den4 out5 piece7 at8 t34 t35 m1_0 m1_1 m1_2)) kr t34 t35 N 0 L num den hf hlt rfl (by omega) (by omega) hE (λk hk=>by omega);rw[show((0:Nat):Int)=0 from rfl]at hin;rcases hin with hc|⟨L',num',den',h1,h2,h3,h4⟩;·exact Or.inl hc
   ·rw[h4];simp only[Z54];rw[bh (by rw[bv];omega)];exact ih (p+1) L' num' den' h1 h2 (by omega) h3
  ·rw[cf (df (by rw[cG];omega))];refine Or.inr ⟨L,num,den,hf,λx hx k hk=>?_,rfl⟩;obtain⟨k',hk',e⟩:=mS hx;rw[<-e];exact hE k' (by omega) k hk
def Pc(hf:fv m.1.toNat (aj m) s num0 L num den)(h5:m.1.toNat<=5){Q:Int}(q1:0<Q)(q2:Q<=96059601)(q3:∀x∈L,0<den.getD x 0/\den.getD x 0∣Q)(k6:List Int->List Int->List Int->List Int->Int->Int->Int->Int->Int->List Int->Option J)(t34 t35:Int):∀(M k:Nat) (c:Int),k<=L.length->L.length-k<M->0<c->c∣Q->(∀k',k'<k->den.getD (L.getD k' 0) 0∣c) ->
  ∃c',0<c'/\c'∣Q/\(∀x∈L,den.getD x 0∣c') /\
   Z61L N k6 M num den out (aF L) c t34 t35 ((aF L).length:Int) (k:Int) m.1 m.2.1 m.2.2=k6 num den out (aF L) c' t34 t35 m.1 m.2.1 m.2.2:=by
 have hle:=hf.le;intro M;induction M with
 |zero=>intro k _ _ h;omega
 |succ M ih =>
  intro k c hk hM hc hcQ hd;simp only[Z61L,Z62];by_cases hlt:k<L.length
  ·have hxm:L.getD k 0∈L:=bO 0 hlt;obtain⟨d1,d2⟩:=q3 _ hxm;have i1:ax (k:Int) (aF L).length=true:=aN (by rw[cG];exact hlt);have i2:ax ((L.getD k 0:Nat):Int) den.length=true:=aN (by rw[hf.dl];exact hf.lt _ hxm);obtain⟨g1,g2,g3,g4,g5,g6,g7⟩:=NO hc d1 hcQ d2 q1;have b1:=Int.le_of_dvd q1 hcQ;have b2:=Int.le_of_dvd q1 d2;have b3:=Int.le_of_dvd q1 g5;rw[ct (dt (by rw[cG];omega)),ct i1];simp only[Int.toNat_natCast,gD];rw[ct i2,ct i2,ct (show cX.P c (den.getD (L.getD k 0) 0)=true by simp only[cX.P,Bool.and_eq_true,decide_eq_true_eq];omega)];have eg:cX.g c (den.getD (L.getD k 0) 0)=(Int.gcd c (den.getD (L.getD k 0) 0):Int):=rfl;rw[ct (nt (by rw[eg];omega)),eg,aM (n:=Int.tdiv c _) (by omega) (by omega),aM (by omega) (by omega),bh (by rw[bv];omega)];refine ih (k+1) _ hlt (by omega) g4 g5 (λk' hk'=>?_);by_cases e:k'=k;·subst e;exact g7
   ·exact Int.dvd_trans (hd k' (by omega)) g6
  ·rw[cf (df (by rw[cG];omega))];refine⟨c,hc,hcQ,λx hx=>?_,rfl⟩;obtain⟨k',hk',e⟩:=mS hx;rw[<-e];exact hd k' (by omega)
structure O2(n:Nat)(L:List Nat)(num den out0:List Int)(c:Int)(k:Nat)(out:List Int)(g:Int):Prop where
 len:out.length=n
 old:∀x,x<n->(∀k',k'<k->x≠L.getD k' 0)->out.getD x 0=out0.getD x 0
 val:∀k',k'<k->out.getD (L.getD k' 0) 0*den.getD (L.getD k' 0) 0=c*num.getD (L.getD k' 0) 0/\0<out.getD (L.getD k' 0) 0/\out.getD (L.getD k' 0) 0<=9227446944279201
 gcd:g=((cw ((List.range k).map λt=>out.getD (L.getD t 0) 0):Nat):Int)
def O2.g_range{n:Nat}{out0:List Int}{c g:Int}{k:Nat}(h:O2 n L num den out0 c k out g):0<=g/\g<=9227446944279201/\(0<k->0<g):=by
 have h0:0<=g:=by rw[h.gcd];omega
 by_cases e:k=0;·subst e;have:=h.gcd;simp[cw]at this;omega
 ·obtain⟨_,a1,a2⟩:=h.val 0 (by omega);have hd:g∣out.getD (L.getD 0 0) 0:=by rw[h.gcd];exact tn (List.mem_map.2 ⟨0,List.mem_range.2 (by omega),rfl⟩)
  have:=Int.le_of_dvd a1 hd;refine⟨h0,by omega,λ_=>?_⟩;rcases Int.lt_or_le 0 g with h'|h';·exact h'
  ·have e:g=0:=by omega
   rw[e]at hd;have:=Int.zero_dvd.1 hd;omega
def Pd(hf:fv m.1.toNat (aj m) s num0 L num den)(h5:m.1.toNat<=5){c:Int}(c1:0<c)(c2:c<=96059601)(q3:∀x∈L,0<num.getD x 0/\num.getD x 0<=96059601/\0<den.getD x 0/\den.getD x 0∣c)(out0:List Int)(k8:List Int->List Int->List Int->List Int->Int->Int->Int->Int->Int->List Int->Option J)(t34 t35:Int):∀(M k:Nat) (out:List Int) (g:Int),k<=L.length->L.length-k<M->O2 m.1.toNat L num den out0 c k out g ->
  ∃out' g',O2 m.1.toNat L num den out0 c L.length out' g' /\
   Z69L N k8 M num den out (aF L) c g t34 t35 ((aF L).length:Int) (k:Int) m.1 m.2.1 m.2.2=k8 num den out' (aF L) g' t34 t35 m.1 m.2.1 m.2.2:=by
 have hle:=hf.le;intro M;induction M with
 |zero=>intro k _ _ _ h;omega
 |succ M ih =>
  intro k out g hk hM ho;simp only[Z69L,Z70];by_cases hlt:k<L.length
  ·have hxm:L.getD k 0∈L:=bO 0 hlt;have hxn:=hf.lt _ hxm;obtain⟨d1,d2,d3,d4⟩:=q3 _ hxm;have i1:ax (k:Int) (aF L).length=true:=aN (by rw[cG];exact hlt);have i2:ax ((L.getD k 0:Nat):Int) den.length=true:=aN (by rw[hf.dl];exact hxn);have i3:ax ((L.getD k 0:Nat):Int) num.length=true:=aN (by rw[hf.nl];exact hxn);have i4:ax ((L.getD k 0:Nat):Int) out.length=true:=aN (by rw[ho.len];exact hxn);have hxo:L.getD k 0<out.length:=by rw[ho.len];exact hxn
   have hg:=ho.g_range;have t1:Int.tdiv c (den.getD (L.getD k 0) 0)*den.getD (L.getD k 0) 0=c:=Int.tdiv_mul_cancel d4;have t2:0<Int.tdiv c (den.getD (L.getD k 0) 0)/\Int.tdiv c (den.getD (L.getD k 0) 0)<=c:=by
    generalize Int.tdiv c (den.getD (L.getD k 0) 0)=t at t1 ⊢;have:0<t:=by
     rcases Int.lt_or_le 0 t with h'|h';·exact h'
     ·have:=Int.mul_nonpos_of_nonpos_of_nonneg h' (Int.le_of_lt d3);omega
    have:=Int.mul_le_mul_of_nonneg_left (show(1:Int)<=den.getD (L.getD k 0) 0 by omega) (Int.le_of_lt this);exact⟨by omega,by omega⟩
   have t3:0<Int.tdiv c (den.getD (L.getD k 0) 0)*num.getD (L.getD k 0) 0:=Int.mul_pos t2.1 d1;have t4:Int.tdiv c (den.getD (L.getD k 0) 0)*num.getD (L.getD k 0) 0<=96059601*96059601:=Int.mul_le_mul (by omega) d2 (by omega) (by omega);rw[ct (dt (by rw[cG];omega)),ct i1];simp only[Int.toNat_natCast,gD];rw[ct i2,ct (nt (by omega)),ct i3,ct i4];simp only[aM (show -9223372036854775808<=Int.tdiv c (den.getD (L.getD k 0) 0) by omega) (by omega)];simp only[aM (show -9223372036854775808<=Int.tdiv c (den.getD (L.getD k 0) 0)*num.getD (L.getD k 0) 0 by omega) (by omega)];generalize hv:Int.tdiv c (den.getD (L.getD k 0) 0)*num.getD (L.getD k 0) 0=v at t3 t4 ⊢;have hself:(out.set (L.getD k 0) v).getD (L.getD k 0) 0=v:=by rw[cM hxo,if_pos rfl]
   have hget:∀t,t<k->(out.set (L.getD k 0) v).getD (L.getD t 0) 0=out.getD (L.getD t 0) 0:=λt ht'=>by rw[cM hxo,if_neg (λe=>by have:=ln hf.nd hlt (by omega) e;omega)]
   rw[ct (aN (by rw[List.length_set];exact hxo)),hself,ct (show cX.P g v=true by simp only[cX.P,Bool.and_eq_true,decide_eq_true_eq];omega),bh (by rw[bv];omega)];refine ih (k+1) _ _ hlt (by omega) ⟨by rw[List.length_set];exact ho.len, ?_, ?_, ?_⟩;·intro x hx hall;rw[cM hxo,if_neg (λe=>hall k (by omega) e.symm)];exact ho.old x hx (λt ht'=>hall t (by omega))
   ·intro t ht';by_cases e:t=k;·subst e;rw[hself];refine⟨?_,t3,by omega⟩;rw[<-hv];have e1:=t1;grind
    ·rw[hget t (by omega)];exact ho.val t (by omega)
   ·rw[List.range_succ,List.map_append,List.map_cons,List.map_nil,hself];rw[show(List.range k).map (λt=>(out.set (L.getD k 0) v).getD (L.getD t 0) 0)=(List.range k).map (λt=>out.getD (L.getD t 0) 0)from List.map_congr_left (λt ht'=>hget t (List.mem_range.1 ht'))];rw[ho.gcd];exact Dy _ _ v (by omega) rfl
  ·have e:k=L.length:=by omega
   subst e;exact⟨out,g,ho,by rw[cf (df (by rw[cG];omega))]⟩
def Pe(hf:fv m.1.toNat (aj m) s num0 L num den)(h5:m.1.toNat<=5){out2:List Int}{g:Int}(hg:0<g)(hv:∀x∈L,0<out2.getD x 0/\out2.getD x 0<=9227446944279201)(k10:List Int->List Int->List Int->Int->Int->Int->Int->List Int->Option J)(t34 t35:Int):∀(M k:Nat) (d:List Int),k<=L.length->L.length-k<M->T3 m (L,[]) out2 g k d ->
  ∃d',T3 m (L,[]) out2 g L.length d'/\Z74L N k10 M num den d (aF L) g t34 t35 ((aF L).length:Int) (k:Int) m.1 m.2.1 m.2.2=k10 num den d' t34 t35 m.1 m.2.1 m.2.2:=by
 have hle:=hf.le;intro M;induction M with
 |zero=>intro k _ _ h;omega
 |succ M ih =>
  intro k d hk hM ht;simp only[Z74L,Z75];by_cases hlt:k<L.length
  ·have hxm:L.getD k 0∈L:=bO 0 hlt;have hxn:=hf.lt _ hxm;obtain⟨v1,v2⟩:=hv _ hxm;have hcur:=ht.cur hf.nd hf.lt hlt;have hdv:0<=Int.tdiv (out2.getD (L.getD k 0) 0) g/\Int.tdiv (out2.getD (L.getD k 0) 0) g<=9227446944279201:=by rw[Int.tdiv_eq_ediv_of_nonneg (by omega)];refine⟨Int.ediv_nonneg (by omega) (by omega), ?_⟩;have:=Int.ediv_le_self (a:=out2.getD (L.getD k 0) 0) g (by omega);omega
   have i4:ax ((L.getD k 0:Nat):Int) d.length=true:=aN (by rw[ht.len];exact hxn);have hcur':d.getD (L.getD k 0) 0=out2.getD (L.getD k 0) 0:=hcur;rw[ct (dt (by rw[cG];omega)),ct (aN (by rw[cG];exact hlt))];simp only[Int.toNat_natCast,gD];rw[ct i4,ct (nt (by omega)),ct i4,hcur',aM (by omega) (by omega),bh (by rw[bv];omega)];exact ih (k+1) _ hlt (by omega) (ht.step hf.nd hf.lt hlt)
  ·have e:k=L.length:=by omega
   subst e;exact⟨d,ht,by rw[cf (df (by rw[cG];omega))]⟩
def outer(hN:10<=N)(hm:bn m=true)(kr:List Int->Option J):∀(M i:Nat) (num den out:List Int),oz m.1.toNat (aj m) num out->den.length=m.1.toNat->i<=m.1.toNat->(∀x,x<i->num.getD x 0≠0)->m.1.toNat-i<M ->
  Z10L N (λout5=>Z77 N out5 kr) kr M num den out (m.1.toNat:Int) (i:Int) m.1 m.2.1 m.2.2=kr (bq m):=by
 have hdim:=dE hm;obtain⟨n,r,hn,hr,hn1,hn5,hnr,hr8,hl⟩:=bf hdim;intro M;induction M with
 |zero=>intro i _ _ _ _ _ _ _ h;omega
 |succ M ih =>
  intro i num den out hO hdl hi hpos hM;simp only[Z10L,Z11,Z12,Z13,Z14];by_cases hlt:i<m.1.toNat
  ·rw[gi (by rw[aD];exact dt (by omega))];simp only[Z15,Z16,Z17,Z18,Z19,Z20];rw[ct (aN (by rw[hO.nl];exact hlt)),Int.toNat_natCast];by_cases hz:num.getD i 0=0
   ·rw[cf (nf hz)];simp only[Z21,Z22];rw[ct (aN (by rw[hO.nl];exact hlt)),ct (aN (by rw[hdl];exact hlt)),Int.toNat_natCast];simp only[Z23,Z24,Z25,Z26,Z27,Z28,Z29];have hnl:i<num.length:=by rw[hO.nl];exact hlt
    have hdl':i<den.length:=by rw[hdl];exact hlt
    have f0:fv m.1.toNat (aj m) i num [i] (num.set i 1) (den.set i 1):=by
     refine⟨by rw[List.length_set];exact hO.nl,by rw[List.length_set];exact hdl,by simp,λx hx=>by rw[List.mem_singleton]at hx;omega,rfl,by simp, ?_, ?_, ?_, ?_⟩;·intro x hx hni;rw[cM hnl,if_neg (λe=>hni (by simp[e]))]
     ·intro x hx;rw[List.mem_singleton]at hx;subst hx;exact hz
     ·refine⟨1,by omega,by simp,λx hx=>?_⟩;rw[List.mem_singleton]at hx;subst hx;rw[cM hnl,if_pos rfl,cM hdl',if_pos rfl];exact⟨by omega,by simp,by omega,Int.dvd_refl _,by decide⟩
     ·intro e he x hx;rw[List.mem_singleton]at hx;subst hx;rw[cM hnl,if_pos rfl,cM hdl',if_pos rfl]
    have hmid:=Pb (J:=J) (out:=out) hN hm hO.closed (λnum3 den4 out5 piece7 t34 t35 m1_0 m1_1 m1_2=>Z55 N num3 den4 out5 piece7 t34 t35 m1_0 m1_1 m1_2 (λnum3 den4 out5 t34 t35 m1_0 m1_1 m1_2=>Z76 N num3 den4 out5 t34 t35 m1_0 m1_1 m1_2 (λnum3 den4 out5 t34 t35 m1_0 m1_1 m1_2=>Z10L N (λout5=>Z77 N out5 kr) kr M num3 den4 out5 t34 t35 m1_0 m1_1 m1_2))) kr (m.1.toNat:Int) (i:Int) N 0 [i] (num.set i 1) (den.set i 1) f0 (by omega) (by omega) (λk' hk'=>by omega);rw[show((0:Nat):Int)=0 from rfl,show aF [i]=[(i:Int)]from rfl]at hmid;rcases hmid with⟨h1,h2⟩|⟨L,num',den',hf,hE,h1⟩;·rw[h1,Dt h2]
    ·rw[h1];have hle:=hf.le;obtain⟨Q,q1,q2,q3⟩:=hf.frac;have pw:=EP (k:=L.length-1) (by omega);simp only[Z55,Z56,EN,Z58,Z59,Z60,EJ];obtain⟨c,c1,c2,c3,c4⟩:=Pc (J:=J) (N:=N) (out:=out) (num:=num') (m:=m) hf (by omega) q1 (by omega) (λx hx=>⟨(q3 x hx).2.2.1,(q3 x hx).2.2.2.1⟩) (λnum3 den4 out5 piece7 common16 t34 t35 m1_0 m1_1 m1_2=>zj N num3 den4 out5 piece7 common16 t34 t35 m1_0 m1_1 m1_2 (λnum3 den4 out5 t34 t35 m1_0 m1_1 m1_2=>Z76 N num3 den4 out5 t34 t35 m1_0 m1_1 m1_2 (λnum3 den4 out5 t34 t35 m1_0 m1_1 m1_2=>Z10L N (λout5=>Z77 N out5 kr) kr M num3 den4 out5 t34 t35 m1_0 m1_1 m1_2))) (m.1.toNat:Int) (i:Int) N 0 1 (by omega) (by omega) (by omega) (Int.one_dvd _) (λk' hk'=>by omega);rw[show((0:Nat):Int)=0 from rfl]at c4;rw[c4];have cQ:=Int.le_of_dvd q1 c2;simp only[zj,Z64,EM,Z66,Z67,Z68,EK];obtain⟨out2,g2,o1,o2⟩:=Pd (J:=J) (N:=N) (num:=num') (m:=m) hf (by omega) c1 (by omega) (λx hx=>⟨(q3 x hx).1,by have:=(q3 x hx).2.1;omega,(q3 x hx).2.2.1,c3 x hx⟩) out (λnum3 den4 out5 piece7 g19 t34 t35 m1_0 m1_1 m1_2=>zi N num3 den4 out5 piece7 g19 t34 t35 m1_0 m1_1 m1_2 (λnum3 den4 out5 t34 t35 m1_0 m1_1 m1_2=>Z76 N num3 den4 out5 t34 t35 m1_0 m1_1 m1_2 (λnum3 den4 out5 t34 t35 m1_0 m1_1 m1_2=>Z10L N (λout5=>Z77 N out5 kr) kr M num3 den4 out5 t34 t35 m1_0 m1_1 m1_2))) (m.1.toNat:Int) (i:Int) N 0 out 0 (by omega) (by omega) ⟨hO.ol,λ_ _ _=>rfl,λk hk=>by omega,rfl⟩;rw[show((0:Nat):Int)=0 from rfl]at o2;rw[o2];have hg2:=o1.g_range.2.2 hf.pos;have hval:∀x∈L,out2.getD x 0*den'.getD x 0=c*num'.getD x 0/\0<out2.getD x 0/\out2.getD x 0<=9227446944279201:=by intro x hx;obtain⟨k,hk,e⟩:=mS hx;rw[<-e];exact o1.val k hk
     simp only[zi,Z72,Z73,EL];obtain⟨out3,p1,p2⟩:=Pe (J:=J) (N:=N) (num:=num') (m:=m) hf (by omega) hg2 (λx hx=>(hval x hx).2) (λnum3 den4 out5 t34 t35 m1_0 m1_1 m1_2=>Z76 N num3 den4 out5 t34 t35 m1_0 m1_1 m1_2 (λnum3 den4 out5 t34 t35 m1_0 m1_1 m1_2=>Z10L N (λout5=>Z77 N out5 kr) kr M num3 den4 out5 t34 t35 m1_0 m1_1 m1_2)) (m.1.toNat:Int) (i:Int) N 0 out2 (by omega) (by omega) ⟨o1.len,λ_ _ _=>rfl,λk hk=>by omega⟩;rw[show((0:Nat):Int)=0 from rfl]at p2;rw[p2];have hgl:g2=((cw (L.map λx=>out2.getD x 0):Nat):Int):=by rw[<-Dw L (λx=>out2.getD x 0)];exact o1.gcd
     obtain⟨r1,r2,r3⟩:=hO.piece (out3:=out3) hf hE c1 hg2 (λx hx=>(hval x hx).1) hgl (λx hx=>by
      obtain⟨k,hk,e⟩:=mS hx;have:=p1.val k hk;rw[<-e];rw[show out3.getD (L.getD k 0) 0=_ from this];refine Int.tdiv_mul_cancel ?_;rw[hgl];exact tn (List.mem_map.2 ⟨L.getD k 0,bO 0 hk,rfl⟩)) (λx hx hni=>by
      have hne:∀k',k'<L.length->x≠L.getD k' 0:=λk' hk' e=>hni (by rw[e];exact bO 0 hk');rw[p1.out x hx hne,o1.old x hx hne]) p1.len
     simp only[Z76];rw[bh (by rw[bv];omega)];exact ih (i+1) num' den' out3 r1 hf.dl hlt (λx hx=>by
      by_cases e:x=i;·subst e;exact r2
      ·exact r3 x (by omega) (hpos x (by omega))) (by omega)
   ·rw[ct (nt hz)];simp only[Z76];rw[bh (by rw[bv];omega)];exact ih (i+1) num den out hO hdl hlt (λx hx=>by
     by_cases e:x=i;·subst e;exact hz
     ·exact hpos x (by omega)) (by omega)
  ·rw[fI (by rw[aD];exact df (by omega))];simp only[Z77];rw[hO.fac (λx hx=>hpos x (by omega)),gi (by rw[hO.ol,Nat.blt_eq];omega)]
end
def ok:Spec:=λm hb hp=>⟨10,λN hN=>by
 have hm:bn m=true:=hp;have hdim:=dE hm;obtain⟨n,r,hn,hr,hn1,hn5,hnr,hr8,hl⟩:=bf hdim;have hz:∀x,(List.replicate m.1.toNat (0:Int)).getD x 0=0:=λx=>by rw[List.getD_eq_getElem?_getD,List.getElem?_replicate];split<;>rfl
 have hc:(bT 0 m.1&&decide (m.1<1099511627776))=true:=by rw[jD (by omega),dt (by omega)];rfl
 simp only[Z0,Z1,Z2,Z3];rw[ct hc,ct hc];have key:Z4 N (List.replicate m.1.toNat 0) (List.replicate m.1.toNat 0) m.1 m.2.1 m.2.2 (λt2=>some ((),(t2,())))=some ((),(g m,())):=by simp only[Z4,Z5];rw[ct hc];simp only[Z6,Z7,Z8,Z9,Z10,List.length_replicate];have:=outer (J:=Unit×List Int×Unit) hN hm (λt2=>some ((),(t2,()))) N 0 (List.replicate m.1.toNat 0) (List.replicate m.1.toNat 0) (List.replicate m.1.toNat 0) ⟨by simp,by simp,λy hy h=>absurd (hz y) h,λj hj h=>absurd (hz j) h⟩ (by simp) (by omega) (λx hx=>by omega) (by omega);exact this
 rw[key];simp only[bo,fG]⟩
end aJ
namespace fB
def g(m:Int×Int×List Int):Bool:=bn m&&!decide (bq m=[])
def Z0{J:Type}(N:Nat)(a:MT)(kr:Bool->Option J):Option J :=
 cond (lk N ((kI.g a)))
 (
  cond (lk N (aJ.P a)) (
   kr (lk N (!(decide ((aJ.g a).length=0))))) none)
 (
  kr false)
def Spec:Prop:=∀ (v0:MT),Ty.bd (.pair (.int .i64) (.pair (.int .i64) (.sl 0 (.int .i64)))) v0->∃N0,∀N,N0<=N->Z0 N v0 (λv2=>some ((),(v2,())))=some ((),((g v0),()))
def ok:Spec:=λm hb=>⟨0,λN hN=>by
 simp only[Z0,aD,g,kI.g,aJ.P,aJ.g];cases bn m;·rfl
 ·by_cases h:bq m=[];·rw[dt h,dt (by rw[h];rfl)];rfl
  ·rw[df h,df (λe=>h (List.length_eq_zero_iff.1 e))];rfl⟩
end fB
namespace cZ
def P(a:List Int):Bool:=decide (a.length<1099511627776)
abbrev g(a:List Int):List Int:=a
def Z0{J:Type}(N:Nat)(a:LI)(kr:LI->Option J):Option J :=
 cond (lk N (decide (0<a.length)))
 (
  cond (lk N (Nat.blt (([]:List Int).length+a.length) 1099511627776)) (
   kr (([]:List Int)++a)) none)
 (
  ce (
   kr ([]:List Int))
  (
   cond (lk N (Nat.blt (([]:List Int).length+a.length) 1099511627776)) (
    kr (([]:List Int)++a)) none))
def Spec:Prop:=∀ (v0:LI),Ty.bd (.sl 0 (.int .i64)) v0->P v0=true->∃N0,∀N,N0<=N->Z0 N v0 (λv2=>some ((),(v2,())))=some ((),((g v0),()))
def ok:Spec:=λa hb hp=>⟨0,λN hN=>by
 have hl:a.length<1099511627776:=by simpa[P]using hp
 have hc:Nat.blt (([]:List Int).length+a.length) 1099511627776=true:=by simpa using hl
 simp only[Z0,aD,g,hc,cond_true,List.nil_append];by_cases h:0<a.length;·simp[h]
 ·have:a=[]:=List.eq_nil_of_length_eq_zero (by omega);subst this;simp[fG]⟩
end cZ
namespace jr
def g(xs:List Int)(i:Int)(ys:List Int):List Int:=gB xs i ys
def P(xs:List Int)(i:Int)(ys:List Int):Bool:=mP xs i ys
def ok:True:=trivial
end jr
namespace bH
def P(n:Int):Bool:=decide (0<=n)&&decide (n<=5)
def g(n:Int):List (List Int):=eK n.toNat
def Z1{J:Type}(N:Nat)(a:Int)(kn:Int->Option J):Option J :=
 kn a
def Z3{J:Type}(N:Nat)(a:Int)(kn:LL->Int->Option J):Option J :=
 kn ([([]:List Int)]:List (LI)) a
def Z6{J:Type}(N:Nat)(a:LL)(b:Int)(kn:LL->I2 (Option J)):Option J :=
 kn a b 0
def Z10{J:Type}(N:Nat)(a:LL)(b c:Int)(kn:LL->I2 (Option J))(k0:LL->Option J):Option J :=
 cond (lk N (decide (c<b)))
 (
  kn a b c)
 (
  k0 a)
def Z14{J:Type}(N:Nat)(a:LL)(b c:Int)(kn:LL->I2 (Option J)):Option J :=
 kn a b c
def Z17{J:Type}(N:Nat)(a:LL)(b c:Int)(kn:LL->I4 (Option J)):Option J :=
 kn a b c (a.length:Int) 0
def Z21{J:Type}(N:Nat)(c d:LL)(e f a b:Int)(kn:LL->LL->I4 (Bool->Option J)):Option J :=
 kn c d e f a b (lk N (decide (b<a)))
def Z23{J:Type}(N:Nat)(a d:LL)(b c e f:Int)(g:Bool)(kn:LL->LL->I4 (Option J))(k2:LL->I2 (Option J)):Option J :=
 cond (g)
 (
  kn a d b c e f)
 (
  k2 a b c)
def Z27{J:Type}(N:Nat)(c a:LL)(d e f b:Int)(kn:LL->LL->I2 (LI->I2 (Option J))):Option J :=
 cond (lk N (ax b a.length)) (
  kn c a d e (a.getD b.toNat []) f b) none
def Z29{J:Type}(N:Nat)(a b:LL)(c d:Int)(e:LI)(f g:Int)(kn:LL->LL->I2 (LI->I3 (Option J))):Option J :=
 kn a b c d e 0 f g
def Z32{J:Type}(N:Nat)(d e:LL)(f b:Int)(a:LI)(c h i:Int)(kn:LL->LL->I2 (LI->I3 (Option J)))(k4:LL->LL->I4 (Option J)):Option J :=
 cond (lk N (decide (c<=(a.length:Int))))
 (
  cond (lk N (cZ.P a)) (
   cond (lk N (jr.P (cZ.g a) c ([b]:List Int))) (
    cond (lk N (Nat.blt (d.length+([(jr.g (cZ.g a) c ([b]:List Int))]:List (LI)).length) 1099511627776)) (
     kn (d++([(jr.g (cZ.g a) c ([b]:List Int))]:List (LI))) e f b a (ac (c+1)) h i) none) none) none)
 (
  k4 d e f b h i)
def Z31L{J:Type}(N:Nat)(k4:LL->LL->I4 (Option J)):Nat->LL->LL->Int->Int->LI->Int->Int->Int->Option J
 |0,_,_,_,_,_,_,_,_=>none
 |M+1,a,b,c,d,e,f,g,h=>Z32 N a b c d e f g h (λa b c d e f g h=>Z31L N k4 M a b c d e f g h) k4
def Z31 N a b c d e f g h k4:=(Z31L N k4 N a b c d e f g h:Option J)
def Z30 N a b c d e f g h kn:=(Z31 N a b c d e f g h kn:Option J)
def Z28 N a b c d e f g kn:=(Z29 N a b c d e f g (λa b c d e h f g=>Z30 N a b c d e h f g kn):Option J)
def Z26 N a b c d e f kn:=(Z27 N a b c d e f (λa b c d g e f=>Z28 N a b c d g e f kn):Option J)
def Z25 N a b c d e f kn:=(Z26 N a b c d e f kn:Option J)
def Z33{J:Type}(N:Nat)(a b:LL)(c d e f:Int)(kn:LL->LL->I4 (Option J)):Option J :=
 kn a b c d e (ac (f+1))
def Z24 N a b c d e f kn:=(Z25 N a b c d e f (λa b c d e f=>Z33 N a b c d e f kn):Option J)
def Z22 N a b c d e f g kn k2:=(Z23 N a b c d e f g (λa b c d e f=>Z24 N a b c d e f kn) k2:Option J)
def Z20 N a b c d e f kn k2:=(Z21 N a b c d e f (λa b c d e f g=>Z22 N a b c d e f g kn k2):Option J)
def Z19L{J:Type}(N:Nat)(k2:LL->I2 (Option J)):Nat->LL->LL->Int->Int->Int->Int->Option J
 |0,_,_,_,_,_,_=>none
 |M+1,a,b,c,d,e,f=>Z20 N a b c d e f (λa b c d e f=>Z19L N k2 M a b c d e f) k2
def Z19 N a b c d e k2:=(Z19L N k2 N ([]:List (LI)) a b c d e:Option J)
def Z18 N a b c d e kn:=(Z19 N a b c d e kn:Option J)
def Z16 N c a b kn:=(Z17 N c a b (λd a b e f=>Z18 N d a b e f kn):Option J)
def Z34{J:Type}(N:Nat)(a:LL)(b c:Int)(kn:LL->I2 (Option J)):Option J :=
 kn a b c
def Z15 N c a b kn:=(Z16 N c a b (λd a b=>Z34 N d a b kn):Option J)
def Z13 N a b c kn:=(Z14 N a b c (λa b c=>Z15 N a b c kn):Option J)
def Z12 N a b c kn:=(Z13 N a b c kn:Option J)
def Z35{J:Type}(N:Nat)(a:LL)(b c:Int)(kn:LL->I2 (Option J)):Option J :=
 kn a b (ac (c+1))
def Z11 N a b c kn:=(Z12 N a b c (λa b c=>Z35 N a b c kn):Option J)
def Z9 N a b c kn k0:=(Z10 N a b c (λa b c=>Z11 N a b c kn) k0:Option J)
def Z8L{J:Type}(N:Nat)(k0:LL->Option J):Nat->LL->Int->Int->Option J
 |0,_,_,_=>none
 |M+1,a,b,c=>Z9 N a b c (λa b c=>Z8L N k0 M a b c) k0
def Z8 N a b c k0:=(Z8L N k0 N a b c:Option J)
def Z7 N a b c kn:=(Z8 N a b c kn:Option J)
def Z5 N a b kn:=(Z6 N a b (λa b c=>Z7 N a b c kn):Option J)
def Z36{J:Type}(N:Nat)(a:LL)(kr:LL->Option J):Option J :=
 kr a
def Z4 N a b kr:=(Z5 N a b (λa=>Z36 N a kr):Option J)
def Z2 N a kr:=(Z3 N a (λb a=>Z4 N b a kr):Option J)
def Z0 N a kr:=(Z1 N a (λa=>Z2 N a kr):Option J)
def Spec:Prop:=∀ (v0:Int),P v0=true->∃N0,∀N,N0<=N->Z0 N v0 (λv2=>some ((),(v2,())))=some ((),((g v0),()))
def inner{J:Type}{N:Nat}{l:List Int}(hl:l.length<=5)(t15:List (List Int))(n k t16 t17:Int)(k4:List (List Int)->List (List Int)->Int->Int->Int->Int->Option J):∀(M i:Nat) (next:List (List Int)),i<=l.length+1->next.length+(l.length+1-i)<=10000->l.length+1-i<M ->
  Z31L N k4 M next t15 n k l (i:Int) t16 t17=k4 (next++((List.range (l.length+1)).drop i).map λi=>gB l ((i:Nat):Int) [k]) t15 n k t16 t17:=by
 intro M;induction M with
 |zero=>intro i next _ _ h;omega
 |succ M ih =>
  intro i next hi hs hM
  simp only[Z31L,Z32];by_cases h:i<l.length+1
  ·have h1:cZ.P l=true:=dt (by omega);have h1g:cZ.g l=l:=rfl;have h2:jr.P l (i:Int) [k]=true:=by show mP l (i:Int) [k]=true;simp only[mP,Bool.and_eq_true,decide_eq_true_eq,Int.toNat_natCast];exact⟨Nat.ble_eq_true_of_le (by omega),by omega,rfl,Nat.ble_eq_true_of_le (by simp;omega)⟩
   have h2g:jr.g l (i:Int) [k]=gB l (i:Int) [k]:=rfl;have h3:Nat.blt (next.length+([gB l (i:Int) [k]]:List (List Int)).length) 1099511627776=true:=Nat.ble_eq_true_of_le (by simp;omega);rw[ct (dt (by omega)),ct h1,h1g,ct h2,h2g,ct h3,bh (by rw[bv];omega),ih (i+1) _ h (by simp;omega) (by omega),iA h,List.map_cons,List.append_assoc];rfl
  ·rw[cf (df (by omega)),List.drop_of_length_le (by simp;omega)];simp
def mid{J:Type}{N:Nat}(hN:10<=N){t15:List (List Int)}(ht:∀o∈t15,o.length<=5)(ht2:t15.length<=1000)(n k:Int)(k2:List (List Int)->Int->Int->Option J):∀(M j:Nat) (next:List (List Int)),j<=t15.length->next.length+(t15.length-j)*6<=10000->t15.length-j<M ->
  Z19L N k2 M next t15 n k (t15.length:Int) (j:Int)=k2 (next++(t15.drop j).flatMap (DN k)) n k:=by
 intro M;induction M with
 |zero=>intro i next _ _ h;omega
 |succ M ih =>
  intro j next hj hs hM
  simp only[Z19L,Z20,Z21,Z22,Z23];by_cases h:j<t15.length
  ·have hl:=ht _ (bO (l:=t15) [] h);rw[ct (dt (by omega))];simp only[Z24,Z25,Z26,Z27];rw[ct (aN h),Int.toNat_natCast];simp only[Z28,Z29,Z30,Z31];have hin:=inner (J:=J) (N:=N) hl t15 n k (t15.length:Int) (j:Int) (λnext5 t15 n0 k4 t16 t17=>Z33 N next5 t15 n0 k4 t16 t17 (λnext5 t15 n0 k4 t16 t17=>Z19L N k2 M next5 t15 n0 k4 t16 t17)) N 0 next (by omega) (by omega) (by omega)
   rw[show((0:Nat):Int)=0 from rfl,List.drop_zero]at hin;rw[hin];simp only[Z33];have e:(t15.length-j)*6=(t15.length-(j+1))*6+6:=by omega
   rw[bh (by rw[bv];omega),ih (j+1) _ h (by rw[List.length_append,List.length_map,List.length_range];omega) (by omega),dB (l:=t15) [] h,List.flatMap_cons,List.append_assoc];rfl
  ·rw[cf (df (by omega)),List.drop_of_length_le (by omega)];simp
def outer{J:Type}{N n:Nat}(hN:1000<=N)(hn:n<=5)(k0:List (List Int)->Option J):∀(M k:Nat),k<=n->n-k<M ->
  Z8L N k0 M (eK k) (n:Int) (k:Int)=k0 (eK n):=by
 intro M;induction M with
 |zero=>intro k _ h;omega
 |succ M ih =>
  intro k hk hM;simp only[Z8L,Z9,Z10];by_cases h:k<n;·rw[ct (dt (by omega))];simp only[Z11,Z12,Z13,Z14,Z15,Z16,Z17,Z18,Z19];have hlen:=DO (n:=k) (by omega);have hm:=mid (J:=J) (N:=N) (by omega) (t15:=eK k) (λo ho=>by rw[NR (by omega) o ho];omega) (by omega) (n:Int) (k:Int) (λnext5 n0 k4=>Z34 N next5 n0 k4 (λout3 n0 k4=>Z35 N out3 n0 k4 (λout3 n0 k4=>Z8L N k0 M out3 n0 k4))) N 0 [] (Nat.zero_le _) (by simp;omega) (by omega);rw[show((0:Nat):Int)=0 from rfl,List.drop_zero,List.nil_append]at hm;rw[hm];simp only[Z34,Z35];rw[bh (by rw[bv];omega)];exact ih (k+1) h (by omega)
  ·rw[cf (df (by omega)),show k=n by omega]
def ok:Spec:=λn hp=>⟨1000,λN hN=>by simp only[P,Bool.and_eq_true,decide_eq_true_eq]at hp;obtain⟨n,rfl⟩:=Int.eq_ofNat_of_zero_le hp.1;simp only[Z0,Z1,Z2,Z3,Z4,Z5,Z6,Z7,Z8];refine(outer hN (by omega) _ N 0 (Nat.zero_le _) (by omega)).trans ?_;rw[g,Int.toNat_natCast];rfl⟩
end bH
namespace fe
def go(v:Int):List Int->Nat->Int
 |[],_=>-1
 |x::xs,j=>if v=x then(j:Int)else go v xs (j+1)
def g(s:List Int)(v:Int):Int:=go v s 0
def Z1{J:Type}(N:Nat)(a:LI)(b:Int)(kn:LI->Int->Option J):Option J :=
 kn a b
def Z4{J:Type}(N:Nat)(a:LI)(b:Int)(kn:LI->I3 (Option J)):Option J :=
 kn a b (a.length:Int) 0
def Z7{J:Type}(N:Nat)(b:LI)(c d a:Int)(kn:LI->I3 (Option J))(k0:Option J)(kr:Int->Option J):Option J :=
 cond (lk N (decide (a<d)))
 (
  cond (lk N (ax a b.length)) (
   cond (lk N (decide (c=(b.getD a.toNat 0))))
   (
    kr a)
   (
    kn b c d (ac (a+1)))) none)
 (
  k0)
def Z6L{J:Type}(N:Nat)(k0:Option J)(kr:Int->Option J):Nat->LI->Int->Int->Int->Option J
 |0,_,_,_,_=>none
 |M+1,a,b,c,d=>Z7 N a b c d (λa b c d=>Z6L N k0 kr M a b c d) k0 kr
def Z6 N a b c d k0 kr:=(Z6L N k0 kr N a b c d:Option J)
def Z5 N a b c d kn kr:=(Z6 N a b c d kn kr:Option J)
def Z3 N a b kn kr:=(Z4 N a b (λa b c d=>Z5 N a b c d kn kr):Option J)
def Z8{J:Type}(N:Nat) (kr:Int->Option J):Option J :=
 kr (-1)
def Z2 N a b kr:=(Z3 N a b (Z8 N kr) kr:Option J)
def Z0 N a b kr:=(Z1 N a b (λa b=>Z2 N a b kr):Option J)
def Spec:Prop:=∀ (v0:LI) (v1:Int),Ty.bd (.sl 0 (.int .i64)) v0->∃N0,∀N,N0<=N->Z0 N v0 v1 (λv4=>some ((),(v4,())))=some ((),((g v0 v1),()))
def loop{J:Type}(N:Nat)(kr:Int->Option J)(v:Int)(a:List Int)(ha:a.length<=maxLen):∀(M j:Nat),j<=a.length->a.length-j<M ->
  Z6L N (kr (-1)) kr M a v (a.length:Int) (j:Int)=kr (go v (a.drop j) j):=by
 intro M;induction M with
 |zero=>intro j _ h;omega
 |succ M ih =>
  intro j hj hM;simp only[Z6L,Z7];by_cases h:j<a.length
  ·rw[ct (dt (by omega)),ct (aN h),Int.toNat_natCast,bh (by omega),ih (j+1) h (by omega),dB 0 h,go];by_cases e:v=a.getD j 0;·rw[ct (dt e),if_pos e]
   ·rw[cf (df e),if_neg e]
  ·rw[cf (df (by omega)),List.drop_of_length_le (by omega),go]
def ok:Spec:=λa v ha=>⟨a.length+1,λN hN=>by simp only[Z1,Z4,Z7,Z6,Z5,Z3,Z8,Z2,Z0];exact(loop N (λt=>some ((),(t,()))) v a ha.1 N 0 (by omega) (by omega)).trans rfl⟩
def go_pos(v:Int):∀(l:List Int) (j:Nat),0<=go v l j↔v∈l
 |[],j=>by simp[go]
 |x::xs,j=>by
  rw[go];by_cases h:v=x;·rw[if_pos h];simp[h]
  ·rw[if_neg h,go_pos v xs];simp[h]
end fe
namespace kJ
def g(s:List Int)(v:Int):Bool:=s.any λx=>decide (x=v)
def Z0{J:Type}(N:Nat)(a:LI)(b:Int)(kr:Bool->Option J):Option J :=
 kr (lk N (decide (0<=(fe.g a b))))
def Spec:Prop:=∀ (v0:LI) (v1:Int),Ty.bd (.sl 0 (.int .i64)) v0->∃N0,∀N,N0<=N->Z0 N v0 v1 (λv4=>some ((),(v4,())))=some ((),((g v0 v1),()))
def ok:Spec:=λa v ha=>⟨0,λN hN=>by
 simp only[Z0,aD,g];have:=(show 0<=fe.g a v↔v∈a from fe.go_pos v a 0);have h2:(a.any λx=>decide (x=v))=true↔v∈a:=by simp
 cases e:a.any λx=>decide (x=v);·rw[df (λh=>by rw[h2.2 (this.1 h)]at e;cases e)]
 ·rw[dt (this.2 (h2.1 e))]⟩
end kJ
namespace eO
def g(l:List Int)(n:Int):Bool:=dF l n
def Z1{J:Type}(N:Nat)(a:LI)(b:Int)(kn:LI->Int->Option J):Option J :=
 kn a b
def Z3{J:Type}(N:Nat)(a:LI)(b:Int)(kn:LI->Int->Option J)(kr:Bool->Option J):Option J :=
 cond (lk N (!(decide ((a.length:Int)=b))))
 (
  kr false)
 (
  kn a b)
def Z6{J:Type}(N:Nat)(a:LI)(b:Int)(kn:LI->Int->LI->I2 (Option J)):Option J :=
 kn a b a (a.length:Int) 0
def Z9{J:Type}(N:Nat)(c:LI)(d:Int)(b:LI)(e a:Int)(kn:LI->Int->LI->I2 (Option J))(k0:Option J)(kr:Bool->Option J):Option J :=
 cond (lk N (decide (a<e)))
 (
  cond (lk N (ax a b.length)) (
   cond (!(lk N ((f9.g (b.getD a.toNat 0) 0 (ac (d-1))))))
   (
    kr false)
   (
    cond (lk N (bT 0 a&&bT a c.length)) (
     cond (lk N ((kJ.g (c.take a.toNat) (b.getD a.toNat 0))))
     (
      kr false)
     (
      kn c d b e (ac (a+1)))) none)) none)
 (
  k0)
def Z8L{J:Type}(N:Nat)(k0:Option J)(kr:Bool->Option J):Nat->LI->Int->LI->Int->Int->Option J
 |0,_,_,_,_,_=>none
 |M+1,a,b,c,d,e=>Z9 N a b c d e (λa b c d e=>Z8L N k0 kr M a b c d e) k0 kr
def Z8 N a b c d e k0 kr:=(Z8L N k0 kr N a b c d e:Option J)
def Z7 N a b c d e kn kr:=(Z8 N a b c d e kn kr:Option J)
def Z5 N a b kn kr:=(Z6 N a b (λa b c d e=>Z7 N a b c d e kn kr):Option J)
def Z10{J:Type}(N:Nat) (kr:Bool->Option J):Option J :=
 kr true
def Z4 N a b kr:=(Z5 N a b (Z10 N kr) kr:Option J)
def Z2 N a b kr:=(Z3 N a b (λa b=>Z4 N a b kr) kr:Option J)
def Z0 N a b kr:=(Z1 N a b (λa b=>Z2 N a b kr):Option J)
def Spec:Prop:=∀ (v0:LI) (v1:Int),Ty.bd (.sl 0 (.int .i64)) v0->∃N0,∀N,N0<=N->Z0 N v0 v1 (λv4=>some ((),(v4,())))=some ((),((g v0 v1),()))
def loop{J:Type}(N:Nat)(k0:Option J)(kr:Bool->Option J)(l:List Int)(hl:l.length<=maxLen):∀(M j:Nat),j<=l.length->l.length-j<M ->
  Z8L N k0 kr M l (l.length:Int) l (l.length:Int) (j:Int)=cond (((List.range l.length).drop j).all (oy l (l.length:Int))) k0 (kr false):=by
 intro M;induction M with
 |zero=>intro j _ h;omega
 |succ M ih =>
  intro j hj hM;simp only[Z8L,Z9];by_cases h:j<l.length
  ·have e1:f9.g (l.getD j 0) 0 (ac ((l.length:Int)-1))=bz (l.getD j 0) 0 ((l.length:Int)-1):=by rw[aM (by omega) (by rw[bv]at hl;omega)];rfl
   have e2:(bT 0 (j:Int)&&bT (j:Int) l.length)=true:=by rw[jD (by omega),jD (by omega)];rfl
   rw[ct (dt (by omega)),ct (aN h),Int.toNat_natCast,e1,ct e2,bh (by omega),ih (j+1) h (by omega),iA h,List.all_cons,oy];simp only[aD,kJ.g];cases bz (l.getD j 0) 0 ((l.length:Int)-1);·rfl
   ·cases((l.take j).any λx=>decide (x=l.getD j 0))<;>rfl
  ·rw[cf (df (by omega)),List.drop_of_length_le (by simp;omega)];rfl
def ok:Spec:=λl n hb=>⟨l.length+1,λN hN=>by
 simp only[Z1,Z3,Z6,Z9,Z8,Z7,Z5,Z10,Z4,Z2,Z0,g,dF];by_cases h:(l.length:Int)=n;·subst h;have:=loop N (some ((),(true,()))) (λt=>some ((),(t,()))) l hb.1 N 0 (by omega) (by omega);rw[show((0:Nat):Int)=0 from rfl,List.drop_zero]at this;rw[cf (nf rfl),this,dt rfl];cases(List.range l.length).all (oy l (l.length:Int))<;>rfl
 ·rw[ct (nt h),df h];rfl⟩
end eO
end
end Go.Fw
