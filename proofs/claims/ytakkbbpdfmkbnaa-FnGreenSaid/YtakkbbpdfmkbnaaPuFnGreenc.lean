/- The plain part: what the functions compute, in lists and numbers. Nothing is assumed. -/
import Derived.Test.YtakkbbpdfmkbnaaFwd
import Derived.Test.YtakkbbpdfmkbnaaPuFnGreena
import Derived.Test.YtakkbbpdfmkbnaaPuFnGreenb
noncomputable section
set_option linter.defProp false
set_option linter.defProp false
set_option linter.unusedSectionVars false
set_option linter.unusedVariables false
set_option linter.unusedSimpArgs false
set_option maxRecDepth 100000
namespace Go.Fw
section
variable {J : Type}
namespace aV
def g(_:List Int):Bool:=true
def Z1{J:Type}(N:Nat)(a:List Int)(kn:List Int->Option J):Option J :=
 kn a
def Z3{J:Type}(N:Nat)(a:List Int)(kn:List Int->Option J)(kr:Bool->Option J):Option J :=
 cond (lk N ((iH.g a)))
 (
  kr true)
 (
  kn a)
def Z5{J:Type}(N:Nat)(a:List Int)(kn:LI->I2 (Option J)):Option J :=
 kn (fq.g a).1.2.2 (fq.g a).1.1 (fq.g a).1.2.1
def Z7{J:Type}(N:Nat)(a:LI)(b c:Int)(kn:LL->LI->Bool->I2 (Option J)):Option J :=
 kn (fS.g (b,(c,a))).1 a (lk N ((fS.g (b,(c,a))).2)) b c
def Z9{J:Type}(N:Nat)(d:LL)(a:LI)(e:Bool)(b c:Int)(kn:LL->LI->Bool->Bool->I2 (Option J)):Option J :=
 kn d a e (lk N ((fT.g (b,(c,a))).2)) b c
def Z11{J:Type}(N:Nat)(b:LL)(c:LI)(a d:Bool)(e f:Int)(kn:LL->LI->Bool->I2 (Option J))(kr:Bool->Option J):Option J :=
 cond (lk N (!((a == d))))
 (
  kr false)
 (
  kn b c a e f)
def Z13{J:Type}(N:Nat)(a:LL)(b:LI)(c:Bool)(d e:Int)(kn:LL->LI->I2 (Option J))(kr:Bool->Option J):Option J :=
 cond (!(c))
 (
  kr true)
 (
  kn a b d e)
def Z15{J:Type}(N:Nat)(a:LL)(b:LI)(c d:Int)(kn:LL->LI->I2 (Option J))(kr:Bool->Option J):Option J :=
 cond (lk N (decide ((a.length:Int)=0)))
 (
  kr false)
 (
  kn a b c d)
def Z18{J:Type}(N:Nat)(a:LL)(b:LI)(c d:Int)(kn:LL->LI->I3 (Option J)):Option J :=
 kn a b 0 c d
def Z22{J:Type}(N:Nat)(a:LL)(c:LI)(b d e:Int)(kn:LL->LI->I3 (Option J))(k0:Option J):Option J :=
 cond (lk N (decide (b<(a.length:Int))))
 (
  kn a c b d e)
 (
  k0)
def Z26{J:Type}(N:Nat)(b:LL)(d:LI)(a c e:Int)(kn:LL->LI->I3 (Option J))(kr:Bool->Option J):Option J :=
 cond (lk N (decide (0<a)))
 (
  cond (lk N (au (ab (a-1)) b.length)) (
   cond (lk N (au a b.length)) (
    cond (!(lk N ((ee.g (b.getD (ab (a-1)).toNat []) (b.getD a.toNat [])))))
    (
     kr false)
    (
     cond (lk N (au a b.length)) (
      cond (lk N (decide (((b.getD a.toNat []).length:Int)<c)))
      (
       kr false)
      (
       kn b d a c e)) none)) none) none)
 (
  cond (lk N (au a b.length)) (
   cond (lk N (decide (((b.getD a.toNat []).length:Int)<c)))
   (
    kr false)
   (
    kn b d a c e)) none)
def Z29{J:Type}(N:Nat)(a:LL)(b:LI)(c d e:Int)(kn:LL->LI->I4 (Option J)):Option J :=
 kn a b c 0 d e
def Z32{J:Type}(N:Nat)(a:LL)(d:LI)(b c e f:Int)(kn:LL->LI->I4 (Option J))(k2:LL->LI->I3 (Option J))(kr:Bool->Option J):Option J :=
 cond (lk N (au b a.length)) (
  cond (lk N (decide (c<((a.getD b.toNat []).length:Int))))
  (
   cond (lk N (au b a.length)) (
    cond (lk N (au b a.length)) (
     cond (lk N (au c (a.getD b.toNat []).length)) (
      cond (lk N (bu 0 c&&bu c (a.getD b.toNat []).length)) (
       cond (lk N (!(decide ((hZ.g (e,(f,d)) ((a.getD b.toNat []).take c.toNat) ((a.getD b.toNat []).getD c.toNat 0))=1))))
       (
        kr false)
       (
        kn a d b (ab (c+1)) e f)) none) none) none) none)
  (
   k2 a d b e f)) none
def Z31L{J:Type}(N:Nat)(k2:LL->LI->I3 (Option J))(kr:Bool->Option J):Nat->LL->LI->Int->Int->Int->Int->Option J
 |0,_,_,_,_,_,_=>none
 |M+1,a,b,c,d,e,f=>Z32 N a b c d e f (λa b c d e f=>Z31L N k2 kr M a b c d e f) k2 kr
def Z31 N a b c d e f k2 kr:=(Z31L N k2 kr N a b c d e f:Option J)
def Z30 N a b c d e f kn kr:=(Z31 N a b c d e f kn kr:Option J)
def Z28 N a b c d e kn kr:=(Z29 N a b c d e (λa b c f d e=>Z30 N a b c f d e kn kr):Option J)
def Z34{J:Type}(N:Nat)(a:LL)(c:LI)(b d e:Int)(kn:LL->LL->LI->Int->Bool->I2 (Option J)):Option J :=
 cond (lk N (au b a.length)) (
  kn a (gk.g (d,(e,c)) (a.getD b.toNat [])).1 c b (lk N ((gk.g (d,(e,c)) (a.getD b.toNat [])).2)) d e) none
def Z36{J:Type}(N:Nat)(c a:LL)(d:LI)(e:Int)(f:Bool)(b h:Int)(kn:LL->LL->LI->I3 (Option J))(kr:Bool->Option J):Option J :=
 cond (!(f))
 (
  kr false)
 (
  cond (!(lk N ((dF.g a b))))
  (
   kr false)
  (
   kn c a d e b h))
def Z38{J:Type}(N:Nat)(a b:LL)(c:LI)(d e f:Int)(kn:LL->LL->LI->I4 (Option J)):Option J :=
 kn a b c d 0 e f
def Z42{J:Type}(N:Nat)(b g:LL)(c:LI)(d e a f:Int)(kn:LL->LL->LI->I4 (Option J))(k4:LL->LI->I3 (Option J)):Option J :=
 cond (lk N (decide (e<a)))
 (
  kn b g c d e a f)
 (
  k4 b c d a f)
def Z46{J:Type}(N:Nat)(a b:LL)(c:LI)(d e f g:Int)(kn:LL->LL->LI->I6 (Option J)):Option J :=
 kn a b c d e 0 0 f g
def Z49{J:Type}(N:Nat)(a b:LL)(c:LI)(d e f g h i:Int)(kn:LL->LL->LI->I7 (Option J)):Option J :=
 kn a b c d e f g 0 h i
def Z52{J:Type}(N:Nat)(e a:LL)(f:LI)(g b h i c d j:Int)(kn:LL->LL->LI->I7 (Option J))(k6:LL->LL->LI->I6 (Option J))(kr:Bool->Option J):Option J :=
 cond (lk N (decide (c<d)))
 (
  cond (lk N (au b a.length)) (
   cond (lk N (au c (a.getD b.toNat []).length)) (
    cond (lk N (decide (0<((a.getD b.toNat []).getD c.toNat 0))))
    (
     kr false)
    (
     cond (lk N (au b a.length)) (
      cond (lk N (au c (a.getD b.toNat []).length)) (
       cond (lk N (au c a.length)) (
        cond (lk N (au b (a.getD c.toNat []).length)) (
         kn e a f g b (ab (h+((a.getD b.toNat []).getD c.toNat 0))) (ab (i+((a.getD c.toNat []).getD b.toNat 0))) (ab (c+1)) d j) none) none) none) none)) none) none)
 (
  k6 e a f g b h i d j)
def Z51L{J:Type}(N:Nat)(k6:LL->LL->LI->I6 (Option J))(kr:Bool->Option J):Nat->LL->LL->LI->Int->Int->Int->Int->Int->Int->Int->Option J
 |0,_,_,_,_,_,_,_,_,_,_=>none
 |M+1,a,b,c,d,e,f,g,h,i,j=>Z52 N a b c d e f g h i j (λa b c d e f g h i j=>Z51L N k6 kr M a b c d e f g h i j) k6 kr
def Z51 N a b c d e f g h i j k6 kr:=(Z51L N k6 kr N a b c d e f g h i j:Option J)
def Z50 N a b c d e f g h i j kn kr:=(Z51 N a b c d e f g h i j kn kr:Option J)
def Z48 N a b c d e f g h i kn kr:=(Z49 N a b c d e f g h i (λa b c d e f g j h i=>Z50 N a b c d e f g j h i kn kr):Option J)
def Z53{J:Type}(N:Nat)(a b:LL)(c:LI)(d e f g h i:Int)(kn:LL->LL->LI->I4 (Option J))(kr:Bool->Option J):Option J :=
 cond (lk N (!(decide (f=(-1)))))
 (
  kr false)
 (
  cond (lk N (!(decide (g=(-1)))))
  (
   kr false)
  (
   kn a b c d e h i))
def Z47 N a b c d e f g h i kn kr:=(Z48 N a b c d e f g h i (λa b c d e f g h i=>Z53 N a b c d e f g h i kn kr) kr:Option J)
def Z45 N a b c d e f g kn kr:=(Z46 N a b c d e f g (λa b c d e h i f g=>Z47 N a b c d e h i f g kn kr):Option J)
def Z44 N a b c d e f g kn kr:=(Z45 N a b c d e f g kn kr:Option J)
def Z54{J:Type}(N:Nat)(a b:LL)(c:LI)(d e f g:Int)(kn:LL->LL->LI->I4 (Option J)):Option J :=
 kn a b c d (ab (e+1)) f g
def Z43 N a b c d e f g kn kr:=(Z44 N a b c d e f g (λa b c d e f g=>Z54 N a b c d e f g kn) kr:Option J)
def Z41 N a b c d e f g kn k4 kr:=(Z42 N a b c d e f g (λa b c d e f g=>Z43 N a b c d e f g kn kr) k4:Option J)
def Z40L{J:Type}(N:Nat)(k4:LL->LI->I3 (Option J))(kr:Bool->Option J):Nat->LL->LL->LI->Int->Int->Int->Int->Option J
 |0,_,_,_,_,_,_,_=>none
 |M+1,a,b,c,d,e,f,g=>Z41 N a b c d e f g (λa b c d e f g=>Z40L N k4 kr M a b c d e f g) k4 kr
def Z40 N a b c d e f g k4 kr:=(Z40L N k4 kr N a b c d e f g:Option J)
def Z39 N a b c d e f g kn kr:=(Z40 N a b c d e f g kn kr:Option J)
def Z37 N a b c d e f kn kr:=(Z38 N a b c d e f (λa b c d g e f=>Z39 N a b c d g e f kn kr):Option J)
def Z35 N a b c d g e f kn kr:=(Z36 N a b c d g e f (λa b c d e f=>Z37 N a b c d e f kn kr) kr:Option J)
def Z33 N a b c d e kn kr:=(Z34 N a b c d e (λa f b c g d e=>Z35 N a f b c g d e kn kr):Option J)
def Z27 N a b c d e kn kr:=(Z28 N a b c d e (λa b c d e=>Z33 N a b c d e kn kr) kr:Option J)
def Z25 N a b c d e kn kr:=(Z26 N a b c d e (λa b c d e=>Z27 N a b c d e kn kr) kr:Option J)
def Z24 N a b c d e kn kr:=(Z25 N a b c d e kn kr:Option J)
def Z55{J:Type}(N:Nat)(a:LL)(b:LI)(c d e:Int)(kn:LL->LI->I3 (Option J)):Option J :=
 kn a b (ab (c+1)) d e
def Z23 N a b c d e kn kr:=(Z24 N a b c d e (λa b c d e=>Z55 N a b c d e kn) kr:Option J)
def Z21 N a b c d e kn k0 kr:=(Z22 N a b c d e (λa b c d e=>Z23 N a b c d e kn kr) k0:Option J)
def Z20L{J:Type}(N:Nat)(k0:Option J)(kr:Bool->Option J):Nat->LL->LI->Int->Int->Int->Option J
 |0,_,_,_,_,_=>none
 |M+1,a,b,c,d,e=>Z21 N a b c d e (λa b c d e=>Z20L N k0 kr M a b c d e) k0 kr
def Z20 N a b c d e k0 kr:=(Z20L N k0 kr N a b c d e:Option J)
def Z19 N a b c d e kn kr:=(Z20 N a b c d e kn kr:Option J)
def Z17 N a b c d kn kr:=(Z18 N a b c d (λa b e c d=>Z19 N a b e c d kn kr):Option J)
def Z56{J:Type}(N:Nat) (kr:Bool->Option J):Option J :=
 kr true
def Z16 N a b c d kr:=(Z17 N a b c d (Z56 N kr) kr:Option J)
def Z14 N a b c d kr:=(Z15 N a b c d (λa b c d=>Z16 N a b c d kr) kr:Option J)
def Z12 N a b e c d kr:=(Z13 N a b e c d (λa b c d=>Z14 N a b c d kr) kr:Option J)
def Z10 N a b c f d e kr:=(Z11 N a b c f d e (λa b c d e=>Z12 N a b c d e kr) kr:Option J)
def Z8 N a b c d e kr:=(Z9 N a b c d e (λa b c f d e=>Z10 N a b c f d e kr):Option J)
def Z6 N a b c kr:=(Z7 N a b c (λd a e b c=>Z8 N d a e b c kr):Option J)
def Z4 N a kr:=(Z5 N a (λb c d=>Z6 N b c d kr):Option J)
def Z2 N a kr:=(Z3 N a (λa=>Z4 N a kr) kr:Option J)
def Z0 N a kr:=(Z1 N a (λa=>Z2 N a kr):Option J)
def Spec:Prop:=∀ (v0:List Int),Ty.bd (.sl 0 (.int .u8)) v0->∃N0,∀N,N0<=N->Z0 N v0 (λv2=>some ((),(v2,())))=some ((),((g v0),()))
def move{b:List Int}{s:bG.S}(h:dT s.2):dT (bG.moveS b s).2:=by
 obtain⟨n,D,h1,h3,hD,hx⟩:=id h;have hr:=ao.range (b:=b) (r:=s.1) (n:=s.2.1) (by rw[hx.one];omega) (by rw[hx.one];omega);unfold bG.moveS;by_cases hc:(eA.g s.2 (ao.g b s.1 s.2.1).2).2=true;·rw[if_pos hc,bG.mut_step hc];exact h.mut (by omega)
 ·rw[if_neg hc];exact h
def Aw{b:List Int}:∀(c:Nat) {s:bG.S},dT s.2->dT (bG.walkS b c s).2
 |0,_,h=>h
 |c+1,s,h=>Aw c (move h)
def moved{b:List Int}{r:Int×Int}{x:Int×Int×List Int}(h:dT x):dT (bG.g b r x).2:=by have hw:dT (bG.walked b r x).2:=Aw _ h;obtain⟨n,D,h1,h3,hD,hx⟩:=id hw;have hn:=bY.names (b:=b) (r:=(bG.walked b r x).1) n;show dT (jl (bG.walked b r x).2 (bY.g b (bG.walked b r x).1 (bG.walked b r x).2.1).2);rw[<-hx.one]at hn;exact hw.ren hn
def hf(p:Int×Int×List Int)(k:Nat)(hp:gb p)(hk:k<p.1.toNat):(a9.g p (k:Int)).2=aP (aO p k)/\((a9.g p (k:Int)).2=true->(a9.g p (k:Int)).1=aO p k):=by
 have hq:=HV hp;have hin:bR (k:Int) 0 (p.1-1)=true:=cJ.2 (by omega);unfold a9.g;rw[lU,hq,hin,Int.toNat_natCast,zX hq hk,Bool.true_and,Bool.true_and];cases aP (aO p k);·exact⟨rfl,λh=>by cases h⟩
 ·exact⟨rfl,λ_=>rfl⟩
def IK(m:Int×Int×List Int):fS.g m=fT.g m:=by
 unfold fS.g fT.g a8.g;rw[lU];cases h:((aP m&&!decide (bc m=[]))&&(decide (m.2.1=m.1)&&decide (2*m.1<=8)));·rfl
 ·rw[if_pos rfl,if_pos rfl,if_pos rfl];simp only;have h':=h;simp only[Bool.and_eq_true,decide_eq_true_eq]at h';have hok:=uT (m:=m) (by simpa using h'.1) h'.2.1 h'.2.2;obtain⟨q1,q2⟩:=z5 hf 13 (ck m) [] [] rfl hok (by simp) (by omega);cases hq:cD 13 (ck m) [] []with
  |none=>rw[if_pos (q2 hq)]
  |some l =>rw[q1 l hq];rfl
def eW:Int×Int×List Int->List Int->Int×Int×List Int
 |p,[]=>p
 |p,k::ks=>eW (aO p k.toNat) ks
def qC(n:Nat):Int×Int×List Int->List Int->Prop
 |_,[]=>True
 |p,k::ks=>∃j:Nat,k=(j:Int)/\j<n/\aP (aO p j)=true/\qC n (aO p j) ks
def Ax{n:Nat}:∀(s:List Int) {p:Int×Int×List Int},lW n p s->∀k,k<s.length->qC n p (s.take k)/\∃j:Nat,s.getD k 0=(j:Int)/\j<n/\eN (du (eW p (s.take k)) j)=1
 |[],p,_,k,hk=>by simp at hk
 |x::s,p,h,k,hk=>by
  obtain⟨j,rfl,h1,h2,h3,h4⟩:=h;cases k with
  |zero=>exact⟨trivial,j,rfl,h1,h2⟩
  |succ k =>obtain⟨a1,i,a2,a3,a4⟩:=Ax s h4 k (by simpa using hk);refine⟨⟨j,rfl,h1,h3,a1⟩,i,by rw[List.getD_cons_succ];exact a2,a3, ?_⟩;show eN (du (eW (aO p ((j:Int)).toNat) (s.take k)) i)=1;rw[Int.toNat_natCast];exact a4
def Ay{n:Nat}:∀(s:List Int) {p:Int×Int×List Int},lW n p s->qC n p s/\lV n (eW p s)=true
 |[],p,h=>⟨trivial,h⟩
 |x::s,p,h=>by obtain⟨j,rfl,h1,h2,h3,h4⟩:=h;obtain⟨a1,a2⟩:=Ay s h4;refine⟨⟨j,rfl,h1,h3,a1⟩, ?_⟩;show lV n (eW (aO p ((j:Int)).toNat) s)=true;rw[Int.toNat_natCast];exact a2
def vl{n:Nat}:∀(s:List Int) {p:Int×Int×List Int},gb p->p.1.toNat=n->qC n p s->(cC a9.g p s).2=true/\(cC a9.g p s).1.getD s.length (0,(0,[]))=eW p s/\(eW p s).1=p.1/\(eW p s).2.1=p.2.1
 |[],p,_,_,_=>⟨rfl,rfl,rfl,rfl⟩
 |x::s,p,hp,hn,h=>by
  obtain⟨j,rfl,h1,h3,h4⟩:=h;obtain⟨f1,f2⟩:=hf p j hp (by omega);rw[h3]at f1;have f3:=f2 f1;obtain⟨a1,a2,a3,a4⟩:=vl s (zY hp (by omega) h3) hn h4;have e:cC a9.g p ((j:Int)::s)=(p::(cC a9.g (aO p j) s).1,true):=by rw[cC,if_pos f1,f3,if_pos a1]
  rw[e];refine⟨rfl, ?_, ?_, ?_⟩;·rw[List.length_cons,List.getD_cons_succ,a2];show _=eW (aO p ((j:Int)).toNat) s;rw[Int.toNat_natCast]
  ·show(eW (aO p ((j:Int)).toNat) s).1=_;rw[Int.toNat_natCast];exact a3
  ·show(eW (aO p ((j:Int)).toNat) s).2.1=_;rw[Int.toNat_natCast];exact a4
def fl(f:Nat->Int)(j:Nat):Int:=((List.range j).map f).foldl (· + ·) 0
def qD(f:Nat->Int)(j:Nat):fl f (j+1)=fl f j+f j:=by unfold fl;rw[List.range_succ,List.map_append,List.foldl_append];rfl
def vm{f:Nat->Int}{n:Nat}(h:∀j,j<n->f j<=0):∀(d j:Nat),j+d=n->fl f n<=fl f j
 |0,j,e=>by
  have:j=n:=by omega
  subst this;exact Int.le_refl _
 |d+1,j,e=>by have:=vm h d (j+1) (by omega);rw[qD]at this;have:=h j (by omega);omega
def vn{f:Nat->Int}{n:Nat}(h:∀j,j<n->f j<=0):∀j,j<=n->fl f j<=0
 |0,_=>Int.le_refl 0
 |j+1,hj=>by have:=vn h j (by omega);have:=h j (by omega);rw[qD];omega
structure vo(n:Nat)(e:Int×Int×List Int):Prop where
 neg:∀k j,k<n->j<n->af e (n+k) j<=0
 row:∀k,k<n->fl (λj=>af e (n+k) j) n=-1
 col:∀k,k<n->fl (λj=>af e (n+j) k) n=-1
def IL{n:Nat}{e:Int×Int×List Int}(h:lV n e=true):vo n e:=by simp only[lV,Bool.and_eq_true,List.all_eq_true,decide_eq_true_eq,List.mem_range]at h;exact⟨λk j hk hj=>(h k hk).1 j hj,λk hk=>(h k hk).2.1,λk hk=>(h k hk).2.2⟩
def Az{n:Nat}{e:Int×Int×List Int}(h1:e.1=(n:Int))(h2:e.2.1=2*(n:Int)){k j:Nat}(hk:k<n)(hj:j<n):(ca e).getD k []=cw e (n+k)/\(cw e (n+k)).getD j 0=af e (n+k) j/\(ca e).length=n/\(cw e (n+k)).length=n:=by
 have a1:e.1.toNat=n:=by omega
 have a2:e.2.1.toNat-e.1.toNat=n:=by omega
 refine⟨?_, ?_,by simp[ca,a2],by simp[cw,a1]⟩;·unfold ca;rw[a2,kE hk,a1]
 ·unfold cw;rw[a1,kE hj]
section
variable {J : Type} {N : Nat} {n : Nat} {l : List (List Int)} {d : List Int} {q : Int} {e : Int × Int × List Int}
theorem inner(h5:n<=5)(h1:e.1=(n:Int))(h2:e.2.1=2*(n:Int))(hE:vo n e)(k6:List (List Int)->List (List Int)->List Int->Int->Int->Int->Int->Int->Int->Option J)(kr:Bool->Option J)(i:Int){k:Nat}(hk:k<n):∀(M j:Nat),j<=n->n-j<M ->
  Z51L N k6 kr M l (ca e) d i (k:Int) (fl (λj=>af e (n+k) j) j) (fl (λj=>af e (n+j) k) j) (j:Int) (n:Int) q=k6 l (ca e) d i (k:Int) (-1) (-1) (n:Int) q:=by
 intro M;induction M with
 |zero=>intro j _ h;omega
 |succ M ih =>
  intro j hj hM;simp only[Z51L,Z52];by_cases h:j<n
  ·obtain⟨a1,a2,a3,a4⟩:=Az h1 h2 hk h;obtain⟨b1,b2,_,b4⟩:=Az h1 h2 h hk;have c1:au (k:Int) (ca e).length=true:=aU (by omega);have c2:au (j:Int) (ca e).length=true:=aU (by omega);have c3:au (j:Int) (cw e (n+k)).length=true:=aU (by omega);have c4:au (k:Int) (cw e (n+j)).length=true:=aU (by omega);have n1:=hE.neg k j hk h;have n2:=hE.neg j k h hk;have s1:=vm (f:=λj=>af e (n+k) j) (λj hj=>hE.neg k j hk hj) (n-(j+1)) (j+1) (by omega);have s2:=vn (f:=λj=>af e (n+k) j) (λj hj=>hE.neg k j hk hj) (j+1) (by omega);have s3:=vm (f:=λj=>af e (n+j) k) (λj hj=>hE.neg j k hj hk) (n-(j+1)) (j+1) (by omega);have s4:=vn (f:=λj=>af e (n+j) k) (λj hj=>hE.neg j k hj hk) (j+1) (by omega);rw[hE.row k hk]at s1;rw[hE.col k hk]at s3;have w1:ab (fl (λj=>af e (n+k) j) j+af e (n+k) j)=fl (λj=>af e (n+k) j) (j+1):=by rw[qD]at s1 s2 ⊢;exact aI (by omega) (by omega)
   have w2:ab (fl (λj=>af e (n+j) k) j+af e (n+j) k)=fl (λj=>af e (n+j) k) (j+1):=by rw[qD]at s3 s4 ⊢;exact aI (by omega) (by omega)
   have hw:ab ((j:Int)+1)=((j+1:Nat):Int):=bm (by rw[bw];omega);have z1:decide ((j:Int)<(n:Int))=true:=dt (by omega);have z2:decide (0<af e (n+k) j)=false:=df (by omega);simp only[ax,z1,c1,c2,c3,c4,a1,a2,b1,b2,z2,w1,w2,hw,Int.toNat_natCast,cond_true,cond_false];exact ih (j+1) (by omega) (by omega)
  ·have:j=n:=by omega
   subst this;rw[dR (by rw[ax];exact df (by omega)),hE.row k hk,hE.col k hk]
theorem mid(hN:20<=N)(h5:n<=5)(h1:e.1=(n:Int))(h2:e.2.1=2*(n:Int))(hE:vo n e)(k4:List (List Int)->List Int->Int->Int->Int->Option J)(kr:Bool->Option J)(i:Int):∀(M k:Nat),k<=n->n-k<M ->
  Z40L N k4 kr M l (ca e) d i (k:Int) (n:Int) q=k4 l d i (n:Int) q:=by
 intro M;induction M with
 |zero=>intro k _ h;omega
 |succ M ih =>
  intro k hk hM;simp only[Z40L,Z41,Z42];by_cases h:k<n;·rw[eV (by rw[ax];exact dt (by omega))];simp only[Z43,Z44,Z45,Z46,Z47,Z48,Z49,Z50,Z51];refine(inner h5 h1 h2 hE _ kr i h N 0 (Nat.zero_le _) (by omega)).trans ?_;simp only[Z53,ax,decide_true,Bool.not_true,cond_false,Z54];rw[bm (by rw[bw];omega)];exact ih (k+1) (by omega) (by omega)
  ·rw[dR (by rw[ax];exact df (by omega))]
end
section
variable {J : Type} {N : Nat} {n : Nat} {l : List (List Int)} {m : Int × Int × List Int}
theorem IM(hp:gb (ck m))(h1:m.1=(n:Int))(hP:a8.g m=(ck m,true))(k2:List (List Int)->List Int->Int->Int->Int->Option J)(kr:Bool->Option J){i:Nat}(hi:i<l.length)(hl:(l.getD i []).length<=12)(hpath:lW n (ck m) (l.getD i [])):∀(M k:Nat),k<=(l.getD i []).length->(l.getD i []).length-k<M ->
  Z31L N k2 kr M l m.2.2 (i:Int) (k:Int) m.1 m.2.1=k2 l m.2.2 (i:Int) m.1 m.2.1:=by
 intro M;induction M with
 |zero=>intro k _ h;omega
 |succ M ih =>
  intro k hk hM;simp only[Z31L,Z32];have b1:au (i:Int) l.length=true:=aU hi;by_cases h:k<(l.getD i []).length
  ·obtain⟨a1,j,a2,a3,a4⟩:=Ax _ hpath k h;have hn:(ck m).1.toNat=n:=by show m.1.toNat=n;omega
   obtain⟨w1,w2,_,_⟩:=vl _ hp hn a1;have hlen:((l.getD i []).take k).length=k:=by rw[List.length_take];omega
   have g1:hZ.g (m.1,(m.2.1,m.2.2)) ((l.getD i []).take k) ((l.getD i []).getD k 0)=1:=by
    have e1:bj.g m ((l.getD i []).take k)=cC a9.g (ck m) ((l.getD i []).take k):=by unfold bj.g;rw[hP,dt (by rw[hlen];omega)];rfl
    unfold hZ.g;rw[show((m.1,(m.2.1,m.2.2)):Int×Int×List Int)=m from rfl,e1,w1,a2,cJ.2 (⟨by omega,by omega⟩:(0:Int)<=(j:Int)/\(j:Int)<=m.1-1),w2,Int.toNat_natCast,a4];rfl
   have b2:au (k:Int) (l.getD i []).length=true:=aU h;have b3:(bu 0 (k:Int)&&bu (k:Int) (l.getD i []).length)=true:=by simp only[bu,Bool.and_eq_true,decide_eq_true_eq];first | omega | (constructor<;>simp<;>omega)
   have z1:decide ((k:Int)<((l.getD i []).length:Int))=true:=dt (by omega);have hw:ab ((k:Int)+1)=((k+1:Nat):Int):=bm (by rw[bw];omega);simp only[ax,b1,z1,b2,b3,Int.toNat_natCast,g1,decide_true,Bool.not_true,cond_true,cond_false,hw];exact ih (k+1) (by omega) (by omega)
  ·have z1:decide ((k:Int)<((l.getD i []).length:Int))=false:=df (by omega);simp only[ax,b1,cond_true,Int.toNat_natCast,z1,cond_false]
theorem outer(hN:40<=N)(hp:gb (ck m))(h1:m.1=(n:Int))(h2:m.2.1=(n:Int))(hn5:n<=5)(hP:a8.g m=(ck m,true))(hG:Ac n m l)(hl2:l.length<=200)(hl12:∀s∈l,s.length<=12)(k0:Option J)(kr:Bool->Option J):∀(M i:Nat),i<=l.length->l.length-i<M ->
  Z20L N k0 kr M l m.2.2 (i:Int) m.1 m.2.1=k0:=by
 intro M;induction M with
 |zero=>intro i _ h;omega
 |succ M ih =>
  intro i hi hM;simp only[Z20L,Z21,Z22];by_cases h:i<l.length
  ·have hs:=b9 (l:=l) (j:=i) [] h;have hlen:=hl12 _ hs;obtain⟨p1,p2⟩:=hG.path _ hs;have b1:au (i:Int) l.length=true:=aU h;have z1:decide (((l.getD i []).length:Int)<m.1)=false:=df (by omega);have hw:ab ((i:Int)+1)=((i+1:Nat):Int):=bm (by rw[bw];omega);have nx:=ih (i+1) (by omega) (by omega);rw[eV (by rw[ax];exact dt (by omega))];have rest:Z27 N l m.2.2 (i:Int) m.1 m.2.1 (λl6 m3_2 i10 m3_0 m3_1=>Z55 N l6 m3_2 i10 m3_0 m3_1 (λl6 m3_2 i10 m3_0 m3_1=>Z20L N k0 kr M l6 m3_2 i10 m3_0 m3_1)) kr=k0:=by
    simp only[Z27,Z28,Z29,Z30,Z31];refine(IM hp h1 hP _ kr h hlen p1 N 0 (Nat.zero_le _) (by omega)).trans ?_;obtain⟨s1,s2⟩:=Ay _ p1;have hn:(ck m).1.toNat=n:=by show m.1.toNat=n;omega
    obtain⟨w1,w2,w3,w4⟩:=vl _ hp hn s1;have g1:gk.g (m.1,(m.2.1,m.2.2)) (l.getD i [])=(ca (eW (ck m) (l.getD i [])),true):=by
     have e1:bj.g m (l.getD i [])=cC a9.g (ck m) (l.getD i []):=by unfold bj.g;rw[hP,dt (by omega)];rfl
     unfold gk.g;rw[show((m.1,(m.2.1,m.2.2)):Int×Int×List Int)=m from rfl,e1,if_pos w1,w2]
    have hE:=IL s2;have e1:(eW (ck m) (l.getD i [])).1=(n:Int):=w3.trans h1;have e2:(eW (ck m) (l.getD i [])).2.1=2*(n:Int):=w4.trans (by show 2*m.1=_;rw[h1]);generalize eW (ck m) (l.getD i [])=e at g1 hE e1 e2;have g2:dF.g (ca e) m.1=true:=by
     have a1:e.1.toNat=n:=by omega
     have a2:e.2.1.toNat-e.1.toNat=n:=by omega
     unfold dF.g;rw[dt (by rw[h1];simp[ca,a2]),Bool.true_and,List.all_eq_true];intro r hr;obtain⟨t,_,rfl⟩:=List.mem_map.1 hr;exact dt (by rw[h1];simp[cw,a1])
    simp only[Z33,Z34,ax,b1,Int.toNat_natCast,g1,cond_true,Z35,Z36,g2,Bool.not_true,cond_false,Z37,Z38,Z39,Z40];rw[h1];refine(mid (by omega) hn5 e1 e2 hE _ kr (i:Int) N 0 (Nat.zero_le _) (by omega)).trans ?_;rw[<-h1];simp only[Z55,hw];exact nx
   simp only[Z23,Z24,Z25,Z26];by_cases h0:0<i
   ·have hw2:ab ((i:Int)-1)=((i-1:Nat):Int):=by rw[aI (by omega) (by omega)];omega
    have b2:au ((i-1:Nat):Int) l.length=true:=aU (by omega);have e3:ee.g (l.getD (i-1) []) (l.getD i [])=true:=hG.lt i h0 h;have z0:decide ((0:Int)<(i:Int))=true:=dt (by omega);simp only[ax,z0,hw2,b2,b1,Int.toNat_natCast,e3,z1,Bool.not_true,cond_true,cond_false];exact rest
   ·have z0:decide ((0:Int)<(i:Int))=false:=df (by omega);simp only[ax,z0,b1,Int.toNat_natCast,z1,cond_true,cond_false];exact rest
  ·rw[dR (by rw[ax];exact df (by omega))]
end
def ok:Spec:=λb hb=>⟨400,λN hN=>by
 simp only[Z0,Z1,Z2,Z3,ax];cases hbig:iH.g b
 ·rw[cond_false];have hK:dT (fq.g b).1:=moved Iz;simp only[Z4,Z5,Z6,Z7,Z8,Z9,ax];generalize(fq.g b).1=m at hK;obtain⟨n,D,n1,n3,hD,hx⟩:=hK;obtain⟨o1,⟨d,hR⟩,o3,_,_⟩:=hx.oneL hD;obtain⟨l,hG⟩:=HY (by have:=hx.one;omega) o3;have hx1:=hx.one;have hx2:=hx.two;have hc:((aP m&&!decide (bc m=[]))&&(decide (m.2.1=m.1)&&decide (2*m.1<=8)))=true:=by rw[hR.ok,dt (by omega),dt (by omega)];rfl
  have hS:fT.g m=(l,true):=by unfold fT.g;rw[if_pos hc,hG.eq]
  have hI:fS.g m=(l,true):=(IK m).trans hS;have hP:a8.g m=(ck m,true):=by unfold a8.g;rw[lU,if_pos hc]
  have hp:=uT (m:=m) hR.ok (by omega) (by omega);have e0:((m.1,(m.2.1,m.2.2)):Int×Int×List Int)=m:=rfl;have hl2:=qq hG.eq;have hl12:=zZ 13 (ck m) [] [] l (by simp) (λx hx=>by cases hx) hG.eq;have hne:0<l.length:=List.length_pos_iff.2 hG.ne;have z0:decide ((l.length:Int)=0)=false:=df (by omega);simp only[e0,hS,hI,Z10,Z11,beq_self_eq_true,Bool.not_true,cond_false,ax,Z12,Z13,Z14,Z15,z0,Z16,Z17,Z18,Z19,Z20];refine(outer (by omega) hp hx1 hx2 (by omega) hP hG hl2 hl12 _ _ N 0 (Nat.zero_le _) (by omega)).trans ?_;rfl
 ·rfl⟩
end aV
end
end Go.Fw
