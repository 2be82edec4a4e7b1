/- The plain part: what the functions compute, in lists and numbers. Nothing is assumed. -/
import Derived.Test.YtkjnhmjfdfiklaaGreatDoorFwd
import Derived.Test.YtkjnhmjfdfiklaaGreatDoorPuFnTypesa
noncomputable section
set_option linter.defProp false
set_option linter.defProp false
set_option linter.unusedSectionVars false
set_option linter.unusedVariables false
set_option linter.unusedSimpArgs false
set_option maxRecDepth 100000
namespace Go.Fw
section
variable {J : Type}
namespace aT
def P(b:List Int)(r:Int×Int):Bool:=b8 b r
def lS(h:Int):Int:=ac (ac (h*6364136223846793005)+1442695040888963407)
def uB(h:Int):Int:=fC .and .i64 (fC .xor .i64 (Int.fdiv h (2 ^ (min (33:Int).toNat (IntKind.bits .i64)))) (Int.fdiv h (2 ^ (min (45:Int).toNat (IntKind.bits .i64))))) 255
def g(b:List Int)(r:Int×Int):(Int×Int)×Int :=
 if r.1<(b.length:Int)then((r.1+1,lS r.2),fC .and .i64 (ac (uB (lS r.2)+ac (b.getD r.1.toNat 0))) 255)else((r.1,lS r.2),uB (lS r.2))
def Z0{J:Type}(N:Nat)(b0:List Int)(r0:Int×Int)(kr:Int->List Int->I2 (Option J)):Option J :=
 cond (lk N (decide (0<=(33:Int)))) (
  cond (lk N (decide (0<=(45:Int)))) (
   cond (lk N (decide (r0.1<(b0.length:Int))))
   (
    cond (lk N (ax r0.1 b0.length)) (
     kr (fC .and .i64 (ac ((fC .and .i64 (fC .xor .i64 (Int.fdiv (ac ((ac (r0.2*6364136223846793005))+1442695040888963407)) (2 ^ (min (33:Int).toNat (IntKind.bits .i64)))) (Int.fdiv (ac ((ac (r0.2*6364136223846793005))+1442695040888963407)) (2 ^ (min (45:Int).toNat (IntKind.bits .i64))))) 255)+(ac ((b0.getD r0.1.toNat 0))))) 255) b0 (ac (r0.1+1)) (ac ((ac (r0.2*6364136223846793005))+1442695040888963407))) none)
   (
    kr (fC .and .i64 (fC .xor .i64 (Int.fdiv (ac ((ac (r0.2*6364136223846793005))+1442695040888963407)) (2 ^ (min (33:Int).toNat (IntKind.bits .i64)))) (Int.fdiv (ac ((ac (r0.2*6364136223846793005))+1442695040888963407)) (2 ^ (min (45:Int).toNat (IntKind.bits .i64))))) 255) b0 r0.1 (ac ((ac (r0.2*6364136223846793005))+1442695040888963407)))) none) none
def Spec:Prop:=∀{U:Type} (u:U) (b0:List Int) (r0:Int×Int),Ty.bd (.sl 0 (.int .u8)) b0->P b0 r0=true->∃N0,∀N,N0<=N->Z0 N b0 r0 (λv2 w0_0 w0_1 w0_2=>some (u,((w0_1,w0_2),((),(v2,())))))=some (u,((g b0 r0).1,((),((g b0 r0).2,()))))
def keep{b:List Int}{r:Int×Int}(h:b8 b r=true):b8 b (g b r).1=true:=by rw[yK]at h ⊢;unfold g;split<;>simp only<;>omega
def range(b:List Int)(r:Int×Int):0<=(g b r).2/\(g b r).2<=255:=by
 unfold g;split;·exact Du _ 255 255 rfl (by omega)
 ·exact Du _ 255 255 rfl (by omega)
def ok:Spec:=λu b r hb hp=>⟨0,λN hN=>by
 have h:=yK.1 hp;simp only[Z0];rw[ct (dt (by omega)),ct (dt (by omega))];by_cases hl:r.1<(b.length:Int)
 ·obtain⟨i,hi⟩:=Int.eq_ofNat_of_zero_le h.1;have e1:g b r=((r.1+1,lS r.2),fC .and .i64 (ac (uB (lS r.2)+ac (b.getD r.1.toNat 0))) 255):=if_pos hl;have e2:ac (r.1+1)=r.1+1:=by have:=h.2.2;rw[bn]at this;exact aR (by omega) (by omega)
  rw[ct (dt hl),ct (by rw[hi];exact aN (by omega)),e1,e2];rfl
 ·have e1:g b r=((r.1,lS r.2),uB (lS r.2)):=if_neg hl;rw[cf (df hl),e1];rfl⟩
end aT
namespace aw
def P(b:List Int)(r:Int×Int)(n:Int):Bool:=b8 b r
def Fc(b:List Int)(r:Int×Int)(n:Int):(Int×Int)×Int :=
 ((aT.g b (aT.g b (aT.g b (aT.g b r).1).1).1).1,
  Int.tmod (ac (ac (ac (ac ((aT.g b r).2*16777216)+ac ((aT.g b (aT.g b r).1).2*65536))+ac ((aT.g b (aT.g b (aT.g b r).1).1).2*256))+(aT.g b (aT.g b (aT.g b (aT.g b r).1).1).1).2)) n)
def g(b:List Int)(r:Int×Int)(n:Int):(Int×Int)×Int :=
 if n<=0 then(r,0)else if n<=256 then((aT.g b r).1,Int.tmod (aT.g b r).2 n)else Fc b r n
def Z0{J:Type}(N:Nat)(b0:List Int)(r0:Int×Int)(a:Int)(kr:Int->List Int->I2 (Option J)):Option J :=
 cond (lk N (decide (a<=0)))
 (
  kr 0 b0 r0.1 r0.2)
 (
  cond (lk N (decide (a<=256)))
  (
   cond (lk N (aT.P b0 r0)) (
    cond (lk N (!(decide (a=0)))) (
     kr (Int.tmod (aT.g b0 r0).2 a) b0 (aT.g b0 r0).1.1 (aT.g b0 r0).1.2) none) none)
  (
   cond (lk N (aT.P b0 r0)) (
    cond (lk N (aT.P b0 (aT.g b0 r0).1)) (
     cond (lk N (aT.P b0 (aT.g b0 (aT.g b0 r0).1).1)) (
      cond (lk N (aT.P b0 (aT.g b0 (aT.g b0 (aT.g b0 r0).1).1).1)) (
       cond (lk N (!(decide (a=0)))) (
        kr (Int.tmod (ac ((ac ((ac ((ac ((aT.g b0 r0).2*16777216))+(ac ((aT.g b0 (aT.g b0 r0).1).2*65536))))+(ac ((aT.g b0 (aT.g b0 (aT.g b0 r0).1).1).2*256))))+(aT.g b0 (aT.g b0 (aT.g b0 (aT.g b0 r0).1).1).1).2)) a) b0 (aT.g b0 (aT.g b0 (aT.g b0 (aT.g b0 r0).1).1).1).1.1 (aT.g b0 (aT.g b0 (aT.g b0 (aT.g b0 r0).1).1).1).1.2) none) none) none) none) none))
def Spec:Prop:=∀{U:Type} (u:U) (b0:List Int) (r0:Int×Int) (v1:Int),Ty.bd (.sl 0 (.int .u8)) b0->P b0 r0 v1=true->∃N0,∀N,N0<=N->Z0 N b0 r0 v1 (λv4 w0_0 w0_1 w0_2=>some (u,((w0_1,w0_2),((),(v4,())))))=some (u,((g b0 r0 v1).1,((),((g b0 r0 v1).2,()))))
def keep{b:List Int}{r:Int×Int}{n:Int}(h:b8 b r=true):b8 b (g b r n).1=true:=by
 unfold g;split;·exact h
 ·split;·exact aT.keep h
  ·exact aT.keep (aT.keep (aT.keep (aT.keep h)))
def range{b:List Int}{r:Int×Int}{n:Int}(h1:1<=n)(h2:n<=256):0<=(g b r n).2/\(g b r n).2<n:=by have h:=aT.range b r;unfold g;rw[if_neg (by omega),if_pos h2];exact⟨Int.tmod_nonneg _ h.1,Int.tmod_lt_of_pos _ (by omega)⟩
def ok:Spec:=λu b r n hb hp=>⟨0,λN hN=>by
 have k1:=aT.keep hp;have k2:=aT.keep k1;have k3:=aT.keep k2;have p0:aT.P b r=true:=hp;have p1:aT.P b (aT.g b r).1=true:=k1;have p2:aT.P b (aT.g b (aT.g b r).1).1=true:=k2;have p3:aT.P b (aT.g b (aT.g b (aT.g b r).1).1).1=true:=k3;simp only[Z0];by_cases h1:n<=0;·rw[ct (dt h1),show g b r n=(r,0)from if_pos h1]
 ·rw[cf (df h1)];have hz:(!(decide (n=0)))=true:=by rw[df (by omega)];rfl
  by_cases h2:n<=256;·rw[ct (dt h2),show g b r n=((aT.g b r).1,Int.tmod (aT.g b r).2 n)from(if_neg h1).trans (if_pos h2)];simp only[aD,p0,hz,cond_true]
  ·rw[cf (df h2),show g b r n=Fc b r n from(if_neg h1).trans (if_neg h2)];simp only[aD,p0,p1,p2,p3,hz,cond_true];rfl⟩
end aw
namespace dv
def P(b:List Int)(r:Int×Int)(n:Int):Bool:=b8 b r
def g(b:List Int)(r:Int×Int)(n:Int):(Int×Int)×Bool:=((aw.g b r n).1,decide ((aw.g b r n).2=0))
def Z0{J:Type}(N:Nat)(b0:List Int)(r0:Int×Int)(a:Int)(kr:Bool->List Int->I2 (Option J)):Option J :=
 cond (lk N (aw.P b0 r0 a)) (
  kr (lk N (decide ((aw.g b0 r0 a).2=0))) b0 (aw.g b0 r0 a).1.1 (aw.g b0 r0 a).1.2) none
def Spec:Prop:=∀{U:Type} (u:U) (b0:List Int) (r0:Int×Int) (v1:Int),Ty.bd (.sl 0 (.int .u8)) b0->P b0 r0 v1=true->∃N0,∀N,N0<=N->Z0 N b0 r0 v1 (λv4 w0_0 w0_1 w0_2=>some (u,((w0_1,w0_2),((),(v4,())))))=some (u,((g b0 r0 v1).1,((),((g b0 r0 v1).2,()))))
def keep{b:List Int}{r:Int×Int}{n:Int}(h:b8 b r=true):b8 b (g b r n).1=true:=aw.keep h
def ok:Spec:=λu b r n hb hp=>⟨0,λN hN=>by simp only[Z0,aD,show aw.P b r n=true from hp,cond_true];rfl⟩
end dv
namespace a7
def P(b:List Int)(r:Int×Int)(m:Int×Int×List Int)(i j a c:Int):Bool :=
 b8 b r&&(aO m&&(bE i 0 (m.1-1)&&(bE j 0 (m.1-1)&&(bE a 0 1000&&bE c 0 1000))))
def joinM(s:Bool)(m:Int×Int×List Int)(i j a c:Int):Int×Int×List Int :=
 (m.1,m.2.1,(m.2.2.set (i*m.1+j).toNat (if s=true then -a else a)).set (j*m.1+i).toNat (if s=true then c else -c))
def g(b:List Int)(r:Int×Int)(m:Int×Int×List Int)(i j a c:Int):(Int×Int)×(Int×Int×List Int) :=
 ((dv.g b r 2).1,joinM (dv.g b r 2).2 m i j a c)
def Z0{J:Type}(N:Nat)(b0:List Int)(r0:Int×Int)(a:MT)(b c d e:Int)(kn:LI->I2 (List Int->I2 (Option J))):Option J :=
 cond (lk N (dv.P b0 r0 2)) (
  cond (lk N ((dv.g b0 r0 2).2))
  (
   cond (lk N (ax (ac ((ac (b*a.1))+c)) a.2.2.length)) (
    cond (lk N (ax (ac ((ac (c*a.1))+b)) (a.2.2.set (ac ((ac (b*a.1))+c)).toNat (ac (0-d))).length)) (
     kn ((a.2.2.set (ac ((ac (b*a.1))+c)).toNat (ac (0-d))).set (ac ((ac (c*a.1))+b)).toNat (ac (0-(ac (0-e))))) a.1 a.2.1 b0 (dv.g b0 r0 2).1.1 (dv.g b0 r0 2).1.2) none) none)
  (
   cond (lk N (ax (ac ((ac (b*a.1))+c)) a.2.2.length)) (
    cond (lk N (ax (ac ((ac (c*a.1))+b)) (a.2.2.set (ac ((ac (b*a.1))+c)).toNat d).length)) (
     kn ((a.2.2.set (ac ((ac (b*a.1))+c)).toNat d).set (ac ((ac (c*a.1))+b)).toNat (ac (0-e))) a.1 a.2.1 b0 (dv.g b0 r0 2).1.1 (dv.g b0 r0 2).1.2) none) none)) none
def Spec:Prop:=∀{U:Type} (u:U) (b0:List Int) (r0:Int×Int) (v1:MT) (v2 v3 v4 v5:Int),Ty.bd (.sl 0 (.int .u8)) b0->Ty.bd (.pair (.int .i64) (.pair (.int .i64) (.sl 0 (.int .i64)))) v1->P b0 r0 v1 v2 v3 v4 v5=true->∃N0,∀N,N0<=N->Z0 N b0 r0 v1 v2 v3 v4 v5 (λw1_2 w1_0 w1_1 w0_0 w0_1 w0_2=>some (u,((w0_1,w0_2),((w1_0,(w1_1,w1_2)),()))))=some (u,((g b0 r0 v1 v2 v3 v4 v5).1,((g b0 r0 v1 v2 v3 v4 v5).2,())))
def keep{b:List Int}{r:Int×Int}{m:Int×Int×List Int}{i j a c:Int}(h:b8 b r=true):b8 b (g b r m i j a c).1=true:=dv.keep h
def dim_join{s:Bool}{m:Int×Int×List Int}{i j a c:Int}(h:aO m=true):aO (joinM s m i j a c)=true:=by simpa[aO,joinM]using h
def ok:Spec:=λu b r m i j a c hb hbm hp=>⟨0,λN hN=>by
 simp only[P,Bool.and_eq_true,cO]at hp;obtain⟨h1,h2,hi,hj,ha,hc⟩:=hp;obtain⟨n,q,hn,hr,hn1,hn5,hnr,hr8,hl⟩:=aU h2;obtain⟨x,rfl⟩:=Int.eq_ofNat_of_zero_le hi.1;obtain⟨y,rfl⟩:=Int.eq_ofNat_of_zero_le hj.1;have lx:x<n:=by omega
 have ly:y<n:=by omega
 have b1:=iT (n:=n) (r:=q) (i:=x) (j:=y) (by omega) ly;have b2:=iT (n:=n) (r:=q) (i:=y) (j:=x) (by omega) lx;have hq:q*n<=8*5:=Nat.mul_le_mul hr8 hn5;have e1:(x:Int)*m.1+(y:Int)=((x*n+y:Nat):Int):=by rw[hn];simp
 have e2:(y:Int)*m.1+(x:Int)=((y*n+x:Nat):Int):=by rw[hn];simp
 have e1':(x:Int)*m.1=((x*n:Nat):Int):=by rw[hn];simp
 have e2':(y:Int)*m.1=((y*n:Nat):Int):=by rw[hn];simp
 have a1:ac ((x:Int)*m.1)=(x:Int)*m.1:=by rw[e1'];exact aR (by omega) (by omega)
 have a2:ac ((y:Int)*m.1)=(y:Int)*m.1:=by rw[e2'];exact aR (by omega) (by omega)
 have w1:ac (ac ((x:Int)*m.1)+(y:Int))=(x:Int)*m.1+(y:Int):=by rw[a1,e1];exact aR (by omega) (by omega)
 have w2:ac (ac ((y:Int)*m.1)+(x:Int))=(y:Int)*m.1+(x:Int):=by rw[a2,e2];exact aR (by omega) (by omega)
 have wa:ac (0-a)=-a:=by rw[aR (by omega) (by omega)];omega
 have wc:ac (0-c)=-c:=by rw[aR (by omega) (by omega)];omega
 have wc2:ac (0-(-c))=c:=by rw[aR (by omega) (by omega)];omega
 have i1:ax ((x:Int)*m.1+(y:Int)) m.2.2.length=true:=by rw[e1];exact aN (by omega)
 have i2:∀z:Int,ax ((y:Int)*m.1+(x:Int)) (m.2.2.set ((x:Int)*m.1+(y:Int)).toNat z).length=true:=λz=>by rw[e2,List.length_set];exact aN (by omega)
 have hP:dv.P b r 2=true:=h1;simp only[Z0,aD,hP,w1,w2,wa,wc,wc2,i1,i2,cond_true,g,joinM];cases(dv.g b r 2).2<;>rfl⟩
end a7
namespace aG
def P(n:Int):Bool:=bE n 0 5
def g(n:Int):Int×Int×List Int:=(n,n,List.replicate (n*n).toNat 0)
def Z0{J:Type}(N:Nat)(a:Int)(kr:LI->I2 (Option J)):Option J :=
 cond (lk N (bN 0 (ac (a*a))&&decide ((ac (a*a))<1099511627776))) (
  kr (List.replicate (ac (a*a)).toNat (0:Int)) a a) none
def Spec:Prop:=∀ (v0:Int),P v0=true->∃N0,∀N,N0<=N->Z0 N v0 (λv2_2 v2_0 v2_1=>some ((),((v2_0,(v2_1,v2_2)),())))=some ((),((g v0),()))
def ok:Spec:=λn hp=>⟨0,λN hN=>by
 have h:=cO.1 hp;obtain⟨j,rfl⟩:=Int.eq_ofNat_of_zero_le h.1;have hj:j*j<=5*5:=Nat.mul_le_mul (by omega) (by omega);have e:(j:Int)*(j:Int)=((j*j:Nat):Int):=by simp
 have hw:ac ((j:Int)*(j:Int))=(j:Int)*(j:Int):=by rw[e];exact aR (by omega) (by omega)
 simp only[Z0];rw[hw,ct (by rw[e,j8 (by omega),dt (by omega)];rfl)];rfl⟩
end aG
end
end Go.Fw
namespace Go.Fw
def uC(x:Int×Int×List Int):List (UInt8×Nat):=(eI x).map λp=>(uz x p,p.length)
def pm:List (UInt8×Nat)->List (UInt8×Nat)->Bool
 |[],l=>l.isEmpty
 |a::r,l=>decide (a∈l)&&pm r (l.erase a)
def Fd:∀{r l:List (UInt8×Nat)},pm r l=true->r.Perm l
 |[],l,h=>by rw[List.isEmpty_iff.1 (show l.isEmpty=true from h)]
 |a::r,l,h=>by rw[pm,Bool.and_eq_true,decide_eq_true_eq]at h;exact((Fd h.2).cons a).trans (List.perm_cons_erase h.1).symm
def jJ(E:List (UInt8×Nat)):ByteArray:=pi (cZ (E.map λq=>cK q.1++bC (q.2:Int)))
def O6{l l':List ByteArray}(h:l.Perm l'):cZ l=cZ l' :=
 List.Perm.eq_of_pairwise (λa b _ _=>E3 a b) (zy l) (zy l') ((lQ l).trans (h.trans (lQ l').symm))
def O7{x:Int×Int×List Int}{E:List (UInt8×Nat)}(h:pm (uC x) E=true):pi (cZ ((eI x).map (ej x)))=jJ E:=by unfold jJ;rw[<-O6 ((Fd h).map _),uC,List.map_map];rfl
structure zB(n:Int)(E:List (UInt8×Nat))(S:List (Int×Int×List Int)):Prop where
 fit:d6 n S
 cl:Cl n S
 len:S.length<=100
 small:∀x∈S,gG x=true
 ty:∀x∈S,gZ x=true->pm (uC x) E=true
structure dB(n:Int)(S:List (Int×Int×List Int))(t x:Int×Int×List Int):Prop where
 fit:bD n x
 mem:bO x∈S
 back:∀T,Cl n T->bO x∈T->bO t∈T
def dB.refl{n:Int}{S:List (Int×Int×List Int)}{t:Int×Int×List Int}(h:bD n t)(h2:bO t∈S):dB n S t t:=⟨h,h2,λ_ _ h=>h⟩
def dB.mut{n:Int}{S:List (Int×Int×List Int)}{t x:Int×Int×List Int}(hS:Cl n S)(h:dB n S t x){k:Nat}(hk:k<n.toNat):aP (bf x k)=true/\dB n S t (bf x k):=by obtain⟨h1,h2⟩:=Fb hS h.fit h.mem hk;exact⟨h1,h.fit.mut hk h1,h2,λT hT hc=>h.back T hT (O5 hT h.fit hk h1 hc)⟩
def bD.ren{n:Int}{x:Int×Int×List Int}(h:bD n x){o:List Int}(ho:dJ o n=true):bD n (bV x o):=by obtain⟨⟨d,hR⟩,h1,h2⟩:=h;exact⟨⟨_,hR.ren (by rw[h1];exact ho)⟩,h1,h2⟩
def dB.ren{n:Int}{S:List (Int×Int×List Int)}{t x:Int×Int×List Int}(h:dB n S t x){o:List Int}(ho:dJ o n=true):dB n S t (bV x o):=by have e:bO (bV x o)=bO x:=Eb h.fit.dim (h.fit.2.2.trans h.fit.2.1.symm) (by rw[h.fit.2.1];exact ho);exact⟨h.fit.ren ho,by rw[e];exact h.mem,λT hT hc=>h.back T hT (by rwa [e]at hc)⟩
def O8{n:Int}{x:Int×Int×List Int}(h:bD n x):gu x=x:=by unfold gu;rw[if_pos h.ok];have hb:=h.bound;obtain⟨_,h1,h2⟩:=h;unfold iX;rw[List.take_of_length_le (by rw[h1];omega)];exact Prod.ext rfl (Prod.ext (h1.trans h2.symm) rfl)
def Fe{n:Int}{x:Int×Int×List Int}(h:bD n x):gY x=true:=by unfold gY;rw[h.ok,dt (h.2.2.trans h.2.1.symm)];rfl
def dB.type{n:Int}{E:List (UInt8×Nat)}{S:List (Int×Int×List Int)}{t x:Int×Int×List Int}(hT:zB n E S)(h:dB n S t x)(ht:gZ (bO t)=true):(ef x).2=true/\pk ej (ef x).1=jJ E:=by
 obtain⟨S',q1,q2,q3⟩:=uA (m:=x) (by rw[h.fit.2.1];exact hT.cl) hT.len h.mem;have hp:=Fe h.fit;obtain⟨d1,d2⟩:=ux hp q1;rw[h.fit.2.1]at d1;have hm:fk x=(fj x.1 S',true):=by unfold fk;rw[if_pos hp,q1]
 have hF:=(nB hp q1).1;have hin:∀y∈fj x.1 S',y∈S:=λy hy=>q3 y (ED hF hy);have hall:(fj x.1 S').all gG=true:=List.all_eq_true.2 λy hy=>hT.small y (hin y hy);have hf:ef x=(fj x.1 S',true):=by unfold ef;rw[O8 h.fit,hm,hall];rfl
 rw[hf];refine⟨rfl, ?_⟩;unfold pk;have hc:=h.back _ d1 d2;have hcm:bO t∈fj x.1 S':=by obtain⟨_,y1,y2⟩:=hF _ hc;unfold fj;exact List.mem_map.2 ⟨(bO t).2.2,(oW _).mem_iff.2 (List.mem_map_of_mem hc),Prod.ext y1.symm (Prod.ext y2.symm rfl)⟩
 cases hq:(fj x.1 S').find? gZ with
 |none=>exact absurd ht (by simpa using List.find?_eq_none.1 hq _ hcm)
 |some y =>have h1:=List.find?_some hq;have h2:=List.mem_of_find?_eq_some hq;exact O7 (hT.ty y (hin y h2) h1)
def gb:List (Nat×Nat×Int×Int)->List (Int×Int×List Int)->List (Int×Int×List Int)
 |[],ts=>ts
 | (i,j,a,c)::es,ts=>gb es (ts.flatMap λt=>[a7.joinM true t (i:Int) (j:Int) a c,a7.joinM false t (i:Int) (j:Int) a c])
def lT{ts:List (Int×Int×List Int)}{t:Int×Int×List Int}(h:t∈ts)(s:Bool)(i j:Nat)(a c:Int):a7.joinM s t (i:Int) (j:Int) a c∈ts.flatMap λt=>[a7.joinM true t (i:Int) (j:Int) a c,a7.joinM false t (i:Int) (j:Int) a c]:=by refine List.mem_flatMap.2 ⟨t,h, ?_⟩;cases s<;>simp
def zC(ds:List Int)(n:Nat)(t:Int×Int×List Int):Bool :=
 aX t&&(decide (t.1=(n:Int))&&(decide (t.2.1=(n:Int))&&(List.range n).all λu=>decide (0<ds.getD u 0)&&(List.range n).all λv=>decide (ds.getD u 0*af t u v=-(ds.getD v 0*af t v u))))
def Ff{ds:List Int}{n:Nat}{t:Int×Int×List Int}(h:zC ds n t=true):bD n t:=by
 simp only[zC,Bool.and_eq_true,decide_eq_true_eq,List.all_eq_true,List.mem_range]at h;obtain⟨h1,h2,h3,h4⟩:=h;refine⟨⟨λu=>ds.getD u 0,h1,λu hu=>?_⟩,h2,h3⟩;have e:t.1.toNat=n:=by omega
 rw[e]at hu ⊢;exact h4 u hu
def ft(E:List (UInt8×Nat))(ds:List Int)(n:Nat)(es:List (Nat×Nat×Int×Int)):Bool :=
 (gb es [aG.g (n:Int)]).all (zC ds n)&&match jI ((gb es [aG.g (n:Int)]).getD 0 z3)with
  |none=>false
  |some S=>(S.all λx=>gG x&&(!gZ x||pm (uC x) E))&&(gb es [aG.g (n:Int)]).all λt=>decide (bO t∈S)&&gZ (bO t)
def O9{E:List (UInt8×Nat)}{ds:List Int}{n:Nat}{es:List (Nat×Nat×Int×Int)}(h:ft E ds n es=true)(h0:(gb es [aG.g (n:Int)]).getD 0 z3∈gb es [aG.g (n:Int)]) :
  ∃S,zB n E S/\∀t∈gb es [aG.g (n:Int)],dB n S t t/\gZ (bO t)=true:=by
 unfold ft at h;rw[Bool.and_eq_true,List.all_eq_true]at h;obtain⟨h1,h2⟩:=h;have hf:=Ff (h1 _ h0);have hp:=Fe hf;split at h2;·cases h2
 ·rename_i S hc;simp only[Bool.and_eq_true,List.all_eq_true,Bool.or_eq_true,Bool.not_eq_true',decide_eq_true_eq]at h2;obtain⟨f1,f2,f3⟩:=nB hp hc;obtain⟨k1,k2⟩:=ux hp hc;rw[hf.2.1]at f1 k1;exact⟨S,⟨f1,k1,f3,λx hx=>(h2.1 x hx).1,λx hx ht=>(h2.1 x hx).2.resolve_left (by rw[ht];simp)⟩,λt ht=>⟨dB.refl (Ff (h1 t ht)) (h2.2 t ht).1,(h2.2 t ht).2⟩⟩
def jL(n:Nat):List (Nat×Nat×Int×Int):=(List.range n).map λi=>(i,i+1,1,1)
def Pa:List (Nat×Nat×Int×Int):=[(0,1,1,1),(0,2,1,1),(0,3,1,1)]
def fE:List (Nat×Nat×Int×Int):=[(0,1,1,1),(1,2,2,1),(2,3,1,1)]
def Pb:ft [(65,1)] [1] 1 (jL 0)=true:=by decide +kernel
def Pc:ft [(65,2)] [1,1] 2 (jL 1)=true:=by decide +kernel
def Pd:ft [(65,3)] [1,1,1] 3 (jL 2)=true:=by decide +kernel
def Pe:ft [(65,4)] [1,1,1,1] 4 (jL 3)=true:=by decide +kernel
def Pf:ft [(66,2)] [1,2] 2 (jL 0++[(0,1,2,1)])=true:=by decide +kernel
def Pg:ft [(66,3)] [1,1,2] 3 (jL 1++[(1,2,2,1)])=true:=by decide +kernel
def Ph:ft [(66,4)] [1,1,1,2] 4 (jL 2++[(2,3,2,1)])=true:=by decide +kernel
def Pi:ft [(67,3)] [2,2,1] 3 (jL 1++[(1,2,1,2)])=true:=by decide +kernel
def Pj:ft [(67,4)] [2,2,2,1] 4 (jL 2++[(2,3,1,2)])=true:=by decide +kernel
def Pk:ft [(65,1),(65,1)] [1,1] 2 []=true:=by decide +kernel
def Pl:ft [(65,1),(65,1),(65,1)] [1,1,1] 3 []=true:=by decide +kernel
def Pm:ft [(65,1),(65,1),(65,1),(65,1)] [1,1,1,1] 4 []=true:=by decide +kernel
def Pn:ft [(71,2)] [1,3] 2 [(0,1,3,1)]=true:=by decide +kernel
def Po:ft [(68,4)] [1,1,1,1] 4 Pa=true:=by decide +kernel
def Pp:ft [(70,4)] [1,1,2,2] 4 fE=true:=by decide +kernel
def Pq:ft [(65,1),(65,2)] [1,1,1] 3 [(0,1,1,1)]=true:=by decide +kernel
end Go.Fw
namespace Go.Fw
section
variable {J : Type}
namespace bW
def g(n:Int):ByteArray:=bC n
def P(n:Int):Bool:=dG n
def Z1{J:Type}(N:Nat)(a:Int)(kn:Int->Option J):Option J :=
 kn a
def Z3{J:Type}(N:Nat)(a:Int)(kn:List Int->Int->Option J):Option J :=
 kn ([]:List Int) a
def Z5{J:Type}(N:Nat)(b:List Int)(a:Int)(kn:List Int->I2 (Option J)):Option J :=
 kn b a a
def Z9{J:Type}(N:Nat)(b:List Int)(c a:Int)(kn:List Int->I2 (Option J))(k0:List Int->Int->Option J):Option J :=
 cond (lk N (!(decide (a=0))))
 (
  cond (lk N (true)) (
   cond (lk N (decide ((Int.tmod a 10)<0)))
   (
    cond (lk N (Nat.blt (b.length+([(w8 ((ac (48+(ac (0-(Int.tmod a 10)))))))]:List Int).length) 1099511627776)) (
     cond (lk N (true)) (
      kn (b++([(w8 ((ac (48+(ac (0-(Int.tmod a 10)))))))]:List Int)) c (ac (Int.tdiv a 10))) none) none)
   (
    cond (lk N (Nat.blt (b.length+([(w8 ((ac (48+(Int.tmod a 10)))))]:List Int).length) 1099511627776)) (
     cond (lk N (true)) (
      kn (b++([(w8 ((ac (48+(Int.tmod a 10)))))]:List Int)) c (ac (Int.tdiv a 10))) none) none)) none)
 (
  cond (lk N (decide ((b.length:Int)=0)))
  (
   cond (lk N (true)) (
    cond (lk N (decide ((Int.tmod a 10)<0)))
    (
     cond (lk N (Nat.blt (b.length+([(w8 ((ac (48+(ac (0-(Int.tmod a 10)))))))]:List Int).length) 1099511627776)) (
      cond (lk N (true)) (
       kn (b++([(w8 ((ac (48+(ac (0-(Int.tmod a 10)))))))]:List Int)) c (ac (Int.tdiv a 10))) none) none)
    (
     cond (lk N (Nat.blt (b.length+([(w8 ((ac (48+(Int.tmod a 10)))))]:List Int).length) 1099511627776)) (
      cond (lk N (true)) (
       kn (b++([(w8 ((ac (48+(Int.tmod a 10)))))]:List Int)) c (ac (Int.tdiv a 10))) none) none)) none)
  (
   k0 b c))
def Z8L{J:Type}(N:Nat)(k0:List Int->Int->Option J):Nat->List Int->Int->Int->Option J
 |0,_,_,_=>none
 |M+1,a,b,c=>Z9 N a b c (λa b c=>Z8L N k0 M a b c) k0
def Z8 N a b c k0:=(Z8L N k0 N a b c:Option J)
def Z7 N a b c kn:=(Z8 N a b c kn:Option J)
def Z11{J:Type}(N:Nat)(a:List Int)(b:Int)(kn:List Int->List Int->Int->Option J):Option J :=
 kn a ([]:List Int) b
def Z13{J:Type}(N:Nat)(b a:List Int)(c:Int)(kn:List Int->List Int->Option J):Option J :=
 cond (lk N (decide (c<0)))
 (
  cond (lk N (Nat.blt (a.length+([45]:List Int).length) 1099511627776)) (
   kn b (a++([45]:List Int))) none)
 (
  kn b a)
def Z16{J:Type}(N:Nat)(a b:List Int)(kn:List Int->List Int->Int->Option J):Option J :=
 kn a b (ac ((a.length:Int)-1))
def Z19{J:Type}(N:Nat)(b c:List Int)(a:Int)(kn:List Int->List Int->Int->Option J)(k2:List Int->Option J):Option J :=
 cond (lk N (decide (0<=a)))
 (
  cond (lk N (ax a b.length)) (
   cond (lk N (Nat.blt (c.length+([(b.getD a.toNat 0)]:List Int).length) 1099511627776)) (
    kn b (c++([(b.getD a.toNat 0)]:List Int)) (ac (a-1))) none) none)
 (
  k2 c)
def Z18L{J:Type}(N:Nat)(k2:List Int->Option J):Nat->List Int->List Int->Int->Option J
 |0,_,_,_=>none
 |M+1,a,b,c=>Z19 N a b c (λa b c=>Z18L N k2 M a b c) k2
def Z18 N a b c k2:=(Z18L N k2 N a b c:Option J)
def Z17 N a b c kn:=(Z18 N a b c kn:Option J)
def Z15 N a b kn:=(Z16 N a b (λa b c=>Z17 N a b c kn):Option J)
def Z20{J:Type}(N:Nat)(a:List Int)(kr:ByteArray->Option J):Option J :=
 kr (strOfNums a)
def Z14 N b a kr:=(Z15 N b a (λa=>Z20 N a kr):Option J)
def Z12 N a b c kr:=(Z13 N a b c (λa b=>Z14 N a b kr):Option J)
def Z10 N a b kr:=(Z11 N a b (λa c b=>Z12 N a c b kr):Option J)
def Z6 N a b c kr:=(Z7 N a b c (λa b=>Z10 N a b kr):Option J)
def Z4 N a b kr:=(Z5 N a b (λa b c=>Z6 N a b c kr):Option J)
def Z2 N a kr:=(Z3 N a (λb a=>Z4 N b a kr):Option J)
def Z0 N a kr:=(Z1 N a (λa=>Z2 N a kr):Option J)
def Spec:Prop:=∀ (v0:Int),P v0=true->∃N0,∀N,N0<=N->Z0 N v0 (λv2=>some ((),(v2,())))=some ((),((g v0),()))
def done{J:Type}{N M:Nat}(k0:List Int->Int->Option J){ds:List Int}(hd:ds≠[])(n:Int):Z8L N k0 (M+1) ds n 0=k0 ds n:=by have hl:ds.length≠0:=λh=>hd (List.length_eq_zero_iff.1 h);simp only[Z8L,Z9];rw[cf (show(!decide True)=false from rfl),cf (df (by omega))]
def loop{J:Type}{N:Nat}(k0:List Int->Int->Option J)(n:Int):∀(c M:Nat) (ds:List Int) (k:Int),k.natAbs<10 ^ c->k.natAbs<9223372036854775809->1<=c->c<M->ds.length+c<=100->(k≠0\/ds=[]) ->
  Z8L N k0 M ds n k=k0 (ds++fW k.natAbs) n:=by
 intro c;induction c with
 |zero=>intro M ds k _ _ h;omega
 |succ c ih =>
  intro M ds k hk hk2 _ hM hd hor;obtain⟨M,rfl⟩:∃m,M=m+1:=⟨M-1,by omega⟩;have hq:ac (Int.tdiv k 10)=Int.tdiv k 10:=by have:=yL k;exact aR (by omega) (by omega)
  have uF:Z8L N k0 (M+1) ds n k=Z8L N k0 M (ds++[48+((k.natAbs%10:Nat):Int)]) n (Int.tdiv k 10):=by
   have hb:∀x:Int,Nat.blt (ds.length+([x]:List Int).length) 1099511627776=true:=λx=>Nat.ble_eq_true_of_le (by simp;omega);simp only[Z8L,Z9,hq,hb,aD,cond_true];by_cases hk0:k=0;·subst hk0;have hds:ds=[]:=hor.resolve_left (by simp);subst hds;rfl
   ·rw[nt hk0,cond_true];by_cases hneg:Int.tmod k 10<0;·rw[dt hneg,cond_true,Nu hneg]
    ·rw[df hneg,cond_false,Nt hneg]
  rw[uF];by_cases hsm:k.natAbs<10
  ·have e0:Int.tdiv k 10=0:=by have:=yL k;omega
   obtain⟨M,rfl⟩:∃m,M=m+1:=⟨M-1,by omega⟩;rw[e0,done k0 (by simp) n,Dx hsm,Nat.mod_eq_of_lt hsm]
  ·have hc:1<=c:=by
    rcases Nat.eq_zero_or_pos c with h|h;·subst h;omega
    ·exact h
   have hd2:=yL k;rw[ih M _ (Int.tdiv k 10) (by rw[hd2,Nat.div_lt_iff_lt_mul (by omega),<-Nat.pow_succ];exact hk) (by omega) hc (by omega) (by simp;omega) (.inl (by omega)),hd2,Dy hsm,List.append_assoc];rfl
def back{J:Type}{N:Nat}(k2:List Int->Option J){ds:List Int}(hd:ds.length<=100):∀(j M:Nat) (out:List Int),j<=ds.length->j<M->out.length+j<=1000->Z18L N k2 M ds out ((j:Int)-1)=k2 (out++(ds.take j).reverse):=by
 intro j;induction j with
 |zero =>intro M out _ hM _;obtain⟨M,rfl⟩:∃m,M=m+1:=⟨M-1,by omega⟩;simp only[Z18L,Z19];rw[cf (df (by omega)),List.take_zero,List.reverse_nil,List.append_nil]
 |succ j ih =>
  intro M out hj hM ho;obtain⟨M,rfl⟩:∃m,M=m+1:=⟨M-1,by omega⟩;have e:((j+1:Nat):Int)-1=(j:Int):=by omega
  have hb:∀x:Int,Nat.blt (out.length+([x]:List Int).length) 1099511627776=true:=λx=>Nat.ble_eq_true_of_le (by simp;omega);simp only[Z18L,Z19,e];rw[ct (dt (by omega)),ct (aN hj),ct (hb _),Int.toNat_natCast,aR (by omega) (by omega),ih M _ (by omega) (by omega) (by simp;omega),<-rc 0 hj,List.reverse_append,List.append_assoc];rfl
def Pr{u:Nat}:∀(c:Nat),u<10 ^ c->1<=c->(fW u).length<=c:=by
 intro c;induction c generalizing u with
 |zero=>intro _ h;omega
 |succ c ih =>
  intro h _;by_cases hs:u<10;·rw[Dx hs];simp
  ·rw[Dy hs,List.length_cons];have hc:1<=c:=by
    rcases Nat.eq_zero_or_pos c with h'|h';·subst h';omega
    ·exact h'
   have:=ih (u:=u / 10) (by rw[Nat.div_lt_iff_lt_mul (by omega),<-Nat.pow_succ];exact h) hc;omega
def ok:Spec:=λn hp=>⟨200,λN hN=>by
 simp only[P,dG,Bool.and_eq_true,decide_eq_true_eq]at hp;have h19:n.natAbs<10 ^ 19:=by
  have:(10:Nat) ^ 19=10000000000000000000:=by decide
  omega
 have hlen:=Pr 19 h19 (by omega);simp only[Z0,Z1,Z2,Z3,Z4,Z5,Z6,Z7,Z8];refine(loop _ n 19 N [] n h19 (by omega) (by omega) (by omega) (by simp) (.inr rfl)).trans ?_;rw[List.nil_append];have hl0:fW n.natAbs=(fW n.natAbs).take (fW n.natAbs).length:=by rw[List.take_length]
 have fin:∀out:List Int,out.length<=10->Z18L N (λout6=>some ((),(strOfNums out6,()))) N (fW n.natAbs) out (((fW n.natAbs).length:Int)-1)=some ((),(strOfNums (out++(fW n.natAbs).reverse),())):=λout ho=>by rw[back _ (by omega) _ N out (Nat.le_refl _) (by omega) (by omega),List.take_length]
 simp only[Z10,Z11,Z12,Z13];by_cases hneg:n<0;·rw[ct (dt hneg),ct (show Nat.blt (([]:List Int).length+([45]:List Int).length) 1099511627776=true from rfl)];simp only[Z14,Z15,Z16,Z17,Z18,Z20];rw[aR (by omega) (by omega),fin _ (by simp),g,bC,Lib.itoa,if_pos hneg];have:=Nr n.natAbs;simp only[List.nil_append,List.singleton_append];rw[this]
 ·rw[cf (df hneg)];simp only[Z14,Z15,Z16,Z17,Z18,Z20];rw[aR (by omega) (by omega),fin _ (by simp),g,bC,Lib.itoa,if_neg hneg,List.nil_append,Nq,show n.natAbs=n.toNat by omega]⟩
end bW
namespace spec_dTree
def P(b:List Int)(r:Int×Int)(most:Int):Bool:=b8 b r&&bE most 1 4
abbrev S:=(Int×Int)×(Int×Int×List Int)
def chainS(b:List Int)(s:S)(i:Nat):S:=a7.g b s.1 s.2 (i:Int) ((i:Int)+1) 1 1
def starS(b:List Int)(s:S)(i:Nat):S:=a7.g b s.1 s.2 0 (i:Int) 1 1
def chainG(b:List Int)(r:Int×Int)(n c:Nat):S:=(List.range c).foldl (chainS b) (r,aG.g (n:Int))
def zD(b:List Int)(r:Int×Int):S:=((List.range 4).drop 1).foldl (starS b) (r,aG.g 4)
def f1(b:List Int)(r:Int×Int):S:=a7.g b r (aG.g 4) 0 1 1 1
def f2(b:List Int)(r:Int×Int):S:=a7.g b (f1 b r).1 (f1 b r).2 1 2 2 1
def f3(b:List Int)(r:Int×Int):S:=a7.g b (f2 b r).1 (f2 b r).2 2 3 1 1
def endB(b:List Int)(s:S)(n:Nat)(x y:Int):S:=a7.g b s.1 s.2 ((n:Int)-2) ((n:Int)-1) x y
def ones:List ByteArray:=[ByteArray.empty,⟨#[65,49]⟩,⟨#[65,49,32,65,49]⟩,⟨#[65,49,32,65,49,32,65,49]⟩,⟨#[65,49,32,65,49,32,65,49,32,65,49]⟩,⟨#[65,49,32,65,49,32,65,49,32,65,49,32,65,49]⟩]
def k1(k n most:Int):Int:=cond ((decide (4<=k)&&(decide (k<=6)&&decide (n<2)))||(decide (k=7)&&decide (most<2))) 0 k
def k2(k most:Int):Int:=cond ((decide (k=8)&&decide (most<4))||((decide (k=9)&&decide (most<4))||(decide (k=10)&&decide (most<3)))) 1 k
def tree(b:List Int)(r:Int×Int)(k:Int)(n:Nat):S×ByteArray :=
 if k=4 then(endB b (chainG b r n (n-2)) n 2 1,⟨#[66]⟩++bC n)else
 if k=5 then(if n=2 then(endB b (chainG b r n (n-2)) n 2 1,⟨#[66]⟩++bC n)else(endB b (chainG b r n (n-2)) n 1 2,⟨#[67]⟩++bC n))else
 if k=6 then((r,aG.g n),ones.getD n ByteArray.empty)else
 if k=7 then(a7.g b r (aG.g 2) 0 1 3 1,⟨#[71,50]⟩)else
 if k=8 then(zD b r,⟨#[68,52]⟩)else
 if k=9 then(f3 b r,⟨#[70,52]⟩)else
 if k=10 then(a7.g b r (aG.g 3) 0 1 1 1,⟨#[65,49,32,65,50]⟩)else
 (chainG b r n (n-1),⟨#[65]⟩++bC n)
def g(b:List Int)(r:Int×Int)(most:Int):(Int×Int)×(Int×Int×List Int)×ByteArray :=
 let k:=aw.g b r 11;let n:=aw.g b k.1 most;let t:=tree b n.1 (k2 (k1 k.2 (1+n.2) most) most) (1+n.2).toNat;(t.1.1,t.1.2,t.2)
def Z1{J:Type}(N:Nat)(b0:List Int)(r0:Int×Int)(a:Int)(kn:Int->List Int->I4 (Option J)):Option J :=
 kn a b0 r0.1 r0.2 0 0
def Z3{J:Type}(N:Nat)(d:Int)(a:List Int)(b c e f:Int)(kn:I2 (List Int->I4 (Option J))):Option J :=
 cond (lk N (aw.P a (b,c) 11)) (
  kn d (aw.g a (b,c) 11).2 a (aw.g a (b,c) 11).1.1 (aw.g a (b,c) 11).1.2 e f) none
def Z5{J:Type}(N:Nat)(a e:Int)(b:List Int)(c d f h:Int)(kn:I3 (List Int->I4 (Option J))):Option J :=
 cond (lk N (aw.P b (c,d) a)) (
  kn a e (ac (1+(aw.g b (c,d) a).2)) b (aw.g b (c,d) a).1.1 (aw.g b (c,d) a).1.2 f h) none
def Z7{J:Type}(N:Nat)(a b c:Int)(d:List Int)(e f g h:Int)(kn:I3 (List Int->I4 (Option J))):Option J :=
 cond (lk N (decide (4<=b)))
 (
  cond (lk N (decide (b<=6)))
  (
   cond (lk N (decide (c<2)))
   (
    kn a 0 c d e f g h)
   (
    cond (lk N (decide (b=7)))
    (
     cond (lk N (decide (a<2)))
     (
      kn a 0 c d e f g h)
     (
      kn a b c d e f g h))
    (
     kn a b c d e f g h)))
  (
   cond (lk N (decide (b=7)))
   (
    cond (lk N (decide (a<2)))
    (
     kn a 0 c d e f g h)
    (
     kn a b c d e f g h))
   (
    kn a b c d e f g h)))
 (
  cond (lk N (decide (b=7)))
  (
   cond (lk N (decide (a<2)))
   (
    kn a 0 c d e f g h)
   (
    kn a b c d e f g h))
  (
   kn a b c d e f g h))
def Z9{J:Type}(N:Nat)(h a b:Int)(c:List Int)(d e f g:Int)(kn:I2 (List Int->I4 (Option J))):Option J :=
 cond (lk N (decide (a=8)))
 (
  cond (lk N (decide (h<4)))
  (
   kn 1 b c d e f g)
  (
   cond (lk N (decide (a=9)))
   (
    cond (lk N (decide (h<4)))
    (
     kn 1 b c d e f g)
    (
     cond (lk N (decide (a=10)))
     (
      cond (lk N (decide (h<3)))
      (
       kn 1 b c d e f g)
      (
       kn a b c d e f g))
     (
      kn a b c d e f g)))
   (
    cond (lk N (decide (a=10)))
    (
     cond (lk N (decide (h<3)))
     (
      kn 1 b c d e f g)
     (
      kn a b c d e f g))
    (
     kn a b c d e f g))))
 (
  cond (lk N (decide (a=9)))
  (
   cond (lk N (decide (h<4)))
   (
    kn 1 b c d e f g)
   (
    cond (lk N (decide (a=10)))
    (
     cond (lk N (decide (h<3)))
     (
      kn 1 b c d e f g)
     (
      kn a b c d e f g))
    (
     kn a b c d e f g)))
  (
   cond (lk N (decide (a=10)))
   (
    cond (lk N (decide (h<3)))
    (
     kn 1 b c d e f g)
    (
     kn a b c d e f g))
   (
    kn a b c d e f g)))
def Z12{J:Type}(N:Nat)(a b:Int)(c:List Int)(d e f g:Int)(kn:I3 (List Int->I4 (Option J))):Option J :=
 kn a b a c d e f g
def Z15{J:Type}(N:Nat)(b c a:Int)(d:List Int)(e f g h:Int)(kn:I3 (Bool->List Int->I4 (Option J))):Option J :=
 cond (lk N (decide (a=4)))
 (
  kn b c a (lk N (decide (a=4))) d e f g h)
 (
  kn b c a (lk N (decide (a=5))) d e f g h)
def Z18{J:Type}(N:Nat)(b a i:Int)(j:Bool)(c:List Int)(d e f h:Int)(kn:LI->I2 (List Int->I6 (Option J))):Option J :=
 cond (lk N (aG.P a)) (
  kn (aG.g a).2.2 b a c d e f h (aG.g a).1 (aG.g a).2.1) none
def Z21{J:Type}(N:Nat)(a:LI)(b c:Int)(d:List Int)(e f g h i j:Int)(kn:LI->I3 (List Int->I6 (Option J))):Option J :=
 kn a b c 0 d e f g h i j
def Z24{J:Type}(N:Nat)(e:LI)(j i a:Int)(b:List Int)(f h l m c d:Int)(kn:LI->I3 (List Int->I6 (Option J)))(k1:LI->I2 (List Int->I6 (Option J))):Option J :=
 cond (lk N (decide ((ac (a+2))<i)))
 (
  cond (lk N (a7.P b (f,h) (c,(d,e)) a (ac (a+1)) 1 1)) (
   kn (a7.g b (f,h) (c,(d,e)) a (ac (a+1)) 1 1).2.2.2 j i (ac (a+1)) b (a7.g b (f,h) (c,(d,e)) a (ac (a+1)) 1 1).1.1 (a7.g b (f,h) (c,(d,e)) a (ac (a+1)) 1 1).1.2 l m c d) none)
 (
  k1 e j i b f h l m c d)
def Z23L{J:Type}(N:Nat)(k1:LI->I2 (List Int->I6 (Option J))):Nat->LI->Int->Int->Int->List Int->Int->Int->Int->Int->Int->Int->Option J
 |0,_,_,_,_,_,_,_,_,_,_,_=>none
 |M+1,a,b,c,d,e,f,g,h,i,j,l=>Z24 N a b c d e f g h i j l (λa b c d e f g h i j l=>Z23L N k1 M a b c d e f g h i j l) k1
def Z23 N a b c d e f g h i j l k1:=(Z23L N k1 N a b c d e f g h i j l:Option J)
def Z22 N a b c d e f g h i j l kn:=(Z23 N a b c d e f g h i j l kn:Option J)
def Z20 N a b c d e f g h i j kn:=(Z21 N a b c d e f g h i j (λa b c l d e f g h i j=>Z22 N a b c l d e f g h i j kn):Option J)
def Z25{J:Type}(N:Nat)(e:LI)(i a:Int)(b:List Int)(f h j l c d:Int)(kr:LI->ByteArray->I2 (List Int->I2 (Option J))):Option J :=
 cond (lk N (decide (i=4)))
 (
  cond (lk N (a7.P b (f,h) (c,(d,e)) (ac (a-2)) (ac (a-1)) 2 1)) (
   cond (lk N (bW.P a)) (
    bo (
     cond (Nat.blt ((⟨#[66]⟩:ByteArray).size+(bW.g a).size) 4611686018427387904) (
      kr (a7.g b (f,h) (c,(d,e)) (ac (a-2)) (ac (a-1)) 2 1).2.2.2 ((⟨#[66]⟩:ByteArray)++(bW.g a)) c d b (a7.g b (f,h) (c,(d,e)) (ac (a-2)) (ac (a-1)) 2 1).1.1 (a7.g b (f,h) (c,(d,e)) (ac (a-2)) (ac (a-1)) 2 1).1.2) none)) none) none)
 (
  cond (lk N (decide (a=2)))
  (
   cond (lk N (a7.P b (f,h) (c,(d,e)) (ac (a-2)) (ac (a-1)) 2 1)) (
    cond (lk N (bW.P a)) (
     bo (
      cond (Nat.blt ((⟨#[66]⟩:ByteArray).size+(bW.g a).size) 4611686018427387904) (
       kr (a7.g b (f,h) (c,(d,e)) (ac (a-2)) (ac (a-1)) 2 1).2.2.2 ((⟨#[66]⟩:ByteArray)++(bW.g a)) c d b (a7.g b (f,h) (c,(d,e)) (ac (a-2)) (ac (a-1)) 2 1).1.1 (a7.g b (f,h) (c,(d,e)) (ac (a-2)) (ac (a-1)) 2 1).1.2) none)) none) none)
  (
   cond (lk N (a7.P b (f,h) (c,(d,e)) (ac (a-2)) (ac (a-1)) 1 2)) (
    cond (lk N (bW.P a)) (
     bo (
      cond (Nat.blt ((⟨#[67]⟩:ByteArray).size+(bW.g a).size) 4611686018427387904) (
       kr (a7.g b (f,h) (c,(d,e)) (ac (a-2)) (ac (a-1)) 1 2).2.2.2 ((⟨#[67]⟩:ByteArray)++(bW.g a)) c d b (a7.g b (f,h) (c,(d,e)) (ac (a-2)) (ac (a-1)) 1 2).1.1 (a7.g b (f,h) (c,(d,e)) (ac (a-2)) (ac (a-1)) 1 2).1.2) none)) none) none))
def Z19 N a b c d e f g h i j kr:=(Z20 N a b c d e f g h i j (λa b c d e f g h i j=>Z25 N a b c d e f g h i j kr):Option J)
def Z17 N a b h i c d e f g kr:=(Z18 N a b h i c d e f g (λj a b c d e f g l m=>Z19 N j a b c d e f g l m kr):Option J)
def Z27{J:Type}(N:Nat)(h b a:Int)(i:Bool)(c:List Int)(d e f g:Int)(kn:I2 (Bool->List Int->I4 (Option J))):Option J :=
 kn b a (lk N (decide (a=6))) c d e f g
def Z29{J:Type}(N:Nat)(a e:Int)(f:Bool)(b:List Int)(c d h i:Int)(kr:LI->ByteArray->I2 (List Int->I2 (Option J))):Option J :=
 cond (lk N (aG.P a)) (
  cj (
   cond (lk N (ax a ([ByteArray.empty,(⟨#[65,49]⟩:ByteArray),(⟨#[65,49,32,65,49]⟩:ByteArray),(⟨#[65,49,32,65,49,32,65,49]⟩:ByteArray),(⟨#[65,49,32,65,49,32,65,49,32,65,49]⟩:ByteArray),(⟨#[65,49,32,65,49,32,65,49,32,65,49,32,65,49]⟩:ByteArray)]:List ByteArray).length)) (
    bo (
     kr (aG.g a).2.2 (([ByteArray.empty,(⟨#[65,49]⟩:ByteArray),(⟨#[65,49,32,65,49]⟩:ByteArray),(⟨#[65,49,32,65,49,32,65,49]⟩:ByteArray),(⟨#[65,49,32,65,49,32,65,49,32,65,49]⟩:ByteArray),(⟨#[65,49,32,65,49,32,65,49,32,65,49,32,65,49]⟩:ByteArray)]:List ByteArray).getD a.toNat ByteArray.empty) (aG.g a).1 (aG.g a).2.1 b c d)) none)
  (
   cond (lk N (ax a ([ByteArray.empty,(⟨#[65,49]⟩:ByteArray),(⟨#[65,49,32,65,49]⟩:ByteArray),(⟨#[65,49,32,65,49,32,65,49]⟩:ByteArray),(⟨#[65,49,32,65,49,32,65,49,32,65,49]⟩:ByteArray),(⟨#[65,49,32,65,49,32,65,49,32,65,49,32,65,49]⟩:ByteArray)]:List ByteArray).length)) (
    kr (aG.g a).2.2 (([ByteArray.empty,(⟨#[65,49]⟩:ByteArray),(⟨#[65,49,32,65,49]⟩:ByteArray),(⟨#[65,49,32,65,49,32,65,49]⟩:ByteArray),(⟨#[65,49,32,65,49,32,65,49,32,65,49]⟩:ByteArray),(⟨#[65,49,32,65,49,32,65,49,32,65,49,32,65,49]⟩:ByteArray)]:List ByteArray).getD a.toNat ByteArray.empty) (aG.g a).1 (aG.g a).2.1 b c d) none)) none
def Z31{J:Type}(N:Nat)(b a:Int)(h:Bool)(c:List Int)(d e f g:Int)(kn:I2 (Bool->List Int->I4 (Option J))):Option J :=
 kn b a (lk N (decide (a=7))) c d e f g
def Z33{J:Type}(N:Nat)(d e:Int)(f:Bool)(a:List Int)(b c h i:Int)(kr:LI->ByteArray->I2 (List Int->I2 (Option J))):Option J :=
 cond (lk N (aG.P 2)) (
  cond (lk N (a7.P a (b,c) (aG.g 2) 0 1 3 1)) (
   kr (a7.g a (b,c) (aG.g 2) 0 1 3 1).2.2.2 (⟨#[71,50]⟩:ByteArray) (aG.g 2).1 (aG.g 2).2.1 a (a7.g a (b,c) (aG.g 2) 0 1 3 1).1.1 (a7.g a (b,c) (aG.g 2) 0 1 3 1).1.2) none) none
def Z35{J:Type}(N:Nat)(b a:Int)(h:Bool)(c:List Int)(d e f g:Int)(kn:I2 (Bool->List Int->I4 (Option J))):Option J :=
 kn b a (lk N (decide (a=8))) c d e f g
def Z38{J:Type}(N:Nat)(f h:Int)(i:Bool)(a:List Int)(b c d e:Int)(kn:LI->List Int->I6 (Option J)):Option J :=
 cond (lk N (aG.P 4)) (
  kn (aG.g 4).2.2 a b c d e (aG.g 4).1 (aG.g 4).2.1) none
def Z41{J:Type}(N:Nat)(a:LI)(b:List Int)(c d e f g h:Int)(kn:LI->Int->List Int->I6 (Option J)):Option J :=
 kn a 1 b c d e f g h
def Z44{J:Type}(N:Nat)(e:LI)(a:Int)(b:List Int)(f h i j c d:Int)(kn:LI->Int->List Int->I6 (Option J))(k3:LI->I4 (List Int->I2 (Option J))):Option J :=
 cond (lk N (decide (a<4)))
 (
  cond (lk N (a7.P b (f,h) (c,(d,e)) 0 a 1 1)) (
   kn (a7.g b (f,h) (c,(d,e)) 0 a 1 1).2.2.2 (ac (a+1)) b (a7.g b (f,h) (c,(d,e)) 0 a 1 1).1.1 (a7.g b (f,h) (c,(d,e)) 0 a 1 1).1.2 i j c d) none)
 (
  k3 e i j c d b f h)
def Z43L{J:Type}(N:Nat)(k3:LI->I4 (List Int->I2 (Option J))):Nat->LI->Int->List Int->Int->Int->Int->Int->Int->Int->Option J
 |0,_,_,_,_,_,_,_,_,_=>none
 |M+1,a,b,c,d,e,f,g,h,i=>Z44 N a b c d e f g h i (λa b c d e f g h i=>Z43L N k3 M a b c d e f g h i) k3
def Z43 N a b c d e f g h i k3:=(Z43L N k3 N a b c d e f g h i:Option J)
def Z42 N a b c d e f g h i kn:=(Z43 N a b c d e f g h i kn:Option J)
def Z40 N a b c d e f g h kn:=(Z41 N a b c d e f g h (λa i b c d e f g h=>Z42 N a i b c d e f g h kn):Option J)
def Z45{J:Type}(N:Nat)(a:LI)(g h b c:Int)(d:List Int)(e f:Int)(kr:LI->ByteArray->I2 (List Int->I2 (Option J))):Option J :=
 kr a (⟨#[68,52]⟩:ByteArray) b c d e f
def Z39 N a b c d e f g h kr:=(Z40 N a b c d e f g h (λa e f g h b c d=>Z45 N a e f g h b c d kr):Option J)
def Z37 N f g h a b c d e kr:=(Z38 N f g h a b c d e (λi a b c d e j l=>Z39 N i a b c d e j l kr):Option J)
def Z46{J:Type}(N:Nat)(e d:Int)(i:Bool)(a:List Int)(b c f h:Int)(kn:Int->List Int->I4 (Option J))(kr:LI->ByteArray->I2 (List Int->I2 (Option J))):Option J :=
 let x2_:=(a7.g a (b,c) (aG.g 4) 0 1 1 1);let x3_:=(a7.g a (b,c) (aG.g 3) 0 1 1 1);let x0_:=(a7.g a x2_.1 ((aG.g 4).1,((aG.g 4).2.1,x2_.2.2.2)) 1 2 2 1);let x1_:=(a7.g a x0_.1 ((aG.g 4).1,((aG.g 4).2.1,x0_.2.2.2)) 2 3 1 1);cond (lk N (decide (d=9)))
 (
 cond (lk N (aG.P 4)) (
 cond (lk N (a7.P a (b,c) (aG.g 4) 0 1 1 1)) (
 cond (lk N (a7.P a x2_.1 ((aG.g 4).1,((aG.g 4).2.1,x2_.2.2.2)) 1 2 2 1)) (
 cond (lk N (a7.P a x0_.1 ((aG.g 4).1,((aG.g 4).2.1,x0_.2.2.2)) 2 3 1 1)) (
 kr x1_.2.2.2 (⟨#[70,52]⟩:ByteArray) (aG.g 4).1 (aG.g 4).2.1 a x1_.1.1 x1_.1.2) none) none) none) none)
 (
 cond (lk N (decide (d=10)))
 (
 cond (lk N (aG.P 3)) (
 cond (lk N (a7.P a (b,c) (aG.g 3) 0 1 1 1)) (
 kr x3_.2.2.2 (⟨#[65,49,32,65,50]⟩:ByteArray) (aG.g 3).1 (aG.g 3).2.1 a x3_.1.1 x3_.1.2) none) none)
 (
 kn e a b c f h))
def Z36 N b c a d e f g h kn kr:=(cond (a) (Z37 N b c a d e f g h kr) (Z46 N b c a d e f g h kn kr):Option J)
def Z34 N a b h c d e f g kn kr:=(Z35 N a b h c d e f g (λa b i c d e f g=>Z36 N a b i c d e f g kn kr):Option J)
def Z32 N b c a d e f g h kn kr:=(cond (a) (Z33 N b c a d e f g h kr) (Z34 N b c a d e f g h kn kr):Option J)
def Z30 N a b h c d e f g kn kr:=(Z31 N a b h c d e f g (λa b i c d e f g=>Z32 N a b i c d e f g kn kr):Option J)
def Z28 N b c a d e f g h kn kr:=(cond (a) (Z29 N b c a d e f g h kr) (Z30 N b c a d e f g h kn kr):Option J)
def Z26 N h a b i c d e f g kn kr:=(Z27 N h a b i c d e f g (λa b j c d e f g=>Z28 N a b j c d e f g kn kr):Option J)
def Z16 N b c d a e f g h i kn kr:=(cond (a) (Z17 N b c d a e f g h i kr) (Z26 N b c d a e f g h i kn kr):Option J)
def Z14 N a b c d e f g h kn kr:=(Z15 N a b c d e f g h (λa b c i d e f g h=>Z16 N a b c i d e f g h kn kr):Option J)
def Z13 N a b c d e f g h kn kr:=(Z14 N a b c d e f g h kn kr:Option J)
def Z11 N a b c d e f g kn kr:=(Z12 N a b c d e f g (λa b h c d e f g=>Z13 N a b h c d e f g kn kr):Option J)
def Z48{J:Type}(N:Nat)(a:Int)(b:List Int)(c d e f:Int)(kn:LI->Int->List Int->I6 (Option J)):Option J :=
 cond (lk N (aG.P a)) (
  kn (aG.g a).2.2 a b c d e f (aG.g a).1 (aG.g a).2.1) none
def Z51{J:Type}(N:Nat)(a:LI)(b:Int)(c:List Int)(d e f g h i:Int)(kn:LI->I2 (List Int->I6 (Option J))):Option J :=
 kn a b 0 c d e f g h i
def Z54{J:Type}(N:Nat)(e:LI)(i a:Int)(b:List Int)(f h j l c d:Int)(kn:LI->I2 (List Int->I6 (Option J)))(k5:LI->I5 (List Int->I2 (Option J))):Option J :=
 cond (lk N (decide ((ac (a+1))<i)))
 (
  cond (lk N (a7.P b (f,h) (c,(d,e)) a (ac (a+1)) 1 1)) (
   kn (a7.g b (f,h) (c,(d,e)) a (ac (a+1)) 1 1).2.2.2 i (ac (a+1)) b (a7.g b (f,h) (c,(d,e)) a (ac (a+1)) 1 1).1.1 (a7.g b (f,h) (c,(d,e)) a (ac (a+1)) 1 1).1.2 j l c d) none)
 (
  k5 e i j l c d b f h)
def Z53L{J:Type}(N:Nat)(k5:LI->I5 (List Int->I2 (Option J))):Nat->LI->Int->Int->List Int->Int->Int->Int->Int->Int->Int->Option J
 |0,_,_,_,_,_,_,_,_,_,_=>none
 |M+1,a,b,c,d,e,f,g,h,i,j=>Z54 N a b c d e f g h i j (λa b c d e f g h i j=>Z53L N k5 M a b c d e f g h i j) k5
def Z53 N a b c d e f g h i j k5:=(Z53L N k5 N a b c d e f g h i j:Option J)
def Z52 N a b c d e f g h i j kn:=(Z53 N a b c d e f g h i j kn:Option J)
def Z50 N a b c d e f g h i kn:=(Z51 N a b c d e f g h i (λa b j c d e f g h i=>Z52 N a b j c d e f g h i kn):Option J)
def Z55{J:Type}(N:Nat)(b:LI)(a i j c d:Int)(e:List Int)(f h:Int)(kr:LI->ByteArray->I2 (List Int->I2 (Option J))):Option J :=
 cond (lk N (bW.P a)) (
  bo (
   cond (Nat.blt ((⟨#[65]⟩:ByteArray).size+(bW.g a).size) 4611686018427387904) (
    kr b ((⟨#[65]⟩:ByteArray)++(bW.g a)) c d e f h) none)) none
def Z49 N a b c d e f g h i kr:=(Z50 N a b c d e f g h i (λa b f g h i c d e=>Z55 N a b f g h i c d e kr):Option J)
def Z47 N a b c d e f kr:=(Z48 N a b c d e f (λg a b c d e f h i=>Z49 N g a b c d e f h i kr):Option J)
def Z10 N g a b c d e f kr:=(Z11 N g a b c d e f (λa b c d e f=>Z47 N a b c d e f kr) kr:Option J)
def Z8 N h a b c d e f g kr:=(Z9 N h a b c d e f g (λa b c d e f g=>Z10 N a b c d e f g kr):Option J)
def Z6 N a b c d e f g h kr:=(Z7 N a b c d e f g h (λa b c d e f g h=>Z8 N a b c d e f g h kr):Option J)
def Z4 N a b c d e f g kr:=(Z5 N a b c d e f g (λa b h c d e f g=>Z6 N a b h c d e f g kr):Option J)
def Z2 N a b c d e f kr:=(Z3 N a b c d e f (λa g b c d e f=>Z4 N a g b c d e f kr):Option J)
def Z0 N b0 r0 a kr:=(Z1 N b0 r0 a (λa b c d e f=>Z2 N a b c d e f kr):Option J)
def Spec:Prop:=∀{U:Type} (u:U) (b0:List Int) (r0:Int×Int) (v1:Int),Ty.bd (.sl 0 (.int .u8)) b0->P b0 r0 v1=true->∃N0,∀N,N0<=N->Z0 N b0 r0 v1 (λv4_2 v5 v4_0 v4_1 w0_0 w0_1 w0_2=>some (u,((w0_1,w0_2),((),((v4_0,(v4_1,v4_2)),(v5,()))))))=some (u,((g b0 r0 v1).1,((),((g b0 r0 v1).2.1,((g b0 r0 v1).2.2,())))))
structure Jd(b:List Int)(n:Int)(s:S):Prop where
 cur:b8 b s.1=true
 dim:aO s.2=true
 hn:s.2.1=n
 hr:s.2.2.1=n
def Jd.join{b:List Int}{n:Int}{s:S}(h:Jd b n s)(i j x y:Int):Jd b n (a7.g b s.1 s.2 i j x y) :=
 ⟨a7.keep h.cur,a7.dim_join h.dim,h.hn,h.hr⟩
def Ps{n:Int}(h1:1<=n)(h5:n<=5):aO (aG.g n)=true:=by
 have:n=1\/n=2\/n=3\/n=4\/n=5:=by omega
 rcases this with rfl|rfl|rfl|rfl|rfl<;>rfl
def Jd.zero{b:List Int}{r:Int×Int}{n:Int}(h:b8 b r=true)(h1:1<=n)(h5:n<=5):Jd b n (r,aG.g n):=⟨h,Ps h1 h5,rfl,rfl⟩
def Jd.P{b:List Int}{n:Int}{s:S}(h:Jd b n s){i j x y:Int}(hi:0<=i/\i<n)(hj:0<=j/\j<n)(ha:0<=x/\x<=1000)(hc:0<=y/\y<=1000):a7.P b s.1 s.2 i j x y=true:=by have:=h.hn;simp only[a7.P,Bool.and_eq_true,cO];exact⟨h.cur,h.dim,by omega,by omega,by omega,by omega⟩
def Jd.chain{b:List Int}{n:Int}:∀(l:List Nat) {s:S},Jd b n s->Jd b n (l.foldl (chainS b) s)
 |[],_,h=>h
 |i::l,s,h=>Jd.chain l (s:=chainS b s i) (h.join _ _ _ _)
def Jd.star{b:List Int}{n:Int}:∀(l:List Nat) {s:S},Jd b n s->Jd b n (l.foldl (starS b) s)
 |[],_,h=>h
 |i::l,s,h=>Jd.star l (s:=starS b s i) (h.join _ _ _ _)
def Pt{J:Type}{N:Nat}{b:List Int}(kk:List Int->Int->Int->List Int->Int->Int->Int->Int->Int->Int->Option J)(t0 t1 kd:Int){c:Nat}(hc:c<=4):∀(M i:Nat) (s:S),i<=c->Jd b ((c:Int)+2) s->c-i<M ->
  Z23L N kk M s.2.2.2 kd ((c:Int)+2) (i:Int) b s.1.1 s.1.2 t0 t1 s.2.1 s.2.2.1=kk (((List.range c).drop i).foldl (chainS b) s).2.2.2 kd ((c:Int)+2) b (((List.range c).drop i).foldl (chainS b) s).1.1 (((List.range c).drop i).foldl (chainS b) s).1.2 t0 t1 s.2.1 s.2.2.1:=by
 intro M;induction M with
 |zero=>intro i s _ _ h;omega
 |succ M ih =>
  intro i s hi hs hM;simp only[Z23L,Z24];have w2:ac ((i:Int)+2)=(i:Int)+2:=aR (by omega) (by omega);have w1:ac ((i:Int)+1)=(i:Int)+1:=aR (by omega) (by omega);rw[w2];by_cases h:i<c;·have hP:=hs.P (i:=(i:Int)) (j:=(i:Int)+1) (x:=1) (y:=1) (by omega) (by omega) (by omega) (by omega);have es:((s.1.1,s.1.2):Int×Int)=s.1:=rfl;have em:((s.2.1,(s.2.2.1,s.2.2.2)):Int×Int×List Int)=s.2:=rfl;rw[ct (dt (by omega)),es,em,w1,ct hP,kJ h,List.foldl_cons];exact ih (i+1) (chainS b s i) h (hs.join _ _ _ _) (by omega)
  ·rw[cf (df (by omega)),List.drop_of_length_le (by rw[List.length_range];omega)];rfl
def Pu{J:Type}{N:Nat}{b:List Int}(kk:List Int->Int->Int->Int->Int->Int->List Int->Int->Int->Option J)(t0 t1:Int){c:Nat}(hc:c<=4):∀(M i:Nat) (s:S),i<=c->Jd b ((c:Int)+1) s->c-i<M ->
  Z53L N kk M s.2.2.2 ((c:Int)+1) (i:Int) b s.1.1 s.1.2 t0 t1 s.2.1 s.2.2.1=kk (((List.range c).drop i).foldl (chainS b) s).2.2.2 ((c:Int)+1) t0 t1 s.2.1 s.2.2.1 b (((List.range c).drop i).foldl (chainS b) s).1.1 (((List.range c).drop i).foldl (chainS b) s).1.2:=by
 intro M;induction M with
 |zero=>intro i s _ _ h;omega
 |succ M ih =>
  intro i s hi hs hM;simp only[Z53L,Z54];have w1:ac ((i:Int)+1)=(i:Int)+1:=aR (by omega) (by omega);rw[w1];by_cases h:i<c;·have hP:=hs.P (i:=(i:Int)) (j:=(i:Int)+1) (x:=1) (y:=1) (by omega) (by omega) (by omega) (by omega);have es:((s.1.1,s.1.2):Int×Int)=s.1:=rfl;have em:((s.2.1,(s.2.2.1,s.2.2.2)):Int×Int×List Int)=s.2:=rfl;rw[ct (dt (by omega)),es,em,ct hP,kJ h,List.foldl_cons];exact ih (i+1) (chainS b s i) h (hs.join _ _ _ _) (by omega)
  ·rw[cf (df (by omega)),List.drop_of_length_le (by rw[List.length_range];omega)];rfl
def Pv{J:Type}{N:Nat}{b:List Int}(kk:List Int->Int->Int->Int->Int->List Int->Int->Int->Option J)(t0 t1:Int):∀(M i:Nat) (s:S),i<=4->Jd b 4 s->4-i<M ->
  Z43L N kk M s.2.2.2 (i:Int) b s.1.1 s.1.2 t0 t1 s.2.1 s.2.2.1=kk (((List.range 4).drop i).foldl (starS b) s).2.2.2 t0 t1 s.2.1 s.2.2.1 b (((List.range 4).drop i).foldl (starS b) s).1.1 (((List.range 4).drop i).foldl (starS b) s).1.2:=by
 intro M;induction M with
 |zero=>intro i s _ _ h;omega
 |succ M ih =>
  intro i s hi hs hM;simp only[Z43L,Z44];have w1:ac ((i:Int)+1)=((i+1:Nat):Int):=a8 (by rw[bn];omega);by_cases h:i<4;·have hP:=hs.P (i:=0) (j:=(i:Int)) (x:=1) (y:=1) (by omega) (by omega) (by omega) (by omega);have es:((s.1.1,s.1.2):Int×Int)=s.1:=rfl;have em:((s.2.1,(s.2.2.1,s.2.2.2)):Int×Int×List Int)=s.2:=rfl;rw[ct (dt (by omega)),es,em,w1,ct hP,kJ h,List.foldl_cons];exact ih (i+1) (starS b s i) h (hs.join _ _ _ _) (by omega)
  ·rw[cf (df (by omega)),List.drop_of_length_le (by rw[List.length_range];omega)];rfl
def Pw{b:List Int}{r:Int×Int}(h:b8 b r=true)(k:Int){n:Nat}(h1:1<=n)(h4:n<=4):∃q:Int,1<=q/\q<=4/\Jd b q (tree b r k n).1:=by
 have z:Jd b (n:Int) (r,aG.g (n:Int)):=Jd.zero h (by omega) (by omega);have c:∀c,Jd b (n:Int) (chainG b r n c):=λc=>Jd.chain (List.range c) z;unfold tree;split;·exact⟨n,by omega,by omega,(c _).join _ _ _ _⟩
 split
 ·split;·exact⟨n,by omega,by omega,(c _).join _ _ _ _⟩
  ·exact⟨n,by omega,by omega,(c _).join _ _ _ _⟩
 split;·exact⟨n,by omega,by omega,z⟩
 split;·exact⟨2,by omega,by omega,(Jd.zero h (by omega) (by omega)).join _ _ _ _⟩
 split;·exact⟨4,by omega,by omega,Jd.star _ (Jd.zero h (by omega) (by omega))⟩
 split;·exact⟨4,by omega,by omega,(((Jd.zero h (by omega) (by omega):Jd b 4 (r,aG.g 4)).join 0 1 1 1).join 1 2 2 1).join 2 3 1 1⟩
 split;·exact⟨3,by omega,by omega,(Jd.zero h (by omega) (by omega)).join _ _ _ _⟩
 ·exact⟨n,by omega,by omega,c _⟩
def facts{b:List Int}{r:Int×Int}{most:Int}(h:b8 b r=true)(h1:1<=most)(h4:most<=4):∃q:Int,1<=q/\q<=4/\Jd b q ((g b r most).1,(g b r most).2.1):=by have k0:=aw.keep (n:=11) h;have k1:=aw.keep (n:=most) k0;have rn:=aw.range (b:=b) (r:=(aw.g b r 11).1) (n:=most) h1 (by omega);obtain⟨q,h1,h2,h3⟩:=Pw k1 (Fw.spec_dTree.k2 (Fw.spec_dTree.k1 (aw.g b r 11).2 (1+(aw.g b (aw.g b r 11).1 most).2) most) most) (n:=(1+(aw.g b (aw.g b r 11).1 most).2).toNat) (by omega) (by omega);exact⟨q,h1,h2,h3⟩
def z7{J:Type}{N:Nat}(most k n:Int)(b:List Int)(r1 r2 t0 t1:Int)(kn:Int->Int->Int->List Int->Int->Int->Int->Int->Option J):Z7 N most k n b r1 r2 t0 t1 kn=kn most (k1 k n most) n b r1 r2 t0 t1:=by simp only[Z7,aD,k1];cases decide (4<=k)<;>cases decide (k<=6)<;>cases decide (n<2)<;>cases decide (k=7)<;>cases decide (most<2)<;>rfl
def z9{J:Type}{N:Nat}(most k n:Int)(b:List Int)(r1 r2 t0 t1:Int)(kn:Int->Int->List Int->Int->Int->Int->Int->Option J):Z9 N most k n b r1 r2 t0 t1 kn=kn (k2 k most) n b r1 r2 t0 t1:=by simp only[Z9,aD,k2];cases decide (k=8)<;>cases decide (most<4)<;>cases decide (k=9)<;>cases decide (k=10)<;>cases decide (most<3)<;>rfl
def uD{c:UInt8}{n:Nat}(h:n<=4):Nat.blt ((⟨#[c]⟩:ByteArray).size+(bW.g (n:Int)).size) 4611686018427387904=true:=by
 have e:(bW.g (n:Int)).size=(Lib.itoa (n:Int)).length:=by show(eE (Lib.itoa (n:Int))).size=_;exact Nz _
 have h2:=Lib.itoa_length_le (n:Int) (by omega) (by omega);refine Nat.ble_eq_true_of_le ?_;rw[e];show 1+_+1<=_;omega
def Px{n:Nat}(h:n<=4):bW.P (n:Int)=true:=by show dG (n:Int)=true;simp only[dG,Bool.and_eq_true,decide_eq_true_eq];omega
def Py{n:Nat}(h:n<=4):aG.P (n:Int)=true:=by simp only[aG.P,bE,Bool.and_eq_true,decide_eq_true_eq];omega
def rR{J:Type}{N:Nat}(hN:20<=N){b:List Int}{r:Int×Int}(h:b8 b r=true)(kd:Int){n:Nat}(h1:1<=n)(h4:n<=4)(hk:kd=4\/kd=5->2<=n)(t0 t1:Int)(kr:List Int->ByteArray->Int->Int->List Int->Int->Int->Option J) :
  Z10 N kd (n:Int) b r.1 r.2 t0 t1 kr=kr (tree b r kd n).1.2.2.2 (tree b r kd n).2 (tree b r kd n).1.2.1 (tree b r kd n).1.2.2.1 b (tree b r kd n).1.1.1 (tree b r kd n).1.1.2:=by
 have fm:bW.P (n:Int)=true:=Px h4;have fg:bW.g (n:Int)=bC n:=rfl;have zP:=Py h4;have zJ:Jd b (n:Int) (r,aG.g (n:Int)):=Jd.zero h (by omega) (by omega);have w2:ac ((n:Int)-2)=(n:Int)-2:=aR (by omega) (by omega);have w1:ac ((n:Int)-1)=(n:Int)-1:=aR (by omega) (by omega);have er:((r.1,r.2):Int×Int)=r:=rfl;have big:∀{V:Type} (hn:2<=n) (kn:List Int->Int->Int->List Int->Int->Int->Int->Int->Int->Int->Option V),Z20 N (aG.g (n:Int)).2.2 kd (n:Int) b r.1 r.2 t0 t1 (aG.g (n:Int)).1 (aG.g (n:Int)).2.1 kn =
   kn (chainG b r n (n-2)).2.2.2 kd (n:Int) b (chainG b r n (n-2)).1.1 (chainG b r n (n-2)).1.2 t0 t1 (n:Int) (n:Int):=by
  intro V hn kn;obtain⟨c,rfl⟩:∃c,n=c+2:=⟨n-2,by omega⟩;simp only[Z20,Z21,Z22,Z23];have e:((c+2:Nat):Int)=(c:Int)+2:=by omega
  rw[e]at zJ ⊢;refine(Pt kn t0 t1 kd (by omega) N 0 (r,aG.g ((c:Int)+2)) (Nat.zero_le _) zJ (by omega)).trans ?_;rw[List.drop_zero];unfold chainG;rw[e];rfl
 by_cases c4:kd=4
 ·have hn:=hk (.inl c4);have jc:Jd b (n:Int) (chainG b r n (n-2)):=Jd.chain _ zJ;have pj:=jc.P (i:=(n:Int)-2) (j:=(n:Int)-1) (x:=2) (y:=1) (by omega) (by omega) (by omega) (by omega);have em:(((n:Int),((n:Int),(chainG b r n (n-2)).2.2.2)):Int×Int×List Int)=(chainG b r n (n-2)).2:=by rw[show(chainG b r n (n-2)).2=((chainG b r n (n-2)).2.1,(chainG b r n (n-2)).2.2.1,(chainG b r n (n-2)).2.2.2)from rfl,jc.hn,jc.hr]
  have es:(((chainG b r n (n-2)).1.1,(chainG b r n (n-2)).1.2):Int×Int)=(chainG b r n (n-2)).1:=rfl;have et:tree b r kd n=(endB b (chainG b r n (n-2)) n 2 1,⟨#[66]⟩++bC n):=if_pos c4;have e1:(endB b (chainG b r n (n-2)) n 2 1).2.1=(n:Int):=jc.hn;have e2:(endB b (chainG b r n (n-2)) n 2 1).2.2.1=(n:Int):=jc.hr;have sz:=uD (c:=66) h4;rw[fg]at sz;simp only[Z10,Z11,Z12,Z13,Z14,Z15,Z16,Z17,Z18,Z19,aD,dt c4,zP,cond_true];rw[big hn];simp only[Z25,aD,dt c4,w1,w2,em,es,pj,fm,fg,sz,cond_true,gP,et,e1,e2];rfl
 by_cases c5:kd=5
 ·have hn:=hk (.inr c5);have jc:Jd b (n:Int) (chainG b r n (n-2)):=Jd.chain _ zJ;have pj:=jc.P (i:=(n:Int)-2) (j:=(n:Int)-1) (x:=2) (y:=1) (by omega) (by omega) (by omega) (by omega);have pj':=jc.P (i:=(n:Int)-2) (j:=(n:Int)-1) (x:=1) (y:=2) (by omega) (by omega) (by omega) (by omega);have em:(((n:Int),((n:Int),(chainG b r n (n-2)).2.2.2)):Int×Int×List Int)=(chainG b r n (n-2)).2:=by rw[show(chainG b r n (n-2)).2=((chainG b r n (n-2)).2.1,(chainG b r n (n-2)).2.2.1,(chainG b r n (n-2)).2.2.2)from rfl,jc.hn,jc.hr]
  have es:(((chainG b r n (n-2)).1.1,(chainG b r n (n-2)).1.2):Int×Int)=(chainG b r n (n-2)).1:=rfl;have e1:∀x y,(endB b (chainG b r n (n-2)) n x y).2.1=(n:Int):=λ_ _=>jc.hn;have e2:∀x y,(endB b (chainG b r n (n-2)) n x y).2.2.1=(n:Int):=λ_ _=>jc.hr;have sz:=uD (c:=66) h4;have sz':=uD (c:=67) h4;rw[fg]at sz sz';simp only[Z10,Z11,Z12,Z13,Z14,Z15,Z16,Z17,Z18,Z19,aD,df c4,dt c5,zP,cond_true,cond_false];rw[big hn];by_cases c2:n=2
  ·have et:tree b r kd n=(endB b (chainG b r n (n-2)) n 2 1,⟨#[66]⟩++bC n):=(if_neg c4).trans ((if_pos c5).trans (if_pos c2));have c2':(n:Int)=2:=by omega
   simp only[Z25,aD,df c4,dt c2',w1,w2,em,es,pj,fm,fg,sz,cond_true,cond_false,gP,et,e1,e2];rfl
  ·have et:tree b r kd n=(endB b (chainG b r n (n-2)) n 1 2,⟨#[67]⟩++bC n):=(if_neg c4).trans ((if_pos c5).trans (if_neg c2));have c2':¬ (n:Int)=2:=by omega
   simp only[Z25,aD,df c4,df c2',w1,w2,em,es,pj',fm,fg,sz',cond_true,cond_false,gP,et,e1,e2];rfl
 simp only[Z10,Z11,Z12,Z13,Z14,Z15,Z16,Z26,Z27,Z28,aD,df c4,df c5,cond_false];by_cases c6:kd=6;·have et:tree b r kd n=((r,aG.g (n:Int)),ones.getD n ByteArray.empty):=(if_neg c4).trans ((if_neg c5).trans (if_pos c6));have ib:ax (n:Int) ones.length=true:=aN (by show n<6;omega);simp only[ones]at ib;simp only[Z29,aD,dt c6,zP,ib,cond_true,gP,et,Int.toNat_natCast];rfl
 simp only[df c6,cond_false,Z30,Z31,Z32,aD];by_cases c7:kd=7;·have et:tree b r kd n=(a7.g b r (aG.g 2) 0 1 3 1,⟨#[71,50]⟩):=(if_neg c4).trans ((if_neg c5).trans ((if_neg c6).trans (if_pos c7)));have z2:Jd b 2 (r,aG.g 2):=Jd.zero h (by omega) (by omega);have pj:=z2.P (i:=0) (j:=1) (x:=3) (y:=1) (by omega) (by omega) (by omega) (by omega);have pz:aG.P 2=true:=rfl;simp only[Z33,aD,dt c7,pz,er,pj,cond_true,et];rfl
 simp only[df c7,cond_false,Z34,Z35,Z36,aD];have z4:Jd b 4 (r,aG.g 4):=Jd.zero h (by omega) (by omega);have pz4:aG.P 4=true:=rfl;by_cases c8:kd=8;·have et:tree b r kd n=(zD b r,⟨#[68,52]⟩):=(if_neg c4).trans ((if_neg c5).trans ((if_neg c6).trans ((if_neg c7).trans (if_pos c8))));have js:Jd b 4 (zD b r):=Jd.star _ z4;simp only[Z37,Z38,Z39,Z40,Z41,Z42,Z43,aD,dt c8,pz4,cond_true,et];refine(Pv _ t0 t1 N 1 (r,aG.g 4) (by omega) z4 (by omega)).trans ?_;simp only[Z45];rw[js.hn,js.hr];rfl
 simp only[df c8,cond_false,Z46,aD];by_cases c9:kd=9;·have et:tree b r kd n=(f3 b r,⟨#[70,52]⟩):=(if_neg c4).trans ((if_neg c5).trans ((if_neg c6).trans ((if_neg c7).trans ((if_neg c8).trans (if_pos c9)))));have ja:Jd b 4 (f1 b r):=z4.join _ _ _ _;have jb:Jd b 4 (f2 b r):=ja.join _ _ _ _;have p1:=z4.P (i:=0) (j:=1) (x:=1) (y:=1) (by omega) (by omega) (by omega) (by omega);have p2:=ja.P (i:=1) (j:=2) (x:=2) (y:=1) (by omega) (by omega) (by omega) (by omega);have p3:=jb.P (i:=2) (j:=3) (x:=1) (y:=1) (by omega) (by omega) (by omega) (by omega);have g1:a7.g b r (aG.g 4) 0 1 1 1=f1 b r:=rfl;have g2:a7.g b (f1 b r).1 (f1 b r).2 1 2 2 1=f2 b r:=rfl;have g3:a7.g b (f2 b r).1 (f2 b r).2 2 3 1 1=f3 b r:=rfl;have s1:(((aG.g 4).1,((aG.g 4).2.1,(f1 b r).2.2.2)):Int×Int×List Int)=(f1 b r).2:=rfl;have s2:(((aG.g 4).1,((aG.g 4).2.1,(f2 b r).2.2.2)):Int×Int×List Int)=(f2 b r).2:=rfl;simp only[aD,dt c9,pz4,er,p1,g1,s1,p2,g2,s2,p3,g3,cond_true,et];rfl
 simp only[df c9,cond_false];by_cases c10:kd=10;·have et:tree b r kd n=(a7.g b r (aG.g 3) 0 1 1 1,⟨#[65,49,32,65,50]⟩):=(if_neg c4).trans ((if_neg c5).trans ((if_neg c6).trans ((if_neg c7).trans ((if_neg c8).trans ((if_neg c9).trans (if_pos c10))))));have z3:Jd b 3 (r,aG.g 3):=Jd.zero h (by omega) (by omega);have pj:=z3.P (i:=0) (j:=1) (x:=1) (y:=1) (by omega) (by omega) (by omega) (by omega);have pz:aG.P 3=true:=rfl;simp only[aD,dt c10,pz,er,pj,cond_true,et];rfl
 have et:tree b r kd n=(chainG b r n (n-1),⟨#[65]⟩++bC n):=(if_neg c4).trans ((if_neg c5).trans ((if_neg c6).trans ((if_neg c7).trans ((if_neg c8).trans ((if_neg c9).trans (if_neg c10))))));have jc:Jd b (n:Int) (chainG b r n (n-1)):=Jd.chain _ zJ;have sz:=uD (c:=65) h4;rw[fg]at sz;simp only[df c10,cond_false,Z47,Z48,Z49,aD,zP,cond_true,et];obtain⟨c,rfl⟩:∃c,n=c+1:=⟨n-1,by omega⟩;simp only[Z50,Z51,Z52,Z53];have e:((c+1:Nat):Int)=(c:Int)+1:=by omega
 have hc:∀{V:Type} (kn:List Int->Int->Int->Int->Int->Int->List Int->Int->Int->Option V),Z53L N kn N (aG.g ((c+1:Nat):Int)).2.2 ((c+1:Nat):Int) 0 b r.1 r.2 t0 t1 (aG.g ((c+1:Nat):Int)).1 (aG.g ((c+1:Nat):Int)).2.1 =
   kn (chainG b r (c+1) c).2.2.2 ((c+1:Nat):Int) t0 t1 ((c+1:Nat):Int) ((c+1:Nat):Int) b (chainG b r (c+1) c).1.1 (chainG b r (c+1) c).1.2:=by
  intro V kn;rw[e]at zJ ⊢;refine(Pu kn t0 t1 (by omega) N 0 (r,aG.g ((c:Int)+1)) (Nat.zero_le _) zJ (by omega)).trans ?_;rw[List.drop_zero];unfold chainG;rw[e];rfl
 rw[hc];have hn1:(chainG b r (c+1) (c+1-1)).2.1=((c+1:Nat):Int):=jc.hn;have hr1:(chainG b r (c+1) (c+1-1)).2.2.1=((c+1:Nat):Int):=jc.hr;simp only[Z55,aD,fm,fg,sz,cond_true,gP,hn1,hr1];rfl
def ok:Spec:=λu b r most hb hp=>⟨20,λN hN=>by
 simp only[P,Bool.and_eq_true,cO]at hp;obtain⟨h,hm1,hm4⟩:=hp;have h0:=aw.keep (n:=11) h;have hh:=aw.keep (n:=most) h0;have p0:aw.P b r 11=true:=h;have p1:aw.P b (aw.g b r 11).1 most=true:=h0;have rk:=aw.range (b:=b) (r:=r) (n:=11) (by omega) (by omega);have rn:=aw.range (b:=b) (r:=(aw.g b r 11).1) (n:=most) hm1 (by omega);have er:((r.1,r.2):Int×Int)=r:=rfl;have e1:(((aw.g b r 11).1.1,(aw.g b r 11).1.2):Int×Int)=(aw.g b r 11).1:=rfl;have w1:ac (1+(aw.g b (aw.g b r 11).1 most).2)=1+(aw.g b (aw.g b r 11).1 most).2:=aR (by omega) (by omega);simp only[Z0,Z1,Z2,Z3,Z4,Z5,aD,er,p0,e1,p1,w1,cond_true,Z6,z7,Z8,z9];have eg:g b r most=((tree b (aw.g b (aw.g b r 11).1 most).1 (Fw.spec_dTree.k2 (Fw.spec_dTree.k1 (aw.g b r 11).2 (1+(aw.g b (aw.g b r 11).1 most).2) most) most) (1+(aw.g b (aw.g b r 11).1 most).2).toNat).1.1,
   (tree b (aw.g b (aw.g b r 11).1 most).1 (Fw.spec_dTree.k2 (Fw.spec_dTree.k1 (aw.g b r 11).2 (1+(aw.g b (aw.g b r 11).1 most).2) most) most) (1+(aw.g b (aw.g b r 11).1 most).2).toNat).1.2,
   (tree b (aw.g b (aw.g b r 11).1 most).1 (Fw.spec_dTree.k2 (Fw.spec_dTree.k1 (aw.g b r 11).2 (1+(aw.g b (aw.g b r 11).1 most).2) most) most) (1+(aw.g b (aw.g b r 11).1 most).2).toNat).2):=rfl
 rw[eg];generalize(aw.g b (aw.g b r 11).1 most).1=r2 at hh;generalize hq:1+(aw.g b (aw.g b r 11).1 most).2=q;obtain⟨n,rfl⟩:=Int.eq_ofNat_of_zero_le (show 0<=q by omega);have hk:Fw.spec_dTree.k2 (Fw.spec_dTree.k1 (aw.g b r 11).2 (n:Int) most) most=4\/Fw.spec_dTree.k2 (Fw.spec_dTree.k1 (aw.g b r 11).2 (n:Int) most) most=5->2<=n:=by
  intro hx;by_cases h2:2<=n;·exact h2
  ·exfalso;generalize(aw.g b r 11).2=k at rk hx;have:¬ ((decide (4<=k)&&(decide (k<=6)&&decide ((n:Int)<2)))||(decide (k=7)&&decide (most<2)))=true->¬ (4<=k/\k<=6):=by simp;omega
   unfold Fw.spec_dTree.k2 Fw.spec_dTree.k1 at hx;by_cases hb:((decide (4<=k)&&(decide (k<=6)&&decide ((n:Int)<2)))||(decide (k=7)&&decide (most<2)))=true;·rw[hb]at hx;simp at hx
   ·have hb':=this hb;simp only[Bool.not_eq_true]at hb;rw[hb]at hx;simp only[cond_false]at hx;cases hc:((decide (k=8)&&decide (most<4))||((decide (k=9)&&decide (most<4))||(decide (k=10)&&decide (most<3))))<;>rw[hc]at hx<;>simp at hx<;>omega
 rw[rR (by omega) hh _ (by omega) (by omega) hk];rw[Int.toNat_natCast]⟩
end spec_dTree
end
end Go.Fw
namespace Go.Fw
def Kn(t:Int×Int×List Int)(name:ByteArray):Prop:=∃(n:Int) (E:List (UInt8×Nat)) (S:List (Int×Int×List Int)),zB n E S/\dB n S t t/\gZ (bO t)=true/\jJ E=name
def gv{E:List (UInt8×Nat)}{ds:List Int}{n:Nat}{es:List (Nat×Nat×Int×Int)}(h:ft E ds n es=true)(h0:(gb es [aG.g (n:Int)]).getD 0 z3∈gb es [aG.g (n:Int)]){t:Int×Int×List Int}(ht:t∈gb es [aG.g (n:Int)]){name:ByteArray}(hn:jJ E=name):Kn t name:=by obtain⟨S,hS,hh⟩:=O9 h h0;obtain⟨h1,h2⟩:=hh t ht;exact⟨n,E,S,hS,h1,h2,hn⟩
def jg(c:UInt8)(l:Nat):jJ [(c,l)]=cK c++bC (l:Int):=by have e:cZ [cK c++bC (l:Int)]=[cK c++bC (l:Int)]:=List.perm_singleton.1 (lQ _);show pi (cZ [cK c++bC (l:Int)])=_;rw[e,pi,List.map_cons,List.map_nil,Lib.join_one]
def rS{l:Nat}(h:l<10):bC (l:Int)=⟨#[UInt8.ofNat (48+l)]⟩:=by unfold bC Lib.itoa;rw[if_neg (by omega),Int.toNat_natCast,Lib.decDigits,dif_pos h]
def Fg:∀(es fs:List (Nat×Nat×Int×Int)) (ts:List (Int×Int×List Int)),gb (es++fs) ts=gb fs (gb es ts)
 |[],_,_=>rfl
 | (i,j,a,c)::es,fs,ts=>Fg es fs _
def Fh{b:List Int}:∀(l:List Nat) {s:spec_dTree.S}{ts:List (Int×Int×List Int)},s.2∈ts->(l.foldl (spec_dTree.chainS b) s).2∈gb (l.map λi=>(i,i+1,1,1)) ts
 |[],_,_,h=>h
 |i::l,s,ts,h=>Fh l (s:=spec_dTree.chainS b s i) (lT h (dv.g b s.1 2).2 i (i+1) 1 1)
def Fi{b:List Int}:∀(l:List Nat) {s:spec_dTree.S}{ts:List (Int×Int×List Int)},s.2∈ts->(l.foldl (spec_dTree.starS b) s).2∈gb (l.map λi=>(0,i,1,1)) ts
 |[],_,_,h=>h
 |i::l,s,ts,h=>Fi l (s:=spec_dTree.starS b s i) (lT h (dv.g b s.1 2).2 0 i 1 1)
def rT{b:List Int}{r:Int×Int}(n c:Nat):(spec_dTree.chainG b r n c).2∈gb (jL c) [aG.g (n:Int)]:=Fh (List.range c) (by simp)
def rU{b:List Int}{r:Int×Int}(c:Nat)(x y:Int):(spec_dTree.endB b (spec_dTree.chainG b r (c+2) c) (c+2) x y).2∈gb (jL c++[(c,c+1,x,y)]) [aG.g ((c+2:Nat):Int)]:=by
 rw[Fg];have e1:((c+2:Nat):Int)-2=(c:Int):=by omega
 have e2:((c+2:Nat):Int)-1=((c+1:Nat):Int):=by omega
 have:=lT (rT (b:=b) (r:=r) (c+2) c) (dv.g b (spec_dTree.chainG b r (c+2) c).1 2).2 c (c+1) x y;unfold spec_dTree.endB a7.g;rw[e1,e2];exact this
def uE:jJ [(65,1),(65,1)]=spec_dTree.ones.getD 2 ByteArray.empty/\jJ [(65,1),(65,1),(65,1)]=spec_dTree.ones.getD 3 ByteArray.empty/\jJ [(65,1),(65,1),(65,1),(65,1)]=spec_dTree.ones.getD 4 ByteArray.empty/\jJ [(65,1),(65,2)]=⟨#[65,49,32,65,50]⟩:=by have e1:bC ((1:Nat):Int)=⟨#[49]⟩:=rS (by omega);have e2:bC ((2:Nat):Int)=⟨#[50]⟩:=rS (by omega);refine⟨?_, ?_, ?_, ?_⟩<;>(unfold jJ;rw[<-zz];simp only[List.map_cons,List.map_nil,e1,e2];decide +kernel)
def Pz{b:List Int}{r:Int×Int}{k:Int}{n:Nat}(h1:1<=n)(h4:n<=4)(hk:4<=k->k<=6->2<=n):Kn (spec_dTree.tree b r k n).1.2 (spec_dTree.tree b r k n).2:=by
 have cB:cK 66=⟨#[66]⟩:=rfl;have cC:cK 67=⟨#[67]⟩:=rfl;have cA:cK 65=⟨#[65]⟩:=rfl;have bB:2<=n->Kn (spec_dTree.endB b (spec_dTree.chainG b r n (n-2)) n 2 1).2 (⟨#[66]⟩++bC (n:Int)):=λh2=>by
  have:n=0+2\/n=1+2\/n=2+2:=by omega
  rcases this with rfl|rfl|rfl;·exact gv Pf (by decide +kernel) (rU 0 2 1) (jg 66 2)
  ·exact gv Pg (by decide +kernel) (rU 1 2 1) (jg 66 3)
  ·exact gv Ph (by decide +kernel) (rU 2 2 1) (jg 66 4)
 unfold spec_dTree.tree;by_cases k4:k=4;·rw[if_pos k4];exact bB (hk (by omega) (by omega))
 rw[if_neg k4];by_cases k5:k=5
 ·rw[if_pos k5];by_cases n2:n=2;·rw[if_pos n2];exact bB (by omega)
  ·rw[if_neg n2];have:=hk (by omega) (by omega);have:n=1+2\/n=2+2:=by omega
   rcases this with rfl|rfl;·exact gv Pi (by decide +kernel) (rU 1 1 2) (jg 67 3)
   ·exact gv Pj (by decide +kernel) (rU 2 1 2) (jg 67 4)
 rw[if_neg k5];by_cases k6:k=6
 ·rw[if_pos k6];have:=hk (by omega) (by omega);have:n=2\/n=3\/n=4:=by omega
  rcases this with rfl|rfl|rfl;·exact gv Pk (by decide +kernel) List.mem_cons_self uE.1
  ·exact gv Pl (by decide +kernel) List.mem_cons_self uE.2.1
  ·exact gv Pm (by decide +kernel) List.mem_cons_self uE.2.2.1
 rw[if_neg k6];by_cases k7:k=7;·rw[if_pos k7];refine gv Pn (by decide +kernel) (lT (ts:=[aG.g ((2:Nat):Int)]) List.mem_cons_self (dv.g b r 2).2 0 1 3 1) ?_;rw[jg,rS (by omega)];rfl
 rw[if_neg k7];by_cases k8:k=8;·rw[if_pos k8];refine gv Po (by decide +kernel) (Fi [1,2,3] (s:=(r,aG.g 4)) (ts:=[aG.g ((4:Nat):Int)]) List.mem_cons_self) ?_;rw[jg,rS (by omega)];rfl
 rw[if_neg k8];by_cases k9:k=9;·rw[if_pos k9];have m1:=lT (ts:=[aG.g ((4:Nat):Int)]) List.mem_cons_self (dv.g b r 2).2 0 1 1 1;have m2:=lT m1 (dv.g b (spec_dTree.f1 b r).1 2).2 1 2 2 1;have m3:=lT m2 (dv.g b (spec_dTree.f2 b r).1 2).2 2 3 1 1;refine gv Pp (by decide +kernel) m3 ?_;rw[jg,rS (by omega)];rfl
 rw[if_neg k9];by_cases k10:k=10;·rw[if_pos k10];exact gv Pq (by decide +kernel) (lT (ts:=[aG.g ((3:Nat):Int)]) List.mem_cons_self (dv.g b r 2).2 0 1 1 1) uE.2.2.2
 rw[if_neg k10];have:n=1\/n=2\/n=3\/n=4:=by omega
 rcases this with rfl|rfl|rfl|rfl;·exact gv Pb (by decide +kernel) (rT (b:=b) (r:=r) 1 0) (jg 65 1)
 ·exact gv Pc (by decide +kernel) (rT (b:=b) (r:=r) 2 1) (jg 65 2)
 ·exact gv Pd (by decide +kernel) (rT (b:=b) (r:=r) 3 2) (jg 65 3)
 ·exact gv Pe (by decide +kernel) (rT (b:=b) (r:=r) 4 3) (jg 65 4)
def PA{b:List Int}{r:Int×Int}{most:Int}(h1:1<=most)(h4:most<=4):Kn (spec_dTree.g b r most).2.1 (spec_dTree.g b r most).2.2:=by
 have rn:=aw.range (b:=b) (r:=(aw.g b r 11).1) (n:=most) h1 (by omega);refine Pz (b:=b) (n:=(1+(aw.g b (aw.g b r 11).1 most).2).toNat) (by omega) (by omega) λha hb=>?_;revert ha hb;generalize(aw.g b r 11).2=k;generalize(aw.g b (aw.g b r 11).1 most).2=n at rn ⊢;intro ha hb;unfold spec_dTree.k2 spec_dTree.k1 at ha hb;refine Classical.byContradiction λhc=>?_;by_cases q:4<=k/\k<=6;·rw[dt q.1,dt q.2,dt (show 1+n<2 by omega)]at ha hb;simp at ha hb
 ·have e:(decide (4<=k)&&(decide (k<=6)&&decide (1+n<2)))=false:=by simp only[Bool.and_eq_false_iff,decide_eq_false_iff_not];omega
  rw[e,Bool.false_or]at ha hb;revert ha hb;cases(decide (k=7)&&decide (most<2))<;>simp only[cond_true,cond_false]<;>(generalize((_:Bool)||_)=q;cases q<;>simp only[cond_true,cond_false]<;>intros<;>omega)
end Go.Fw
namespace Go.Fw
section
variable {J : Type}
namespace kW
def g(b:List Int):Bool:=decide (1048576<(b.length:Int))
def Z0{J:Type}(N:Nat)(a:List Int)(kr:Bool->Option J):Option J :=
 kr (lk N (decide (1048576<(a.length:Int))))
def Spec:Prop:=∀ (v0:List Int),Ty.bd (.sl 0 (.int .u8)) v0->∃N0,∀N,N0<=N->Z0 N v0 (λv2=>some ((),(v2,())))=some ((),((g v0),()))
def ok:Spec:=λb hb=>⟨0,λN hN=>by simp only[Z0,aD,g]⟩
end kW
namespace bP
def uF(h x:Int):Int:=fC .and .i64 (ac (ac (ac (h*131)+ac x)+7)) 1073741823
def g(b:List Int):Int×Int:=(0,(b.take 4000).foldl uF (ac (124929+(b.length:Int))))
def Z1{J:Type}(N:Nat)(a:List Int)(kn:List Int->Option J):Option J :=
 kn a
def Z3{J:Type}(N:Nat)(a:List Int)(kn:List Int->Int->Option J):Option J :=
 kn a (ac (124929+(a.length:Int)))
def Z6{J:Type}(N:Nat)(a:List Int)(b:Int)(kn:List Int->I2 (Option J)):Option J :=
 kn a b 0
def Z9{J:Type}(N:Nat)(a:List Int)(c b:Int)(kn:List Int->I2 (Option J))(k0:List Int->Int->Option J):Option J :=
 cond (lk N (decide (b<(a.length:Int))))
 (
  cond (lk N (decide (b<4000)))
  (
   cond (lk N (ax b a.length)) (
    kn a (fC .and .i64 (ac ((ac ((ac (c*131))+(ac ((a.getD b.toNat 0)))))+7)) 1073741823) (ac (b+1))) none)
  (
   k0 a c))
 (
  k0 a c)
def Z8L{J:Type}(N:Nat)(k0:List Int->Int->Option J):Nat->List Int->Int->Int->Option J
 |0,_,_,_=>none
 |M+1,a,b,c=>Z9 N a b c (λa b c=>Z8L N k0 M a b c) k0
def Z8 N a b c k0:=(Z8L N k0 N a b c:Option J)
def Z7 N a b c kn:=(Z8 N a b c kn:Option J)
def Z5 N a b kn:=(Z6 N a b (λa b c=>Z7 N a b c kn):Option J)
def Z10{J:Type}(N:Nat)(a:List Int)(b:Int)(kr:List Int->I2 (Option J)):Option J :=
 kr a 0 b
def Z4 N a b kr:=(Z5 N a b (λa b=>Z10 N a b kr):Option J)
def Z2 N a kr:=(Z3 N a (λa b=>Z4 N a b kr):Option J)
def Z0 N a kr:=(Z1 N a (λa=>Z2 N a kr):Option J)
def Spec:Prop:=∀{U:Type} (u:U) (v0:List Int),Ty.bd (.sl 0 (.int .u8)) v0->∃N0,∀N,N0<=N->Z0 N v0 (λv31_0 v31_1 v31_2=>some (u,(v31_1,v31_2)))=some (u,(g v0))
def loop{J:Type}{N:Nat}(b:List Int)(k0:List Int->Int->Option J):∀(M i:Nat) (h:Int),i<=(b.take 4000).length->(b.take 4000).length-i<M ->
  Z8L N k0 M b h (i:Int)=k0 b (((b.take 4000).drop i).foldl uF h):=by
 intro M;induction M with
 |zero=>intro i h _ hM;omega
 |succ M ih =>
  intro i h hi hM;have hL:(b.take 4000).length=min 4000 b.length:=List.length_take;simp only[Z8L,Z9];by_cases hl:i<(b.take 4000).length
  ·have hlt:i<b.length:=by omega
   have hge:(b.take 4000).getD i 0=b.getD i 0:=by rw[List.getD_eq_getElem?_getD,List.getD_eq_getElem?_getD,List.getElem?_take,if_pos (by omega)]
   rw[ct (dt (by omega)),ct (dt (by omega)),ct (aN hlt),Int.toNat_natCast,fb (l:=b.take 4000) 0 hl,hge,a8 (by rw[bn];omega)];exact ih (i+1) _ hl (by omega)
  ·rw[List.drop_of_length_le (by omega)];by_cases hlt:i<b.length;·rw[ct (dt (by omega)),cf (df (by omega))];rfl
   ·rw[cf (df (by omega))];rfl
def ok:Spec:=λu b hb=>⟨5000,λN hN=>by simp only[Z0,Z1,Z2,Z3,Z4,Z5,Z6,Z7,Z8];refine(loop b _ N 0 _ (Nat.zero_le _) (by rw[List.length_take];omega)).trans ?_;rw[List.drop_zero];rfl⟩
end bP
namespace hJ
def g(n low high:Int):Bool:=bE n low high
def Z0{J:Type}(N:Nat)(a b c:Int)(kr:Bool->Option J):Option J :=
 cond (lk N (decide (b<=a)))
 (
  kr (lk N (decide (a<=c))))
 (
  kr false)
def Spec:Prop:=∀ (v0 v1 v2:Int),∃N0,∀N,N0<=N->Z0 N v0 v1 v2 (λv6=>some ((),(v6,())))=some ((),((g v0 v1 v2),()))
def ok:Spec:=λn low high=>⟨0,λN hN=>by simp only[Z0,aD,g,bE];cases decide (low<=n)<;>rfl⟩
end hJ
namespace ck
def g(m:Int×Int×List Int):Bool:=aP m
def Z1{J:Type}(N:Nat)(a:MT)(kn:I2 (LI->Option J)):Option J :=
 kn a.1 a.2.1 a.2.2
def Z3{J:Type}(N:Nat)(a b:Int)(c:LI)(kn:I2 (LI->Option J))(kr:Bool->Option J):Option J :=
 cond (!(lk N ((hJ.g a 1 5))))
 (
  kr false)
 (
  cond (!(lk N ((hJ.g b a 8))))
  (
   kr false)
  (
   cond (lk N (!(decide ((c.length:Int)=(ac (a*b))))))
   (
    kr false)
   (
    kn a b c)))
def Z6{J:Type}(N:Nat)(a b:Int)(c:LI)(kn:I3 (LI->Option J)):Option J :=
 kn 0 a b c
def Z9{J:Type}(N:Nat)(b c d:Int)(a:LI)(kn:I3 (LI->Option J))(k0:I2 (LI->Option J))(kr:Bool->Option J):Option J :=
 cond (lk N (decide (b<(a.length:Int))))
 (
  cond (lk N (ax b a.length)) (
   cond (!(lk N ((hJ.g (a.getD b.toNat 0) (-99) 99))))
   (
    kr false)
   (
    kn (ac (b+1)) c d a)) none)
 (
  k0 c d a)
def Z8L{J:Type}(N:Nat)(k0:I2 (LI->Option J))(kr:Bool->Option J):Nat->Int->Int->Int->LI->Option J
 |0,_,_,_,_=>none
 |M+1,a,b,c,d=>Z9 N a b c d (λa b c d=>Z8L N k0 kr M a b c d) k0 kr
def Z8 N a b c d k0 kr:=(Z8L N k0 kr N a b c d:Option J)
def Z7 N a b c d kn kr:=(Z8 N a b c d kn kr:Option J)
def Z5 N a b c kn kr:=(Z6 N a b c (λd a b c=>Z7 N d a b c kn kr):Option J)
def Z12{J:Type}(N:Nat)(a b:Int)(c:LI)(kn:I3 (LI->Option J)):Option J :=
 kn 0 a b c
def Z16{J:Type}(N:Nat)(a b c:Int)(d:LI)(kn:I3 (LI->Option J))(k2:Option J):Option J :=
 cond (lk N (decide (a<b)))
 (
  kn a b c d)
 (
  k2)
def Z20{J:Type}(N:Nat)(a b c:Int)(d:LI)(kn:I4 (LI->Option J)):Option J :=
 kn a 0 b c d
def Z23{J:Type}(N:Nat)(b c a d:Int)(e:LI)(kn:I4 (LI->Option J))(k4:I3 (LI->Option J))(kr:Bool->Option J):Option J :=
 cond (lk N (decide (c<a)))
 (
  cond (lk N (bJ.P (a,(d,e)) b c)) (
   cond (lk N (bJ.P (a,(d,e)) c b)) (
    cond (lk N (!(((lk N (decide (0<(bJ.g (a,(d,e)) b c)))) == (lk N (decide ((bJ.g (a,(d,e)) c b)<0)))))))
    (
     kr false)
    (
     cond (lk N (!(((lk N (decide ((bJ.g (a,(d,e)) b c)=0))) == (lk N (decide ((bJ.g (a,(d,e)) c b)=0)))))))
     (
      kr false)
     (
      kn b (ac (c+1)) a d e))) none) none)
 (
  k4 b a d e)
def Z22L{J:Type}(N:Nat)(k4:I3 (LI->Option J))(kr:Bool->Option J):Nat->Int->Int->Int->Int->LI->Option J
 |0,_,_,_,_,_=>none
 |M+1,a,b,c,d,e=>Z23 N a b c d e (λa b c d e=>Z22L N k4 kr M a b c d e) k4 kr
def Z22 N a b c d e k4 kr:=(Z22L N k4 kr N a b c d e:Option J)
def Z21 N a b c d e kn kr:=(Z22 N a b c d e kn kr:Option J)
def Z19 N a b c d kn kr:=(Z20 N a b c d (λa e b c d=>Z21 N a e b c d kn kr):Option J)
def Z18 N a b c d kn kr:=(Z19 N a b c d kn kr:Option J)
def Z24{J:Type}(N:Nat)(a b c:Int)(d:LI)(kn:I3 (LI->Option J)):Option J :=
 kn (ac (a+1)) b c d
def Z17 N a b c d kn kr:=(Z18 N a b c d (λa b c d=>Z24 N a b c d kn) kr:Option J)
def Z15 N a b c d kn k2 kr:=(Z16 N a b c d (λa b c d=>Z17 N a b c d kn kr) k2:Option J)
def Z14L{J:Type}(N:Nat)(k2:Option J)(kr:Bool->Option J):Nat->Int->Int->Int->LI->Option J
 |0,_,_,_,_=>none
 |M+1,a,b,c,d=>Z15 N a b c d (λa b c d=>Z14L N k2 kr M a b c d) k2 kr
def Z14 N a b c d k2 kr:=(Z14L N k2 kr N a b c d:Option J)
def Z13 N a b c d kn kr:=(Z14 N a b c d kn kr:Option J)
def Z11 N a b c kn kr:=(Z12 N a b c (λd a b c=>Z13 N d a b c kn kr):Option J)
def Z25{J:Type}(N:Nat) (kr:Bool->Option J):Option J :=
 kr true
def Z10 N a b c kr:=(Z11 N a b c (Z25 N kr) kr:Option J)
def Z4 N a b c kr:=(Z5 N a b c (λa b c=>Z10 N a b c kr) kr:Option J)
def Z2 N a b c kr:=(Z3 N a b c (λa b c=>Z4 N a b c kr) kr:Option J)
def Z0 N a kr:=(Z1 N a (λb c d=>Z2 N b c d kr):Option J)
def Spec:Prop:=∀ (v0:MT),Ty.bd (.pair (.int .i64) (.pair (.int .i64) (.sl 0 (.int .i64)))) v0->∃N0,∀N,N0<=N->Z0 N v0 (λv2=>some ((),(v2,())))=some ((),((g v0),()))
section
variable {J : Type} {N : Nat} {m : Int × Int × List Int}
def at_g(hd:0<=m.1)(a b:Nat):bJ.g (m.1,(m.2.1,m.2.2)) (a:Int) (b:Int)=af m a b:=iS hd a b
def at_p(hd:aO m=true){a b:Nat}(ha:a<m.1.toNat)(hb:b<m.1.toNat):bJ.P (m.1,(m.2.1,m.2.2)) (a:Int) (b:Int)=true:=by obtain⟨n,r,hn,hr,hn1,hn5,hnr,hr8,hl⟩:=aU hd;exact iU hd (by omega) hb
def loop1(hl:m.2.2.length<=maxLen)(k0:Int->Int->List Int->Option J)(kr:Bool->Option J):∀(M j:Nat),j<=m.2.2.length->m.2.2.length-j<M ->
  Z8L N k0 kr M (j:Int) m.1 m.2.1 m.2.2=cond (lH (m.2.2.drop j)) (k0 m.1 m.2.1 m.2.2) (kr false):=by
 intro M;induction M with
 |zero=>intro j _ h;omega
 |succ M ih =>
  intro j hj hM;simp only[Z8L,Z9];by_cases h:j<m.2.2.length;·rw[ct (dt (by omega)),ct (aN h),Int.toNat_natCast,a8 (by omega),fb 0 h,lH,List.all_cons,ih (j+1) h (by omega)];simp only[aD,hJ.g];cases bE (m.2.2.getD j 0) (-99) 99<;>rfl
  ·rw[cf (df (by omega)),List.drop_of_length_le (by omega)];rfl
def loop3(hd:aO m=true)(k4:Int->Int->Int->List Int->Option J)(kr:Bool->Option J){i:Nat}(hi:i<m.1.toNat):∀(M j:Nat),j<=m.1.toNat->m.1.toNat-j<M ->
  Z22L N k4 kr M (i:Int) (j:Int) m.1 m.2.1 m.2.2=cond (((List.range m.1.toNat).drop j).all λj=>dA (af m i j) (af m j i)) (k4 (i:Int) m.1 m.2.1 m.2.2) (kr false):=by
 obtain⟨n,r,hn,hr,hn1,hn5,hnr,hr8,hl⟩:=aU hd;intro M;induction M with
 |zero=>intro j _ h;omega
 |succ M ih =>
  intro j hj hM;simp only[Z22L,Z23];by_cases h:j<m.1.toNat;·rw[ct (dt (by omega)),ct (at_p hd hi h),ct (at_p hd h hi),kJ h,List.all_cons,a8 (by rw[bn];omega),ih (j+1) h (by omega)];have hA:bJ.g (m.1,(m.2.1,m.2.2)) (i:Int) (j:Int)=af m i j:=at_g (by omega) _ _;have hB:bJ.g (m.1,(m.2.1,m.2.2)) (j:Int) (i:Int)=af m j i:=at_g (by omega) _ _;simp only[aD,hA,hB,dA];cases(decide (0<af m i j) == decide (af m j i<0))<;>cases(decide (af m i j=0) == decide (af m j i=0))<;>rfl
  ·rw[cf (df (by omega)),List.drop_of_length_le (by simp;omega)];rfl
def loop2(hN:10<=N)(hd:aO m=true)(k2:Option J)(kr:Bool->Option J):∀(M i:Nat),i<=m.1.toNat->m.1.toNat-i<M ->
  Z14L N k2 kr M (i:Int) m.1 m.2.1 m.2.2=cond (((List.range m.1.toNat).drop i).all λi=>(List.range m.1.toNat).all λj=>dA (af m i j) (af m j i)) k2 (kr false):=by
 obtain⟨n,r,hn,hr,hn1,hn5,hnr,hr8,hl⟩:=aU hd;intro M;induction M with
 |zero=>intro i _ h;omega
 |succ M ih =>
  intro i hi hM;simp only[Z14L,Z15,Z16];by_cases h:i<m.1.toNat;·rw[ct (dt (by omega))];simp only[Z17,Z18,Z19,Z20,Z21,Z22];have h3:=loop3 (J:=J) (N:=N) hd (λa b c d=>Z24 N a b c d (λa b c d=>Z14L N k2 kr M a b c d)) kr h N 0 (by omega) (by omega);rw[show((0:Nat):Int)=0 from rfl]at h3;rw[h3,kJ h,List.all_cons,List.drop_zero];simp only[Z24];rw[a8 (by rw[bn];omega),ih (i+1) h (by omega)];cases((List.range m.1.toNat).all λj=>dA (af m i j) (af m j i))<;>rfl
  ·rw[cf (df (by omega)),List.drop_of_length_le (by simp;omega)];rfl
end
def ok:Spec:=λm hb=>⟨m.2.2.length+10,λN hN=>by
 have hlen:m.2.2.length<=maxLen:=hb.2.2.1;simp only[Z0,Z1,Z2,Z3,hJ.g,g,aP,aX];have rR:aO m=true->Z4 N m.1 m.2.1 m.2.2 (λt=>some ((),(t,())))=some ((),((lH m.2.2&&(List.range m.1.toNat).all λi=>(List.range m.1.toNat).all λj=>dA (af m i j) (af m j i)),())):=by intro hd;obtain⟨n,r,hn,hr,hn1,hn5,hnr,hr8,hl⟩:=aU hd;simp only[Z4,Z5,Z6,Z7,Z8];have h1:=loop1 (N:=N) hlen (λa b c=>Z10 N a b c (λt=>some ((),(t,())))) (λt=>some ((),(t,()))) N 0 (by omega) (by omega);rw[show((0:Nat):Int)=0 from rfl]at h1;rw[h1,List.drop_zero];simp only[Z10,Z11,Z12,Z13,Z14,Z25];have h2:=loop2 (N:=N) (by omega) hd (some ((),(true,()))) (λt=>some ((),(t,()))) N 0 (by omega) (by omega);rw[show((0:Nat):Int)=0 from rfl]at h2;rw[h2,List.drop_zero];cases lH m.2.2<;>cases((List.range m.1.toNat).all λi=>(List.range m.1.toNat).all λj=>dA (af m i j) (af m j i))<;>rfl
 cases h1:bE m.1 1 5;·rw[aO,h1];simp[aD]
 cases h2:bE m.2.1 m.1 8;·rw[aO,h1,h2];simp[aD]
 have e1:=cO.1 h1;have e2:=cO.1 h2;have e3:0<=m.1*m.2.1:=Int.mul_nonneg (by omega) (by omega);have e4:m.1*m.2.1<=5*8:=Int.mul_le_mul (by omega) (by omega) (by omega) (by omega);rw[aR (by omega) (by omega)];by_cases h3:(m.2.2.length:Int)=m.1*m.2.1
 ·have hd:aO m=true:=by rw[aO,h1,h2,dt h3];rfl
  rw[fV (by simp[aD]),fV (by simp[aD]),cf (nf h3),rR hd,hd];rfl
 ·have hd:aO m=false:=by rw[aO,h1,h2,df h3];rfl
  rw[fV (by simp[aD]),fV (by simp[aD]),ct (nt h3),hd];rfl⟩
end ck
namespace kX
def g(m:Int×Int×List Int):Bool:=aP m&&!decide (ba m=[])
def Z0{J:Type}(N:Nat)(a:MT)(kr:Bool->Option J):Option J :=
 cond (!(lk N ((ck.g a))))
 (
  kr false)
 (
  cond (lk N (aV.P a)) (
   kr (lk N ((aV.g a).2))) none)
def Spec:Prop:=∀ (v0:MT),Ty.bd (.pair (.int .i64) (.pair (.int .i64) (.sl 0 (.int .i64)))) v0->∃N0,∀N,N0<=N->Z0 N v0 (λv2=>some ((),(v2,())))=some ((),((g v0),()))
def ok:Spec:=λm hb=>⟨0,λN hN=>by simp only[Z0,aD,g,ck.g,aV.P,aV.g];cases aP m<;>rfl⟩
end kX
namespace jr
def P(a:List Int):Bool:=decide (a.length<1099511627776)
abbrev g(a:List Int):List Int:=a
def Z0{J:Type}(N:Nat)(a:LI)(kr:LI->Option J):Option J :=
 cond (lk N (Nat.blt (([]:List Int).length+a.length) 1099511627776)) (
  kr (([]:List Int)++a)) none
def Spec:Prop:=∀ (v0:LI),Ty.bd (.sl 0 (.int .i64)) v0->P v0=true->∃N0,∀N,N0<=N->Z0 N v0 (λv2=>some ((),(v2,())))=some ((),((g v0),()))
def ok:Spec:=λa hb hp=>⟨0,λN hN=>by
 have hl:a.length<1099511627776:=by simpa[P]using hp
 have hc:Nat.blt (([]:List Int).length+a.length) 1099511627776=true:=by simpa using hl
 simp only[Z0,aD,g,hc,cond_true,List.nil_append]⟩
end jr
namespace fO
def P(m:Int×Int×List Int):Bool:=jr.P m.2.2
abbrev g(m:Int×Int×List Int):Int×Int×List Int:=m
def Z0{J:Type}(N:Nat)(a:MT)(kr:LI->I2 (Option J)):Option J :=
 cond (lk N (jr.P a.2.2)) (
  kr (jr.g a.2.2) a.1 a.2.1) none
def Spec:Prop:=∀ (v0:MT),Ty.bd (.pair (.int .i64) (.pair (.int .i64) (.sl 0 (.int .i64)))) v0->P v0=true->∃N0,∀N,N0<=N->Z0 N v0 (λv2_2 v2_0 v2_1=>some ((),((v2_0,(v2_1,v2_2)),())))=some ((),((g v0),()))
def ok:Spec:=λm hb hp=>⟨0,λN hN=>by simp only[Z0];exact ct (show jr.P m.2.2=true from hp)⟩
end fO
namespace bQ
def P(m:Int×Int×List Int)(k:Int):Bool:=aX m&&(decide (0<=k)&&decide (k<m.1))
def g(m:Int×Int×List Int)(k:Int):Int×Int×List Int:=bf m k.toNat
def Z1{J:Type}(N:Nat)(a:MT)(b:Int)(kn:I3 (LI->I2 (Option J))):Option J :=
 kn b a.1 a.2.1 a.2.2 0 0
def Z3{J:Type}(N:Nat)(d a b:Int)(c:LI)(e f:Int)(kn:LI->I3 (LI->I4 (Option J))):Option J :=
 cond (lk N (fO.P (a,(b,c)))) (
  kn (fO.g (a,(b,c))).2.2 d a b c e f (fO.g (a,(b,c))).1 (fO.g (a,(b,c))).2.1) none
def Z6{J:Type}(N:Nat)(a:LI)(b c d:Int)(e:LI)(f g h i:Int)(kn:LI->I4 (LI->I4 (Option J))):Option J :=
 kn a b 0 c d e f g h i
def Z10{J:Type}(N:Nat)(a:LI)(h b i c:Int)(j:LI)(d e f g:Int)(kn:LI->I4 (LI->I4 (Option J)))(k0:LI->I4 (Option J)):Option J :=
 cond (lk N (decide (b<c)))
 (
  kn a h b i c j d e f g)
 (
  k0 a d e f g)
def Z14{J:Type}(N:Nat)(a:LI)(b c d e:Int)(f:LI)(g h i j:Int)(kn:LI->I5 (LI->I4 (Option J))):Option J :=
 kn a b c 0 d e f g h i j
def Z18{J:Type}(N:Nat)(b:LI)(c d e a f:Int)(g:LI)(h i j l:Int)(kn:LI->I5 (LI->I4 (Option J)))(k2:LI->I4 (LI->I4 (Option J))):Option J :=
 cond (lk N (decide (e<a)))
 (
  kn b c d e a f g h i j l)
 (
  k2 b c d a f g h i j l)
def Z22{J:Type}(N:Nat)(f:LI)(a b h c d:Int)(e:LI)(i j l m:Int)(kn:LI->I6 (LI->I4 (Option J))):Option J :=
 cond (lk N (bJ.P (c,(d,e)) b a)) (
  kn f a b h (bJ.g (c,(d,e)) b a) c d e i j l m) none
def Z24{J:Type}(N:Nat)(f:LI)(a h b i c d:Int)(e:LI)(j l m o:Int)(kn:LI->I7 (LI->I4 (Option J))):Option J :=
 cond (lk N (bJ.P (c,(d,e)) a b)) (
  kn f a h b i (bJ.g (c,(d,e)) a b) c d e j l m o) none
def Z27{J:Type}(N:Nat)(d:LI)(a b c e f g h:Int)(i:LI)(j l m o:Int)(kn:LI->I5 (Bool->I2 (LI->I4 (Option J)))):Option J :=
 cond (lk N (decide (b=a)))
 (
  kn d a b c e f true g h i j l m o)
 (
  kn d a b c e f (lk N (decide (c=a))) g h i j l m o)
def Z28{J:Type}(N:Nat)(f:LI)(h a b o p:Int)(q:Bool)(c d:Int)(e:LI)(i j l m:Int)(kn:LI->I5 (LI->I4 (Option J))):Option J :=
 cond (q)
 (
  cond (lk N (bJ.P (c,(d,e)) a b)) (
   cond (lk N (ax (ac ((ac (a*c))+b)) f.length)) (
    kn (f.set (ac ((ac (a*c))+b)).toNat (ac (0-(bJ.g (c,(d,e)) a b)))) h a b c d e i j l m) none) none)
 (
  cond (lk N (decide (0<o)))
  (
   cond (lk N (decide (0<p)))
   (
    cond (lk N (bJ.P (c,(d,e)) a b)) (
     cond (lk N (ax (ac ((ac (a*c))+b)) f.length)) (
      kn (f.set (ac ((ac (a*c))+b)).toNat (ac ((bJ.g (c,(d,e)) a b)+(ac (o*p))))) h a b c d e i j l m) none) none)
   (
    cond (lk N (decide (o<0)))
    (
     cond (lk N (decide (p<0)))
     (
      cond (lk N (bJ.P (c,(d,e)) a b)) (
       cond (lk N (ax (ac ((ac (a*c))+b)) f.length)) (
        kn (f.set (ac ((ac (a*c))+b)).toNat (ac ((bJ.g (c,(d,e)) a b)-(ac (o*p))))) h a b c d e i j l m) none) none)
     (
      kn f h a b c d e i j l m))
    (
     kn f h a b c d e i j l m)))
  (
   cond (lk N (decide (o<0)))
   (
    cond (lk N (decide (p<0)))
    (
     cond (lk N (bJ.P (c,(d,e)) a b)) (
      cond (lk N (ax (ac ((ac (a*c))+b)) f.length)) (
       kn (f.set (ac ((ac (a*c))+b)).toNat (ac ((bJ.g (c,(d,e)) a b)-(ac (o*p))))) h a b c d e i j l m) none) none)
    (
     kn f h a b c d e i j l m))
   (
    kn f h a b c d e i j l m)))
def Z26 N a b c d e f g h i j l m o kn:=(Z27 N a b c d e f g h i j l m o (λa b c d e f p g h i j l m o=>Z28 N a b c d e f p g h i j l m o kn):Option J)
def Z25 N a b c d e f g h i j l m o kn:=(Z26 N a b c d e f g h i j l m o kn:Option J)
def Z23 N a b c d e f g h i j l m kn:=(Z24 N a b c d e f g h i j l m (λa b c d e o f g h i j l m=>Z25 N a b c d e o f g h i j l m kn):Option J)
def Z21 N a b c d e f g h i j l kn:=(Z22 N a b c d e f g h i j l (λa b c d m e f g h i j l=>Z23 N a b c d m e f g h i j l kn):Option J)
def Z20 N a b c d e f g h i j l kn:=(Z21 N a b c d e f g h i j l kn:Option J)
def Z29{J:Type}(N:Nat)(a:LI)(b c d e f:Int)(g:LI)(h i j l:Int)(kn:LI->I5 (LI->I4 (Option J))):Option J :=
 kn a b c (ac (d+1)) e f g h i j l
def Z19 N a b c d e f g h i j l kn:=(Z20 N a b c d e f g h i j l (λa b c d e f g h i j l=>Z29 N a b c d e f g h i j l kn):Option J)
def Z17 N a b c d e f g h i j l kn k2:=(Z18 N a b c d e f g h i j l (λa b c d e f g h i j l=>Z19 N a b c d e f g h i j l kn) k2:Option J)
def Z16L{J:Type}(N:Nat)(k2:LI->I4 (LI->I4 (Option J))):Nat->LI->Int->Int->Int->Int->Int->LI->Int->Int->Int->Int->Option J
 |0,_,_,_,_,_,_,_,_,_,_,_=>none
 |M+1,a,b,c,d,e,f,g,h,i,j,l=>Z17 N a b c d e f g h i j l (λa b c d e f g h i j l=>Z16L N k2 M a b c d e f g h i j l) k2
def Z16 N a b c d e f g h i j l k2:=(Z16L N k2 N a b c d e f g h i j l:Option J)
def Z15 N a b c d e f g h i j l kn:=(Z16 N a b c d e f g h i j l kn:Option J)
def Z13 N a b c d e f g h i j kn:=(Z14 N a b c d e f g h i j (λa b c l d e f g h i j=>Z15 N a b c l d e f g h i j kn):Option J)
def Z12 N a b c d e f g h i j kn:=(Z13 N a b c d e f g h i j kn:Option J)
def Z30{J:Type}(N:Nat)(a:LI)(b c d e:Int)(f:LI)(g h i j:Int)(kn:LI->I4 (LI->I4 (Option J))):Option J :=
 kn a b (ac (c+1)) d e f g h i j
def Z11 N a b c d e f g h i j kn:=(Z12 N a b c d e f g h i j (λa b c d e f g h i j=>Z30 N a b c d e f g h i j kn):Option J)
def Z9 N a b c d e f g h i j kn k0:=(Z10 N a b c d e f g h i j (λa b c d e f g h i j=>Z11 N a b c d e f g h i j kn) k0:Option J)
def Z8L{J:Type}(N:Nat)(k0:LI->I4 (Option J)):Nat->LI->Int->Int->Int->Int->LI->Int->Int->Int->Int->Option J
 |0,_,_,_,_,_,_,_,_,_,_=>none
 |M+1,a,b,c,d,e,f,g,h,i,j=>Z9 N a b c d e f g h i j (λa b c d e f g h i j=>Z8L N k0 M a b c d e f g h i j) k0
def Z8 N a b c d e f g h i j k0:=(Z8L N k0 N a b c d e f g h i j:Option J)
def Z7 N a b c d e f g h i j kn:=(Z8 N a b c d e f g h i j kn:Option J)
def Z5 N a b c d e f g h i kn:=(Z6 N a b c d e f g h i (λa b j c d e f g h i=>Z7 N a b j c d e f g h i kn):Option J)
def Z31{J:Type}(N:Nat)(a:LI)(d e b c:Int)(kr:LI->I2 (Option J)):Option J :=
 kr a b c
def Z4 N a f g h i b c d e kr:=(Z5 N a f g h i b c d e (λa b c d e=>Z31 N a b c d e kr):Option J)
def Z2 N a b c d e f kr:=(Z3 N a b c d e f (λg a b c d e f h i=>Z4 N g a b c d e f h i kr):Option J)
def Z0 N b a kr:=(Z1 N b a (λa c d e f g=>Z2 N a c d e f g kr):Option J)
def Spec:Prop:=∀ (v0:MT) (v1:Int),Ty.bd (.pair (.int .i64) (.pair (.int .i64) (.sl 0 (.int .i64)))) v0->P v0 v1=true->∃N0,∀N,N0<=N->Z0 N v0 v1 (λv4_2 v4_0 v4_1=>some ((),((v4_0,(v4_1,v4_2)),())))=some ((),((g v0 v1),()))
section
variable {J : Type} {N : Nat} {m : Int × Int × List Int} {k : Nat}
def at_g(hd:0<=m.1)(a b:Nat):bJ.g (m.1,(m.2.1,m.2.2)) (a:Int) (b:Int)=af m a b:=iS hd a b
def at_p(hd:aO m=true){a b:Nat}(ha:a<m.2.1.toNat)(hb:b<m.1.toNat):bJ.P (m.1,(m.2.1,m.2.2)) (a:Int) (b:Int)=true:=iU hd ha hb
def cur(m:Int×Int×List Int)(k p:Nat):List Int:=gq m.2.2.length p (ka m k) (λp=>m.2.2.getD p 0)
def inner(hs:aX m=true)(hk:k<m.1.toNat)(k2:List Int->Int->Int->Int->Int->List Int->Int->Int->Int->Int->Option J)(t0 t1 o0 o1:Int){i:Nat}(hi:i<m.2.1.toNat):∀(M j:Nat),j<=m.1.toNat->m.1.toNat-j<M ->
  Z16L N k2 M (cur m k (i*m.1.toNat+j)) (k:Int) (i:Int) (j:Int) m.1 m.2.1 m.2.2 t0 t1 o0 o1=k2 (cur m k (i*m.1.toNat+m.1.toNat)) (k:Int) (i:Int) m.1 m.2.1 m.2.2 t0 t1 o0 o1:=by
 have hd:=cI hs;obtain⟨n,r,hn,hr,hn1,hn5,hnr,hr8,hl⟩:=aU hd;intro M;induction M with
 |zero=>intro j _ h;omega
 |succ M ih =>
  intro j hj hM;simp only[Z16L,Z17,Z18];by_cases h:j<m.1.toNat
  ·have hlt:i*m.1.toNat+j<m.2.2.length:=by have:=iT (n:=n) (r:=r) (i:=i) (j:=j) (by omega) (by omega);rw[hl,hn];exact this
   have hidx:ac (ac ((i:Int)*m.1)+(j:Int))=((i*m.1.toNat+j:Nat):Int):=by
    have e:(i:Int)*m.1=((i*m.1.toNat:Nat):Int):=by rw[hn,Int.natCast_mul];simp
    have hb:i*m.1.toNat<=8*5:=Nat.mul_le_mul (by omega) (by omega);have e2:ac (((i*m.1.toNat:Nat):Int))=((i*m.1.toNat:Nat):Int):=aR (by omega) (by omega);rw[e,e2,aR (by omega) (by omega)];omega
   have b1:=fX hs i j;have b2:=fX hs i k;have b3:=fX hs k j;have hbc:=DR (f:=false) b1 b2 b3;have hF:=yR (m:=m) (k:=k) (i:=i) h;have hcl:(cur m k (i*m.1.toNat+j)).length=m.2.2.length:=rp;have hset:∀v,v=ka m k (i*m.1.toNat+j)->(cur m k (i*m.1.toNat+j)).set (i*m.1.toNat+j) v=cur m k (i*m.1.toNat+(j+1)):=λv hv=>by subst hv;exact Dr hlt
   have hsame:ka m k (i*m.1.toNat+j)=af m i j->cur m k (i*m.1.toNat+j)=cur m k (i*m.1.toNat+(j+1)):=λhv=>(DS hv).symm;have iB:ax (((i*m.1.toNat+j:Nat):Int)) (cur m k (i*m.1.toNat+j)).length=true:=aN (by rw[hcl];exact hlt);have pij:=at_p hd hi h;rw[ct (dt (by omega))];simp only[Z19,Z20,Z21,Z22,Z23,Z24,Z25];rw[ct (at_p hd hi hk),ct (at_p hd (show k<m.2.1.toNat by omega) h),at_g (by omega),at_g (by omega)];have fin:∀c,c=cur m k (i*m.1.toNat+(j+1))->Z29 N c (k:Int) (i:Int) (j:Int) m.1 m.2.1 m.2.2 t0 t1 o0 o1 (λout5_2 k1 i6 j7 m2_0 m2_1 m2_2 t4_0 t4_1 out5_0 out5_1=>Z16L N k2 M out5_2 k1 i6 j7 m2_0 m2_1 m2_2 t4_0 t4_1 out5_0 out5_1)=k2 (cur m k (i*m.1.toNat+m.1.toNat)) (k:Int) (i:Int) m.1 m.2.1 m.2.2 t0 t1 o0 o1:=by intro c hc;subst hc;simp only[Z29];rw[a8 (by rw[bn];omega)];exact ih (j+1) h (by omega)
   simp only[Z26,Z27,Z28,hidx,Int.toNat_natCast,at_g (show 0<=m.1 by omega)];by_cases hik:i=k;·rw[ct (dt (by omega)),gn rfl,ct pij,ct iB,aR (by omega) (by omega)];refine fin _ (hset _ ?_);rw[hF,dt hik,Int.zero_sub];rfl
   ·rw[cf (df (by omega))];by_cases hjk:j=k;·rw[gn (by rw[aD];exact dt (by omega)),ct pij,ct iB,aR (by omega) (by omega)];refine fin _ (hset _ ?_);rw[hF,df hik,dt hjk,Int.zero_sub];rfl
    ·rw[fV (by rw[aD];exact df (by omega))];rw[df hik,df hjk]at hF;simp only[dY,Bool.or_self,Bool.false_eq_true,if_false]at hF;have wbc:ac (af m i k*af m k j)=af m i k*af m k j:=aR (by omega) (by omega);rw[wbc];by_cases a1:0<af m i k
     ·rw[ct (dt a1)];by_cases a2:0<af m k j;·rw[ct (dt a2),ct pij,ct iB,aR (by omega) (by omega)];refine fin _ (hset _ ?_);rw[hF,if_pos ⟨a1,a2⟩]
      ·rw[cf (df a2),cf (df (by omega))];refine fin _ (hsame ?_);rw[hF,if_neg (by omega),if_neg (by omega)]
     ·rw[cf (df a1)];by_cases a2:af m i k<0
      ·rw[ct (dt a2)];by_cases a3:af m k j<0;·rw[ct (dt a3),ct pij,ct iB,aR (by omega) (by omega)];refine fin _ (hset _ ?_);rw[hF,if_neg (by omega),if_pos ⟨a2,a3⟩]
       ·rw[cf (df a3)];refine fin _ (hsame ?_);rw[hF,if_neg (by omega),if_neg (by omega)]
      ·rw[cf (df a2)];refine fin _ (hsame ?_);rw[hF,if_neg (by omega),if_neg (by omega)]
  ·rw[cf (df (by omega)),show j=m.1.toNat by omega]
def outer(hN:10<=N)(hs:aX m=true)(hk:k<m.1.toNat)(k0:List Int->Int->Int->Int->Int->Option J)(t0 t1 o0 o1:Int):∀(M i:Nat),i<=m.2.1.toNat->m.2.1.toNat-i<M ->
  Z8L N k0 M (cur m k (i*m.1.toNat)) (k:Int) (i:Int) m.1 m.2.1 m.2.2 t0 t1 o0 o1=k0 (cur m k (m.2.1.toNat*m.1.toNat)) t0 t1 o0 o1:=by
 have hd:=cI hs;obtain⟨n,r,hn,hr,hn1,hn5,hnr,hr8,hl⟩:=aU hd;intro M;induction M with
 |zero=>intro i _ h;omega
 |succ M ih =>
  intro i hi hM;simp only[Z8L,Z9,Z10];by_cases h:i<m.2.1.toNat;·rw[ct (dt (by omega))];simp only[Z11,Z12,Z13,Z14,Z15,Z16];have hin:=inner (J:=J) (N:=N) hs hk (λout5_2 k1 i6 m2_0 m2_1 m2_2 t4_0 t4_1 out5_0 out5_1=>Z30 N out5_2 k1 i6 m2_0 m2_1 m2_2 t4_0 t4_1 out5_0 out5_1 (λout5_2 k1 i6 m2_0 m2_1 m2_2 t4_0 t4_1 out5_0 out5_1=>Z8L N k0 M out5_2 k1 i6 m2_0 m2_1 m2_2 t4_0 t4_1 out5_0 out5_1)) t0 t1 o0 o1 h N 0 (by omega) (by omega);rw[show((0:Nat):Int)=0 from rfl,Nat.add_zero]at hin;rw[hin];simp only[Z30];rw[a8 (by rw[bn];omega)];have:=ih (i+1) h (by omega);rw[Nat.add_mul,Nat.one_mul]at this;exact this
  ·rw[cf (df (by omega)),show i=m.2.1.toNat by omega]
end
def ok:Spec:=λm k hb hp=>⟨10,λN hN=>by
 simp only[P,Bool.and_eq_true,decide_eq_true_eq]at hp;obtain⟨hs,h0,h1⟩:=hp;obtain⟨x,rfl⟩:=Int.eq_ofNat_of_zero_le h0;have hd:=cI hs;obtain⟨n,r,hn,hr,hn1,hn5,hnr,hr8,hl⟩:=aU hd;have hlen:m.2.2.length<=8*5:=by rw[hl];exact Nat.mul_le_mul hr8 hn5
 simp only[Z0,Z1,Z2,Z3];rw[ct (show fO.P (m.1,(m.2.1,m.2.2))=true from dt (show m.2.2.length<1099511627776 by omega))];simp only[Z4,Z5,Z6,Z7,Z8];have hstart:cur m x 0=m.2.2:=by unfold cur;rw[Ds];exact rq 0 rfl
 have hend:cur m x (m.2.1.toNat*m.1.toNat)=(bf m x).2.2:=by
  have e:m.2.1.toNat*m.1.toNat=m.2.2.length:=by rw[hl,hn,hr];simp
  rw[e];exact Dt
 have:=outer (J:=Unit×(Int×Int×List Int)×Unit) hN hs (show x<m.1.toNat by omega) (λout5_2 t4_0 t4_1 out5_0 out5_1=>Z31 N out5_2 t4_0 t4_1 out5_0 out5_1 (λt4_2 t4_0 t4_1=>some ((),((t4_0,(t4_1,t4_2)),())))) 0 0 m.1 m.2.1 N 0 (by omega) (by omega);rw[Nat.zero_mul,hstart,hend]at this;exact this⟩
end bQ
namespace gd
def g(m:Int×Int×List Int)(k:Int):(Int×Int×List Int)×Bool :=
 if((aP m&&!decide (ba m=[]))&&(bE k 0 (m.1-1)&&aP (bf m k.toNat)))=true then(bf m k.toNat,true)else((0,0,[]),false)
def Z0{J:Type}(N:Nat)(a:MT)(b:Int)(kr:LI->Bool->I2 (Option J)):Option J :=
 cond (!(lk N ((kX.g a))))
 (
  kr ([]:List Int) false 0 0)
 (
  cond (!(lk N ((hJ.g b 0 (ac (a.1-1))))))
  (
   kr ([]:List Int) false 0 0)
  (
   cond (lk N (bQ.P a b)) (
    cond (!(lk N ((ck.g (bQ.g a b)))))
    (
     kr ([]:List Int) false 0 0)
    (
     kr (bQ.g a b).2.2 true (bQ.g a b).1 (bQ.g a b).2.1)) none))
def Spec:Prop:=∀ (v0:MT) (v1:Int),Ty.bd (.pair (.int .i64) (.pair (.int .i64) (.sl 0 (.int .i64)))) v0->∃N0,∀N,N0<=N->Z0 N v0 v1 (λv4_2 v5 v4_0 v4_1=>some ((),((v4_0,(v4_1,v4_2)),(v5,()))))=some ((),((g v0 v1).1,((g v0 v1).2,())))
def ok:Spec:=λm k hb=>⟨0,λN hN=>by
 simp only[Z0,aD,g,kX.g,hJ.g,ck.g];cases h1:(aP m&&!decide (ba m=[]));·rfl
 have hs:aP m=true:=by simp only[Bool.and_eq_true]at h1;exact h1.1
 have hd:=cI (cX hs);obtain⟨n,r,hn,hr,hn1,hn5,hnr,hr8,hl⟩:=aU hd;rw[aR (by omega) (by omega)];cases h2:bE k 0 (m.1-1);·rfl
 have h3:=cO.1 h2;have hP:bQ.P m k=true:=by simp only[bQ.P,Bool.and_eq_true,decide_eq_true_eq];exact⟨cX hs,by omega,by omega⟩
 rw[hP];have hg:bQ.g m k=bf m k.toNat:=rfl;rw[hg];cases aP (bf m k.toNat)<;>rfl⟩
end gd
namespace cz
def P(b:List Int)(r:Int×Int)(n:Int):Bool:=b8 b r&&bE n 0 5
def stepN(b:List Int)(s:(Int×Int)×List Int)(k:Nat):(Int×Int)×List Int :=
 ((aw.g b s.1 ((s.2.length:Int)+1)).1,s.2.take (aw.g b s.1 ((s.2.length:Int)+1)).2.toNat++[(k:Int)]++s.2.drop (aw.g b s.1 ((s.2.length:Int)+1)).2.toNat)
def g(b:List Int)(r:Int×Int)(n:Int):(Int×Int)×List Int:=(List.range n.toNat).foldl (stepN b) (r,[])
def Z1{J:Type}(N:Nat)(b0:List Int)(r0:Int×Int)(a:Int)(kn:Int->List Int->I2 (Option J)):Option J :=
 kn a b0 r0.1 r0.2
def Z3{J:Type}(N:Nat)(a:Int)(b:List Int)(c d:Int)(kn:LI->Int->List Int->I2 (Option J)):Option J :=
 kn ([]:List Int) a b c d
def Z6{J:Type}(N:Nat)(a:LI)(b:Int)(c:List Int)(d e:Int)(kn:LI->I2 (List Int->I2 (Option J))):Option J :=
 kn a b 0 c d e
def Z9{J:Type}(N:Nat)(a:LI)(f b:Int)(c:List Int)(d e:Int)(kn:LI->I2 (List Int->I2 (Option J)))(k0:LI->List Int->I2 (Option J)):Option J :=
 let x1_:=(aw.g c (d,e) (ac ((a.length:Int)+1)));let x4_:=(lk N (bN 0 x1_.2&&bN x1_.2 a.length));let x7_:=(lk N (Nat.blt (([]:List Int).length+((a.drop 0).take x1_.2.toNat).length) 1099511627776));let x8_:=(([]:List Int)++((a.drop 0).take x1_.2.toNat));let x0_:=(
   cond (lk N (Nat.blt ((x8_++([b]:List Int)).length+((a.drop x1_.2.toNat).take (a.length-x1_.2).toNat).length) 1099511627776)) (
   kn ((x8_++([b]:List Int))++((a.drop x1_.2.toNat).take (a.length-x1_.2).toNat)) f (ac (b+1)) c x1_.1.1 x1_.1.2) none)
 let x5_:=(lk N (Nat.blt (x8_.length+([b]:List Int).length) 1099511627776));let x9_:=(
   cj (
   cond x5_ (
   cond x4_ x0_ none) none)
   (
   cond x4_ (
   cond x5_ x0_ none) none))
 let x2_:=(
   cond x7_ (
   cond x5_ x0_ none) none)
 let x3_:=(
   cj (
   cond x7_ x9_ none)
   (
   cond x4_ x2_ none))
 let x6_:=(
   cj (
   cond x7_ (
   cj x9_
   (
   cond x4_ (
   cond x5_ x0_ none) none)) none)
   (
   cj x3_
   (
   cond x4_ (
   bo x2_) none)))
 let x10_:=(
   cj (
   cond x4_ x3_ none)
   (
   cond x4_ (
   cond x4_ x2_ none) none))
 let x11_:=(
   cj (
   cond x4_ (
   bo x2_) none)
   (
   cond x4_ x2_ none))
 cond (lk N (decide (b<f)))
 (
 cond (lk N (aw.P c (d,e) (ac ((a.length:Int)+1)))) (
 cj (
 cj (
 cond x4_ x6_ none)
 (
 cj x10_
 (
 cond x4_ x11_ none)))
 (
 cj (
 cond x4_ (
 cj x6_
 (
 cj (
 cj x3_
 (
 cond x4_ x2_ none))
 (
 cond x4_ (
 cj (
 bo x2_)
 x2_) none))) none)
 (
 cj (
 cj x10_
 (
 cj (
 cond x4_ (
 cj x3_
 (
 cond x4_ x2_ none)) none)
 (
 cond x4_ (
 bo (
 cond x4_ x2_ none)) none)))
 (
 cond x4_ (
 cj x11_
 (
 cj (
 cond x4_ (
 cj (
 bo x2_)
 x2_) none)
 (
 bo (
 cond x4_ x2_ none)))) none)))) none)
 (
 k0 a c d e)
def Z8L{J:Type}(N:Nat)(k0:LI->List Int->I2 (Option J)):Nat->LI->Int->Int->List Int->Int->Int->Option J
 |0,_,_,_,_,_,_=>none
 |M+1,a,b,c,d,e,f=>Z9 N a b c d e f (λa b c d e f=>Z8L N k0 M a b c d e f) k0
def Z8 N a b c d e f k0:=(Z8L N k0 N a b c d e f:Option J)
def Z7 N a b c d e f kn:=(Z8 N a b c d e f kn:Option J)
def Z5 N a b c d e kn:=(Z6 N a b c d e (λa b f c d e=>Z7 N a b f c d e kn):Option J)
def Z10{J:Type}(N:Nat)(a:LI)(b:List Int)(c d:Int)(kr:LI->List Int->I2 (Option J)):Option J :=
 kr a b c d
def Z4 N a e b c d kr:=(Z5 N a e b c d (λa b c d=>Z10 N a b c d kr):Option J)
def Z2 N a b c d kr:=(Z3 N a b c d (λe a b c d=>Z4 N e a b c d kr):Option J)
def Z0 N b0 r0 a kr:=(Z1 N b0 r0 a (λa b c d=>Z2 N a b c d kr):Option J)
def Spec:Prop:=∀{U:Type} (u:U) (b0:List Int) (r0:Int×Int) (v1:Int),Ty.bd (.sl 0 (.int .u8)) b0->P b0 r0 v1=true->∃N0,∀N,N0<=N->Z0 N b0 r0 v1 (λv4 w0_0 w0_1 w0_2=>some (u,((w0_1,w0_2),((),(v4,())))))=some (u,((g b0 r0 v1).1,((),((g b0 r0 v1).2,()))))
def Fj(b:List Int)(s:(Int×Int)×List Int)(k:Nat):(stepN b s k).2.Perm ((k:Int)::s.2):=by unfold stepN;generalize(aw.g b s.1 ((s.2.length:Int)+1)).2.toNat=q;simp only;have h:(s.2.take q++[(k:Int)]++s.2.drop q).Perm ([(k:Int)]++s.2.take q++s.2.drop q):=List.Perm.append_right _ List.perm_append_comm;rw[List.append_assoc [(k:Int)],List.take_append_drop]at h;exact h
def Fk(b:List Int):∀(l:List Nat) (s:(Int×Int)×List Int),(l.foldl (stepN b) s).2.Perm (an l++s.2)
 |[],s=>List.Perm.refl _
 |k::l,s=>by rw[List.foldl_cons];refine(Fk b l (stepN b s k)).trans ?_;show(an l++(stepN b s k).2).Perm ((k:Int)::(an l++s.2));refine(List.Perm.append_left _ (Fj b s k)).trans ?_;exact List.perm_middle
def keeps(b:List Int):∀(l:List Nat) (s:(Int×Int)×List Int),b8 b s.1=true->b8 b (l.foldl (stepN b) s).1=true
 |[],_,h=>h
 |k::l,s,h=>keeps b l (stepN b s k) (aw.keep h)
def keep{b:List Int}{r:Int×Int}{n:Int}(h:b8 b r=true):b8 b (g b r n).1=true:=keeps b _ _ h
def PB{l:List Int}{n:Nat}(h:l.Perm (an (List.range n))):dJ l (n:Int)=true:=by
 have hl:l.length=n:=by rw[h.length_eq,bv,List.length_range]
 have hnd:l.Nodup:=by refine h.nodup_iff.2 ?_;unfold an;refine List.Pairwise.map _ (λa b hab=>?_) (List.nodup_range (n:=n));show((a:Nat):Int)≠((b:Nat):Int);omega
 simp only[dJ,Bool.and_eq_true,decide_eq_true_eq];refine⟨by omega,List.all_eq_true.2 λi hi=>?_⟩;have hi:=List.mem_range.1 hi;have hm:=bz (l:=l) (j:=i) 0 hi;have hm2:=h.mem_iff.1 hm;unfold an at hm2;obtain⟨x,hx,hxe⟩:=List.mem_map.1 hm2;have hx:=List.mem_range.1 hx;simp only[oS,Bool.and_eq_true,cO,Bool.not_eq_true',List.any_eq_false,decide_eq_true_eq];refine⟨by omega,λy hy e=>?_⟩;obtain⟨j,hj,hje⟩:=List.getElem_of_mem hy;rw[List.length_take]at hj;rw[List.getElem_take]at hje;have:l[j]'(by omega)=l[i]:=by rw[hje,e,List.getD_eq_getElem?_getD,List.getElem?_eq_getElem hi];rfl
 exact(List.pairwise_iff_getElem.1 hnd) j i (by omega) hi (by omega) this
def names{b:List Int}{r:Int×Int}(n:Nat):dJ (g b r (n:Int)).2 (n:Int)=true:=by have:=Fk b (List.range n) (r,[]);rw[List.append_nil]at this;refine PB ?_;unfold g;rw[Int.toNat_natCast];exact this
def loop{J:Type}{N:Nat}{b:List Int}(kk:List Int->List Int->Int->Int->Option J){n:Nat}(hn:n<=5):∀(M k:Nat) (s:(Int×Int)×List Int),k<=n->b8 b s.1=true->s.2.length=k->n-k<M ->
  Z8L N kk M s.2 (n:Int) (k:Int) b s.1.1 s.1.2=kk (((List.range n).drop k).foldl (stepN b) s).2 b (((List.range n).drop k).foldl (stepN b) s).1.1 (((List.range n).drop k).foldl (stepN b) s).1.2:=by
 intro M;induction M with
 |zero=>intro k s _ _ _ h;omega
 |succ M ih =>
  intro k s hk hs hl hM;simp only[Z8L,Z9];by_cases h:k<n
  ·have es:((s.1.1,s.1.2):Int×Int)=s.1:=rfl;have w0:ac ((s.2.length:Int)+1)=(s.2.length:Int)+1:=aR (by omega) (by omega);have hr:=aw.range (b:=b) (r:=s.1) (n:=(s.2.length:Int)+1) (by omega) (by omega);have hP:aw.P b s.1 ((s.2.length:Int)+1)=true:=hs;have hst:stepN b s k=((aw.g b s.1 ((s.2.length:Int)+1)).1,s.2.take (aw.g b s.1 ((s.2.length:Int)+1)).2.toNat++[(k:Int)]++s.2.drop (aw.g b s.1 ((s.2.length:Int)+1)).2.toNat):=rfl;have hstl:(stepN b s k).2.length=k+1:=by have:=(Fj b s k).length_eq;rw[List.length_cons]at this;omega
   have hkeep:b8 b (stepN b s k).1=true:=aw.keep hs;rw[ct (dt (by omega)),kJ h,List.foldl_cons];have nxt:=ih (k+1) (stepN b s k) h hkeep hstl (by omega);rw[hst]at nxt ⊢;rw[<-nxt];simp only[es,w0];generalize hx:aw.g b s.1 ((s.2.length:Int)+1)=x at hr;obtain⟨q,hq⟩:=Int.eq_ofNat_of_zero_le hr.1;have hq1:q<=s.2.length:=by omega
   have c1:(bN 0 x.2&&bN x.2 s.2.length)=true:=by rw[hq,j8 (by omega),j8 (by omega)];rfl
   have c2:∀l:List Int,l.length<=20->∀m:List Int,m.length<=20->Nat.blt (l.length+m.length) 1099511627776=true:=λl h1 m h2=>Nat.ble_eq_true_of_le (by omega);have l1:((s.2.drop 0).take x.2.toNat).length<=6:=by rw[List.length_take,List.length_drop];omega
   have l2:((s.2.drop x.2.toNat).take ((s.2.length:Int)-x.2).toNat).length<=6:=by rw[List.length_take,List.length_drop];omega
   have e2:(s.2.drop x.2.toNat).take ((s.2.length:Int)-x.2).toNat=s.2.drop x.2.toNat:=List.take_of_length_le (by rw[List.length_drop];omega);have w1:ac ((k:Int)+1)=((k+1:Nat):Int):=a8 (by rw[bn];omega);have l3:(s.2.take x.2.toNat).length<=6:=by rw[List.length_take];omega
   have l4:(s.2.drop x.2.toNat).length<=6:=by rw[List.length_drop];omega
   have d1:=c2 [] (by simp) (s.2.take x.2.toNat) (by omega);have d2:=c2 (s.2.take x.2.toNat) (by omega) [(k:Int)] (by simp);have d3:=c2 (s.2.take x.2.toNat++[(k:Int)]) (by rw[List.length_append,List.length_singleton];omega) (s.2.drop x.2.toNat) (by omega);simp only[aD,hP,c1,d1,d2,d3,cond_true,gP,w1,e2,List.nil_append,List.drop_zero,hx]
  ·rw[cf (df (by omega)),List.drop_of_length_le (by rw[List.length_range];omega)];rfl
def ok:Spec:=λu b r n hb hp=>⟨10,λN hN=>by simp only[P,Bool.and_eq_true,cO]at hp;obtain⟨h,h0,h5⟩:=hp;obtain⟨k,rfl⟩:=Int.eq_ofNat_of_zero_le h0;simp only[Z0,Z1,Z2,Z3,Z4,Z5,Z6,Z7,Z8];refine(loop _ (by omega) N 0 (r,[]) (Nat.zero_le _) h rfl (by omega)).trans ?_;rw[List.drop_zero];rfl⟩
end cz
namespace ce
def P(m:Int×Int×List Int)(names:List Int):Bool:=aO m&&dJ names m.1
def g(m:Int×Int×List Int)(names:List Int):Int×Int×List Int:=bV m names
def Z1{J:Type}(N:Nat)(a:MT)(b:LI)(kn:LI->I2 (LI->I2 (Option J))):Option J :=
 kn b a.1 a.2.1 a.2.2 0 0
def Z3{J:Type}(N:Nat)(d:LI)(a b:Int)(c:LI)(e f:Int)(kn:LI->LI->I2 (LI->I4 (Option J))):Option J :=
 cond (lk N (fO.P (a,(b,c)))) (
  kn (fO.g (a,(b,c))).2.2 d a b c e f (fO.g (a,(b,c))).1 (fO.g (a,(b,c))).2.1) none
def Z6{J:Type}(N:Nat)(a b:LI)(c d:Int)(e:LI)(f g h i:Int)(kn:LI->LI->I3 (LI->I4 (Option J))):Option J :=
 kn a b 0 c d e f g h i
def Z10{J:Type}(N:Nat)(a h:LI)(b i c:Int)(j:LI)(d e f g:Int)(kn:LI->LI->I3 (LI->I4 (Option J)))(k0:LI->I4 (Option J)):Option J :=
 cond (lk N (decide (b<c)))
 (
  kn a h b i c j d e f g)
 (
  k0 a d e f g)
def Z14{J:Type}(N:Nat)(b c:LI)(a d e:Int)(f:LI)(g h i j:Int)(kn:LI->LI->I4 (LI->I4 (Option J))):Option J :=
 kn b c a a d e f g h i j
def Z16{J:Type}(N:Nat)(d b:LI)(a l c e:Int)(f:LI)(g h i j:Int)(kn:LI->LI->I4 (LI->I4 (Option J))):Option J :=
 cond (lk N (decide (a<c)))
 (
  cond (lk N (ax a b.length)) (
   kn d b a (b.getD a.toNat 0) c e f g h i j) none)
 (
  kn d b a l c e f g h i j)
def Z18{J:Type}(N:Nat)(a b:LI)(c d e f:Int)(g:LI)(h i j l:Int)(kn:LI->LI->I5 (LI->I4 (Option J))):Option J :=
 kn a b c d 0 e f g h i j l
def Z21{J:Type}(N:Nat)(h c:LI)(d i a b e:Int)(f:LI)(j l m o:Int)(kn:LI->LI->I5 (LI->I4 (Option J)))(k2:LI->LI->I3 (LI->I4 (Option J))):Option J :=
 cond (lk N (decide (a<b)))
 (
  cond (lk N (ax a c.length)) (
   cond (lk N (bJ.P (b,(e,f)) d a)) (
    cond (lk N (ax (ac ((ac (i*b))+(c.getD a.toNat 0))) h.length)) (
     kn (h.set (ac ((ac (i*b))+(c.getD a.toNat 0))).toNat (bJ.g (b,(e,f)) d a)) c d i (ac (a+1)) b e f j l m o) none) none) none)
 (
  k2 h c d b e f j l m o)
def Z20L{J:Type}(N:Nat)(k2:LI->LI->I3 (LI->I4 (Option J))):Nat->LI->LI->Int->Int->Int->Int->Int->LI->Int->Int->Int->Int->Option J
 |0,_,_,_,_,_,_,_,_,_,_,_,_=>none
 |M+1,a,b,c,d,e,f,g,h,i,j,l,m=>Z21 N a b c d e f g h i j l m (λa b c d e f g h i j l m=>Z20L N k2 M a b c d e f g h i j l m) k2
def Z20 N a b c d e f g h i j l m k2:=(Z20L N k2 N a b c d e f g h i j l m:Option J)
def Z19 N a b c d e f g h i j l m kn:=(Z20 N a b c d e f g h i j l m kn:Option J)
def Z17 N a b c d e f g h i j l kn:=(Z18 N a b c d e f g h i j l (λa b c d m e f g h i j l=>Z19 N a b c d m e f g h i j l kn):Option J)
def Z15 N a b c d e f g h i j l kn:=(Z16 N a b c d e f g h i j l (λa b c d e f g h i j l=>Z17 N a b c d e f g h i j l kn):Option J)
def Z13 N a b c d e f g h i j kn:=(Z14 N a b c d e f g h i j (λa b c l d e f g h i j=>Z15 N a b c l d e f g h i j kn):Option J)
def Z12 N a b c d e f g h i j kn:=(Z13 N a b c d e f g h i j kn:Option J)
def Z22{J:Type}(N:Nat)(a b:LI)(c d e:Int)(f:LI)(g h i j:Int)(kn:LI->LI->I3 (LI->I4 (Option J))):Option J :=
 kn a b (ac (c+1)) d e f g h i j
def Z11 N a b c d e f g h i j kn:=(Z12 N a b c d e f g h i j (λa b c d e f g h i j=>Z22 N a b c d e f g h i j kn):Option J)
def Z9 N a b c d e f g h i j kn k0:=(Z10 N a b c d e f g h i j (λa b c d e f g h i j=>Z11 N a b c d e f g h i j kn) k0:Option J)
def Z8L{J:Type}(N:Nat)(k0:LI->I4 (Option J)):Nat->LI->LI->Int->Int->Int->LI->Int->Int->Int->Int->Option J
 |0,_,_,_,_,_,_,_,_,_,_=>none
 |M+1,a,b,c,d,e,f,g,h,i,j=>Z9 N a b c d e f g h i j (λa b c d e f g h i j=>Z8L N k0 M a b c d e f g h i j) k0
def Z8 N a b c d e f g h i j k0:=(Z8L N k0 N a b c d e f g h i j:Option J)
def Z7 N a b c d e f g h i j kn:=(Z8 N a b c d e f g h i j kn:Option J)
def Z5 N a b c d e f g h i kn:=(Z6 N a b c d e f g h i (λa b j c d e f g h i=>Z7 N a b j c d e f g h i kn):Option J)
def Z23{J:Type}(N:Nat)(a:LI)(d e b c:Int)(kr:LI->I2 (Option J)):Option J :=
 kr a b c
def Z4 N a f g h i b c d e kr:=(Z5 N a f g h i b c d e (λa b c d e=>Z23 N a b c d e kr):Option J)
def Z2 N a b c d e f kr:=(Z3 N a b c d e f (λg a b c d e f h i=>Z4 N g a b c d e f h i kr):Option J)
def Z0 N b a kr:=(Z1 N b a (λa c d e f g=>Z2 N a c d e f g kr):Option J)
def Spec:Prop:=∀ (v0:MT) (v1:LI),Ty.bd (.pair (.int .i64) (.pair (.int .i64) (.sl 0 (.int .i64)))) v0->Ty.bd (.sl 0 (.int .i64)) v1->P v0 v1=true->∃N0,∀N,N0<=N->Z0 N v0 v1 (λv4_2 v4_0 v4_1=>some ((),((v4_0,(v4_1,v4_2)),())))=some ((),((g v0 v1),()))
section
variable {J : Type} {N : Nat} {m : Int × Int × List Int} {L : List Nat}
def at_g(hd:0<=m.1)(a b:Nat):bJ.g (m.1,(m.2.1,m.2.2)) (a:Int) (b:Int)=af m a b:=iS hd a b
def at_p(hd:aO m=true){a b:Nat}(ha:a<m.2.1.toNat)(hb:b<m.1.toNat):bJ.P (m.1,(m.2.1,m.2.2)) (a:Int) (b:Int)=true:=iU hd ha hb
def cur(m:Int×Int×List Int)(L:List Nat)(st:List Int)(t:Nat):List Int:=iW m.2.2.length t (fh m.1.toNat L) (λp=>m.2.2.getD (fh m.1.toNat L p) 0) (λp=>st.getD p 0)
def inner(hd:aO m=true)(h1:L.Nodup)(h2:∀x∈L,x<m.1.toNat)(h3:L.length=m.1.toNat)(st:List Int)(k2:List Int->List Int->Int->Int->Int->List Int->Int->Int->Int->Int->Option J)(t0 t1 o0 o1:Int){i:Nat}(hi:i<m.2.1.toNat):∀(M j:Nat),j<=m.1.toNat->m.1.toNat-j<M ->
  Z20L N k2 M (cur m L st (i*m.1.toNat+j)) (an L) (i:Int) ((cy m.1.toNat L i:Nat):Int) (j:Int) m.1 m.2.1 m.2.2 t0 t1 o0 o1=k2 (cur m L st (i*m.1.toNat+m.1.toNat)) (an L) (i:Int) m.1 m.2.1 m.2.2 t0 t1 o0 o1:=by
 obtain⟨n,r,hn,hr,hn1,hn5,hnr,hr8,hl⟩:=aU hd;have hnr':m.1.toNat<=m.2.1.toNat:=by omega
 intro M;induction M with
 |zero=>intro j _ h;omega
 |succ M ih =>
  intro j hj hM;simp only[Z20L,Z21];by_cases h:j<m.1.toNat
  ·have hx:=h2 _ (bz (l:=L) (j:=j) 0 (by omega));have hrow:=yS h1 h2 h3 hnr' hi;have hlt:cy m.1.toNat L i*m.1.toNat+L.getD j 0<m.2.2.length:=by
    have:=iT (n:=m.1.toNat) (r:=m.2.1.toNat) hrow hx;rw[hl];have e:m.2.1.toNat*m.1.toNat=r*n:=by rw[hn,hr];rfl
    omega
   have hidx:ac (ac (((cy m.1.toNat L i:Nat):Int)*m.1)+((L.getD j 0:Nat):Int))=((cy m.1.toNat L i*m.1.toNat+L.getD j 0:Nat):Int):=by
    have e:((cy m.1.toNat L i:Nat):Int)*m.1=((cy m.1.toNat L i*m.1.toNat:Nat):Int):=by rw[hn,Int.natCast_mul];simp
    have hb:cy m.1.toNat L i*m.1.toNat<=8*5:=Nat.mul_le_mul (by omega) (by omega);have e2:ac (((cy m.1.toNat L i*m.1.toNat:Nat):Int))=((cy m.1.toNat L i*m.1.toNat:Nat):Int):=aR (by omega) (by omega);rw[e,e2,aR (by omega) (by omega)];omega
   have hset:(cur m L st (i*m.1.toNat+j)).set (cy m.1.toNat L i*m.1.toNat+L.getD j 0) (af m i j)=cur m L st (i*m.1.toNat+(j+1)):=by have e:=DT (total:=m.2.2.length) (t:=i*m.1.toNat+j) (p:=cy m.1.toNat L i*m.1.toNat+L.getD j 0) (back:=fh m.1.toNat L) (F:=λp=>m.2.2.getD (fh m.1.toNat L p) 0) (G:=λp=>st.getD p 0) hlt (ug h1 h2 h3 hnr' h) (λq _ hq=>DY h1 h2 h3 hnr' h hq);simp only[ug h1 h2 h3 hnr' h]at e;exact e
   rw[ct (dt (by omega)),ct (aN (by rw[bv];omega)),ct (at_p hd hi h)];simp only[Int.toNat_natCast,fc,hidx];rw[ct (aN (by rw[cur,rE];exact hlt)),at_g (by omega),hset,a8 (by rw[bn];omega)];exact ih (j+1) h (by omega)
  ·rw[cf (df (by omega)),show j=m.1.toNat by omega]
def outer(hN:10<=N)(hd:aO m=true)(h1:L.Nodup)(h2:∀x∈L,x<m.1.toNat)(h3:L.length=m.1.toNat)(st:List Int)(k0:List Int->Int->Int->Int->Int->Option J)(t0 t1 o0 o1:Int):∀(M i:Nat),i<=m.2.1.toNat->m.2.1.toNat-i<M ->
  Z8L N k0 M (cur m L st (i*m.1.toNat)) (an L) (i:Int) m.1 m.2.1 m.2.2 t0 t1 o0 o1=k0 (cur m L st (m.2.1.toNat*m.1.toNat)) t0 t1 o0 o1:=by
 obtain⟨n,r,hn,hr,hn1,hn5,hnr,hr8,hl⟩:=aU hd;intro M;induction M with
 |zero=>intro i _ h;omega
 |succ M ih =>
  intro i hi hM;simp only[Z8L,Z9,Z10];by_cases h:i<m.2.1.toNat
  ·have hin:=inner (J:=J) (N:=N) hd h1 h2 h3 st (λout5_2 names1 i6 m2_0 m2_1 m2_2 t4_0 t4_1 out5_0 out5_1=>Z22 N out5_2 names1 i6 m2_0 m2_1 m2_2 t4_0 t4_1 out5_0 out5_1 (λout5_2 names1 i6 m2_0 m2_1 m2_2 t4_0 t4_1 out5_0 out5_1=>Z8L N k0 M out5_2 names1 i6 m2_0 m2_1 m2_2 t4_0 t4_1 out5_0 out5_1)) t0 t1 o0 o1 h N 0 (by omega) (by omega);rw[show((0:Nat):Int)=0 from rfl,Nat.add_zero]at hin;have hnext:=ih (i+1) h (by omega);rw[Nat.add_mul,Nat.one_mul]at hnext;rw[ct (dt (by omega))];simp only[Z11,Z12,Z13,Z14,Z15,Z16];by_cases hin':i<m.1.toNat;·rw[ct (dt (by omega)),ct (aN (by rw[bv];omega)),Int.toNat_natCast,fc];rw[cy,if_pos hin']at hin;simp only[Z17,Z18,Z19,Z20];rw[hin];simp only[Z22];rw[a8 (by rw[bn];omega)];exact hnext
   ·rw[cf (df (by omega))];rw[cy,if_neg hin']at hin;simp only[Z17,Z18,Z19,Z20];rw[hin];simp only[Z22];rw[a8 (by rw[bn];omega)];exact hnext
  ·rw[cf (df (by omega)),show i=m.2.1.toNat by omega]
def cur_start(L:List Nat):cur m L m.2.2 0=m.2.2:=by unfold cur;rw[DU];exact rq 0 rfl
def cur_end(hd:aO m=true)(h1:L.Nodup)(h2:∀x∈L,x<m.1.toNat)(h3:L.length=m.1.toNat)(st:List Int):cur m L st (m.2.1.toNat*m.1.toNat)=(bV m (an L)).2.2:=by
 obtain⟨n,r,hn,hr,hn1,hn5,hnr,hr8,hl⟩:=aU hd;have e:m.2.1.toNat*m.1.toNat=m.2.2.length:=by rw[hl,hn,hr];simp
 rw[e];unfold cur bV;rw[gE];exact DV (λp hp=>by have:=DZ h1 h2 h3 (r:=m.2.1.toNat) (by omega) (by omega) (q:=p) (by omega);omega)
end
def ok:Spec:=λm names hb hv hp=>⟨10,λN hN=>by
 simp only[P,Bool.and_eq_true]at hp;obtain⟨hd,hnm⟩:=hp;obtain⟨L,rfl,h1,h2,h3⟩:=kK hnm;obtain⟨n,r,hn,hr,hn1,hn5,hnr,hr8,hl⟩:=aU hd;have hlen:m.2.2.length<=8*5:=by rw[hl];exact Nat.mul_le_mul hr8 hn5
 simp only[Z0,Z1,Z2,Z3];rw[ct (show fO.P (m.1,(m.2.1,m.2.2))=true from dt (show m.2.2.length<1099511627776 by omega))];simp only[Z4,Z5,Z6,Z7,Z8];have:=outer (J:=Unit×(Int×Int×List Int)×Unit) hN hd h1 h2 h3 m.2.2 (λout5_2 t4_0 t4_1 out5_0 out5_1=>Z23 N out5_2 t4_0 t4_1 out5_0 out5_1 (λt4_2 t4_0 t4_1=>some ((),((t4_0,(t4_1,t4_2)),())))) 0 0 m.1 m.2.1 N 0 (by omega) (by omega);rw[Nat.zero_mul,cur_start,cur_end hd h1 h2 h3]at this;exact this⟩
end ce
namespace bU
def P(b:List Int)(r:Int×Int)(m:Int×Int×List Int):Bool:=b8 b r&&aO m
abbrev S:=(Int×Int)×(Int×Int×List Int)
def moveS(b:List Int)(s:S):S :=
 ((aw.g b s.1 s.2.1).1,if(gd.g s.2 (aw.g b s.1 s.2.1).2).2=true then(gd.g s.2 (aw.g b s.1 s.2.1).2).1 else s.2)
def walkS(b:List Int):Nat->S->S
 |0,s=>s
 |n+1,s=>walkS b n (moveS b s)
def walked(b:List Int)(r:Int×Int)(m:Int×Int×List Int):S:=walkS b (aw.g b r 4).2.toNat ((aw.g b r 4).1,m)
def g(b:List Int)(r:Int×Int)(m:Int×Int×List Int):(Int×Int)×(Int×Int×List Int) :=
 ((cz.g b (walked b r m).1 (walked b r m).2.1).1,ce.g (walked b r m).2 (cz.g b (walked b r m).1 (walked b r m).2.1).2)
def Z1{J:Type}(N:Nat)(b0:List Int)(r0:Int×Int)(a:MT)(kn:List Int->I4 (LI->I2 (Option J))):Option J :=
 kn b0 r0.1 r0.2 a.1 a.2.1 a.2.2 0 0
def Z3{J:Type}(N:Nat)(a:List Int)(b c d e:Int)(f:LI)(h i:Int)(kn:Int->List Int->I4 (LI->I2 (Option J))):Option J :=
 cond (lk N (aw.P a (b,c) 4)) (
  kn (aw.g a (b,c) 4).2 a (aw.g a (b,c) 4).1.1 (aw.g a (b,c) 4).1.2 d e f h i) none
def Z6{J:Type}(N:Nat)(a:Int)(b:List Int)(c d e f:Int)(g:LI)(h i:Int)(kn:I2 (List Int->I4 (LI->I2 (Option J)))):Option J :=
 kn a 0 b c d e f g h i
def Z9{J:Type}(N:Nat)(c d:Int)(a:List Int)(e f b h:Int)(i:LI)(j l:Int)(kn:I2 (List Int->I4 (LI->I2 (Option J))))(k0:List Int->I4 (LI->I2 (Option J))):Option J :=
 let x1_:=(aw.g a (e,f) b);let x2_:=(gd.g (b,(h,i)) x1_.2);let x3_:=(lk N (aw.P a (e,f) b));let x0_:=(
   cond (lk N (x2_.2))
   (
   kn c (ac (d+1)) a x1_.1.1 x1_.1.2 x2_.1.1 x2_.1.2.1 x2_.1.2.2 j l)
   (
   kn c (ac (d+1)) a x1_.1.1 x1_.1.2 b h i j l))
 cond (lk N (decide (d<c)))
 (
 cj (
 cj (
 cond x3_ (
 bo x0_) none)
 (
 cond x3_ x0_ none))
 (
 cj (
 cond x3_ (
 cj (
 bo x0_)
 x0_) none)
 (
 bo (
 cond x3_ x0_ none))))
 (
 k0 a e f b h i j l)
def Z8L{J:Type}(N:Nat)(k0:List Int->I4 (LI->I2 (Option J))):Nat->Int->Int->List Int->Int->Int->Int->Int->LI->Int->Int->Option J
 |0,_,_,_,_,_,_,_,_,_,_=>none
 |M+1,a,b,c,d,e,f,g,h,i,j=>Z9 N a b c d e f g h i j (λa b c d e f g h i j=>Z8L N k0 M a b c d e f g h i j) k0
def Z8 N a b c d e f g h i j k0:=(Z8L N k0 N a b c d e f g h i j:Option J)
def Z7 N a b c d e f g h i j kn:=(Z8 N a b c d e f g h i j kn:Option J)
def Z5 N a b c d e f g h i kn:=(Z6 N a b c d e f g h i (λa j b c d e f g h i=>Z7 N a j b c d e f g h i kn):Option J)
def Z10{J:Type}(N:Nat)(b:List Int)(c d a e:Int)(f:LI)(h i:Int)(kr:LI->I2 (List Int->I2 (Option J))):Option J :=
 bo (
  cond (lk N (cz.P b (c,d) a)) (
   cond (lk N (ce.P (a,(e,f)) (cz.g b (c,d) a).2)) (
    kr (ce.g (a,(e,f)) (cz.g b (c,d) a).2).2.2 (ce.g (a,(e,f)) (cz.g b (c,d) a).2).1 (ce.g (a,(e,f)) (cz.g b (c,d) a).2).2.1 b (cz.g b (c,d) a).1.1 (cz.g b (c,d) a).1.2) none) none)
def Z4 N i a b c d e f g h kr:=(Z5 N i a b c d e f g h (λa b c d e f g h=>Z10 N a b c d e f g h kr):Option J)
def Z2 N a b c d e f g h kr:=(Z3 N a b c d e f g h (λi a b c d e f g h=>Z4 N i a b c d e f g h kr):Option J)
def Z0 N b0 r0 a kr:=(Z1 N b0 r0 a (λb c d e f g h i=>Z2 N b c d e f g h i kr):Option J)
def Spec:Prop:=∀{U:Type} (u:U) (b0:List Int) (r0:Int×Int) (v1:MT),Ty.bd (.sl 0 (.int .u8)) b0->Ty.bd (.pair (.int .i64) (.pair (.int .i64) (.sl 0 (.int .i64)))) v1->P b0 r0 v1=true->∃N0,∀N,N0<=N->Z0 N b0 r0 v1 (λv4_2 v4_0 v4_1 w0_0 w0_1 w0_2=>some (u,((w0_1,w0_2),((),((v4_0,(v4_1,v4_2)),())))))=some (u,((g b0 r0 v1).1,((),((g b0 r0 v1).2,()))))
def mut_step{m:Int×Int×List Int}{k:Int}(h:(gd.g m k).2=true):(gd.g m k).1=bf m k.toNat:=by
 unfold gd.g at h ⊢;split at h;·rename_i hc;rw[if_pos hc]
 ·cases h
structure Jd(b:List Int)(n q:Int)(s:S):Prop where
 cur:b8 b s.1=true
 dim:aO s.2=true
 hn:s.2.1=n
 hr:s.2.2.1=q
def Jd.move{b:List Int}{n q:Int}{s:S}(h:Jd b n q s):Jd b n q (moveS b s):=by
 unfold moveS;by_cases hc:(gd.g s.2 (aw.g b s.1 s.2.1).2).2=true;·rw[if_pos hc,mut_step hc];exact⟨aw.keep h.cur,nw h.dim _,h.hn,h.hr⟩
 ·rw[if_neg hc];exact⟨aw.keep h.cur,h.dim,h.hn,h.hr⟩
def Jd.walk{b:List Int}{n q:Int}:∀(c:Nat) {s:S},Jd b n q s->Jd b n q (walkS b c s)
 |0,_,h=>h
 |c+1,s,h=>Jd.walk c h.move
def zF{b:List Int}{r:Int×Int}{m:Int×Int×List Int}(h:b8 b r=true)(hd:aO m=true):Jd b m.1 m.2.1 (walked b r m) :=
 Jd.walk _ ⟨aw.keep h,hd,rfl,rfl⟩
def keep{b:List Int}{r:Int×Int}{m:Int×Int×List Int}(h:b8 b r=true)(hd:aO m=true):b8 b (g b r m).1=true:=cz.keep (zF h hd).cur
def dim{b:List Int}{r:Int×Int}{m:Int×Int×List Int}(h:b8 b r=true)(hd:aO m=true):aO (g b r m).2=true/\(g b r m).2.1=m.1/\(g b r m).2.2.1=m.2.1:=by have hj:=zF h hd;refine⟨?_,hj.hn,hj.hr⟩;have:=hj.dim;simpa[aO,g,ce.g,bV]using this
def loop{J:Type}{N:Nat}{b:List Int}(kk:List Int->Int->Int->Int->Int->List Int->Int->Int->Option J)(t0 t1 n0 q0:Int){c:Nat}(hc:c<=5):∀(M i:Nat) (s:S),i<=c->Jd b n0 q0 s->c-i<M ->
  Z8L N kk M (c:Int) (i:Int) b s.1.1 s.1.2 s.2.1 s.2.2.1 s.2.2.2 t0 t1=kk b (walkS b (c-i) s).1.1 (walkS b (c-i) s).1.2 (walkS b (c-i) s).2.1 (walkS b (c-i) s).2.2.1 (walkS b (c-i) s).2.2.2 t0 t1:=by
 intro M;induction M with
 |zero=>intro i s _ _ h;omega
 |succ M ih =>
  intro i s hi hs hM;simp only[Z8L,Z9];by_cases h:i<c
  ·have es:((s.1.1,s.1.2):Int×Int)=s.1:=rfl;have em:((s.2.1,(s.2.2.1,s.2.2.2)):Int×Int×List Int)=s.2:=rfl;have hP:aw.P b s.1 s.2.1=true:=hs.cur;have w1:ac ((i:Int)+1)=((i+1:Nat):Int):=a8 (by rw[bn];omega);rw[ct (dt (by omega))];have nxt:=ih (i+1) (moveS b s) h hs.move (by omega);have ec:c-i=(c-(i+1))+1:=by omega
   rw[ec];show _=kk b (walkS b (c-(i+1)) (moveS b s)).1.1 (walkS b (c-(i+1)) (moveS b s)).1.2 (walkS b (c-(i+1)) (moveS b s)).2.1 (walkS b (c-(i+1)) (moveS b s)).2.2.1 (walkS b (c-(i+1)) (moveS b s)).2.2.2 t0 t1;rw[<-nxt];simp only[aD,es,em,hP,cond_true,gP,w1];unfold moveS;cases hq:(gd.g s.2 (aw.g b s.1 s.2.1).2).2;·rw[if_neg (by simp)];rfl
   ·rw[if_pos rfl];rfl
  ·rw[cf (df (by omega)),show c-i=0 by omega];rfl
def ok:Spec:=λu b r m hb hbm hp=>⟨10,λN hN=>by
 simp only[P,Bool.and_eq_true]at hp;obtain⟨h,hd⟩:=hp;have h0:=aw.keep (n:=4) h;have p0:aw.P b r 4=true:=h;have er:((r.1,r.2):Int×Int)=r:=rfl;have hr:=aw.range (b:=b) (r:=r) (n:=4) (by omega) (by omega);simp only[Z0,Z1,Z2,Z3,aD,er,p0,cond_true,Z4,Z5,Z6,Z7,Z8];have hj:=zF h hd;obtain⟨c,hc⟩:=Int.eq_ofNat_of_zero_le hr.1;have hw:walked b r m=walkS b (c-0) ((aw.g b r 4).1,m):=by unfold walked;rw[hc];rfl
 rw[hc];refine(loop _ 0 0 m.1 m.2.1 (by omega) N 0 ((aw.g b r 4).1,m) (Nat.zero_le _) ⟨h0,hd,rfl,rfl⟩ (by omega)).trans ?_;simp only[g];rw[<-hw];have es:(((walked b r m).1.1,(walked b r m).1.2):Int×Int)=(walked b r m).1:=rfl;have em:(((walked b r m).2.1,((walked b r m).2.2.1,(walked b r m).2.2.2)):Int×Int×List Int)=(walked b r m).2:=rfl;obtain⟨n,q,hn,_,hn1,hn5,_⟩:=aU hj.dim;have pn:cz.P b (walked b r m).1 (walked b r m).2.1=true:=by simp only[cz.P,Bool.and_eq_true,cO];exact⟨hj.cur,by omega,by omega⟩
 have hnm:dJ (cz.g b (walked b r m).1 (walked b r m).2.1).2 (walked b r m).2.1=true:=by rw[hn];exact cz.names n
 have pr:ce.P (walked b r m).2 (cz.g b (walked b r m).1 (walked b r m).2.1).2=true:=by simp only[ce.P,Bool.and_eq_true];exact⟨hj.dim,hnm⟩
 simp only[Z10,aD,es,em,pn,pr,cond_true,gP]⟩
end bU
namespace cD
def P(b:List Int)(r:Int×Int)(most:Int):Bool:=b8 b r&&bE most 1 4
def g(b:List Int)(r:Int×Int)(most:Int):(Int×Int)×(Int×Int×List Int)×ByteArray :=
 ((bU.g b (spec_dTree.g b r most).1 (spec_dTree.g b r most).2.1).1,(bU.g b (spec_dTree.g b r most).1 (spec_dTree.g b r most).2.1).2,(spec_dTree.g b r most).2.2)
def Z0{J:Type}(N:Nat)(b0:List Int)(r0:Int×Int)(a:Int)(kr:LI->ByteArray->I2 (List Int->I2 (Option J))):Option J :=
 cond (lk N (spec_dTree.P b0 r0 a)) (
  cond (lk N (bU.P b0 (spec_dTree.g b0 r0 a).1 (spec_dTree.g b0 r0 a).2.1)) (
   kr (bU.g b0 (spec_dTree.g b0 r0 a).1 (spec_dTree.g b0 r0 a).2.1).2.2.2 (spec_dTree.g b0 r0 a).2.2 (bU.g b0 (spec_dTree.g b0 r0 a).1 (spec_dTree.g b0 r0 a).2.1).2.1 (bU.g b0 (spec_dTree.g b0 r0 a).1 (spec_dTree.g b0 r0 a).2.1).2.2.1 b0 (bU.g b0 (spec_dTree.g b0 r0 a).1 (spec_dTree.g b0 r0 a).2.1).1.1 (bU.g b0 (spec_dTree.g b0 r0 a).1 (spec_dTree.g b0 r0 a).2.1).1.2) none) none
def Spec:Prop:=∀{U:Type} (u:U) (b0:List Int) (r0:Int×Int) (v1:Int),Ty.bd (.sl 0 (.int .u8)) b0->P b0 r0 v1=true->∃N0,∀N,N0<=N->Z0 N b0 r0 v1 (λv4_2 v5 v4_0 v4_1 w0_0 w0_1 w0_2=>some (u,((w0_1,w0_2),((),((v4_0,(v4_1,v4_2)),(v5,()))))))=some (u,((g b0 r0 v1).1,((),((g b0 r0 v1).2.1,((g b0 r0 v1).2.2,())))))
def facts{b:List Int}{r:Int×Int}{most:Int}(h:b8 b r=true)(h1:1<=most)(h4:most<=4):b8 b (g b r most).1=true/\aO (g b r most).2.1=true/\(g b r most).2.1.1<=4/\(g b r most).2.1.2.1=(g b r most).2.1.1:=by obtain⟨q,q1,q4,hj⟩:=spec_dTree.facts h h1 h4;obtain⟨d1,d2,d3⟩:=bU.dim hj.cur hj.dim;have e1:=hj.hn;have e2:=hj.hr;exact⟨bU.keep hj.cur hj.dim,d1,by show(bU.g b _ _).2.1<=4;rw[d2,e1];exact q4,by show(bU.g b _ _).2.2.1=(bU.g b _ _).2.1;rw[d2,d3,e1,e2]⟩
def ok:Spec:=λu b r most hb hp=>⟨0,λN hN=>by
 simp only[P,Bool.and_eq_true,cO]at hp;obtain⟨q,q1,q4,hj⟩:=spec_dTree.facts hp.1 hp.2.1 hp.2.2;have p1:spec_dTree.P b r most=true:=by simp only[spec_dTree.P,Bool.and_eq_true,cO];exact⟨hp.1,hp.2⟩
 have p2:bU.P b (spec_dTree.g b r most).1 (spec_dTree.g b r most).2.1=true:=by simp only[bU.P,Bool.and_eq_true];exact⟨hj.cur,hj.dim⟩
 simp only[Z0,aD,p1,p2,cond_true];rfl⟩
end cD
namespace db
def P(b:List Int)(r:Int×Int)(n most:Int):Bool:=b8 b r&&bE most 0 100
def stepK(b:List Int)(n:Int)(s:(Int×Int)×List Int):(Int×Int)×List Int:=((aw.g b s.1 n).1,s.2++[(aw.g b s.1 n).2])
def lU(b:List Int)(n:Int):Nat->(Int×Int)×List Int->(Int×Int)×List Int
 |0,s=>s
 |c+1,s=>lU b n c (stepK b n s)
def g(b:List Int)(r:Int×Int)(n most:Int):(Int×Int)×List Int:=lU b n (aw.g b r (most+1)).2.toNat ((aw.g b r (most+1)).1,[])
def Z1{J:Type}(N:Nat)(b0:List Int)(r0:Int×Int)(a b:Int)(kn:I2 (List Int->I2 (Option J))):Option J :=
 kn a b b0 r0.1 r0.2
def Z3{J:Type}(N:Nat)(a b:Int)(c:List Int)(d e:Int)(kn:LI->I2 (List Int->I2 (Option J))):Option J :=
 kn ([]:List Int) a b c d e
def Z5{J:Type}(N:Nat)(e:LI)(f b:Int)(a:List Int)(c d:Int)(kn:LI->I2 (List Int->I2 (Option J))):Option J :=
 cond (lk N (aw.P a (c,d) (ac (b+1)))) (
  kn e f (aw.g a (c,d) (ac (b+1))).2 a (aw.g a (c,d) (ac (b+1))).1.1 (aw.g a (c,d) (ac (b+1))).1.2) none
def Z8{J:Type}(N:Nat)(a:LI)(b c:Int)(d:List Int)(e f:Int)(kn:LI->I3 (List Int->I2 (Option J))):Option J :=
 kn a b c 0 d e f
def Z11{J:Type}(N:Nat)(e:LI)(b f h:Int)(a:List Int)(c d:Int)(kn:LI->I3 (List Int->I2 (Option J)))(k0:LI->List Int->I2 (Option J)):Option J :=
 cond (lk N (decide (h<f)))
 (
  cond (lk N (aw.P a (c,d) b)) (
   cond (lk N (Nat.blt (e.length+([(aw.g a (c,d) b).2]:List Int).length) 1099511627776)) (
    kn (e++([(aw.g a (c,d) b).2]:List Int)) b f (ac (h+1)) a (aw.g a (c,d) b).1.1 (aw.g a (c,d) b).1.2) none) none)
 (
  k0 e a c d)
def Z10L{J:Type}(N:Nat)(k0:LI->List Int->I2 (Option J)):Nat->LI->Int->Int->Int->List Int->Int->Int->Option J
 |0,_,_,_,_,_,_,_=>none
 |M+1,a,b,c,d,e,f,g=>Z11 N a b c d e f g (λa b c d e f g=>Z10L N k0 M a b c d e f g) k0
def Z10 N a b c d e f g k0:=(Z10L N k0 N a b c d e f g:Option J)
def Z9 N a b c d e f g kn:=(Z10 N a b c d e f g kn:Option J)
def Z7 N a b c d e f kn:=(Z8 N a b c d e f (λa b c g d e f=>Z9 N a b c g d e f kn):Option J)
def Z12{J:Type}(N:Nat)(a:LI)(b:List Int)(c d:Int)(kr:LI->List Int->I2 (Option J)):Option J :=
 kr a b c d
def Z6 N a e f b c d kr:=(Z7 N a e f b c d (λa b c d=>Z12 N a b c d kr):Option J)
def Z4 N a b f c d e kr:=(Z5 N a b f c d e (λa b g c d e=>Z6 N a b g c d e kr):Option J)
def Z2 N a b c d e kr:=(Z3 N a b c d e (λf a b c d e=>Z4 N f a b c d e kr):Option J)
def Z0 N b0 r0 a b kr:=(Z1 N b0 r0 a b (λa b c d e=>Z2 N a b c d e kr):Option J)
def Spec:Prop:=∀{U:Type} (u:U) (b0:List Int) (r0:Int×Int) (v1 v2:Int),Ty.bd (.sl 0 (.int .u8)) b0->P b0 r0 v1 v2=true->∃N0,∀N,N0<=N->Z0 N b0 r0 v1 v2 (λv6 w0_0 w0_1 w0_2=>some (u,((w0_1,w0_2),((),(v6,())))))=some (u,((g b0 r0 v1 v2).1,((),((g b0 r0 v1 v2).2,()))))
def Fl{b:List Int}{n:Int}(h1:1<=n)(h2:n<=256):∀(c:Nat) {s:(Int×Int)×List Int},(∀x∈s.2,0<=x/\x<n)->(∀x∈(lU b n c s).2,0<=x/\x<n)/\(lU b n c s).2.length=s.2.length+c
 |0,_,h=>⟨h,rfl⟩
 |c+1,s,h=>by
  have:=Fl h1 h2 (b:=b) c (s:=stepK b n s) (λx hx=>by
   rcases List.mem_append.1 hx with hx|hx;·exact h x hx
   ·rw[List.mem_singleton.1 hx];exact aw.range h1 h2)
  refine⟨this.1,this.2.trans ?_⟩;simp[stepK];omega
def range{b:List Int}{r:Int×Int}{n most:Int}(h1:1<=n)(h2:n<=256)(hm:0<=most/\most<=100):(∀x∈(g b r n most).2,0<=x/\x<n)/\((g b r n most).2.length:Int)<=most:=by have h0:=aw.range (b:=b) (r:=r) (n:=most+1) (by omega) (by omega);have:=Fl h1 h2 (b:=b) (aw.g b r (most+1)).2.toNat (s:=((aw.g b r (most+1)).1,[])) (λx hx=>by cases hx);refine⟨this.1, ?_⟩;have h3:(g b r n most).2.length=0+(aw.g b r (most+1)).2.toNat:=this.2;omega
def loop{J:Type}{N:Nat}{b:List Int}(n:Int)(k0:List Int->List Int->Int->Int->Option J){c:Nat}(hc:c<=101):∀(M i:Nat) (s:(Int×Int)×List Int),i<=c->b8 b s.1=true->s.2.length+(c-i)<=1000->c-i<M ->
  Z10L N k0 M s.2 n (c:Int) (i:Int) b s.1.1 s.1.2=k0 (lU b n (c-i) s).2 b (lU b n (c-i) s).1.1 (lU b n (c-i) s).1.2:=by
 intro M;induction M with
 |zero=>intro i s _ _ _ h;omega
 |succ M ih =>
  intro i s hi hs hl hM;simp only[Z10L,Z11];by_cases h:i<c;·have es:((s.1.1,s.1.2):Int×Int)=s.1:=rfl;have hP:aw.P b s.1 n=true:=hs;have w1:ac ((i:Int)+1)=((i+1:Nat):Int):=a8 (by rw[bn];omega);have c1:Nat.blt (s.2.length+([(aw.g b s.1 n).2]:List Int).length) 1099511627776=true:=Nat.ble_eq_true_of_le (by rw[List.length_singleton];omega);rw[ct (dt (by omega)),es,ct hP,ct c1,w1,show c-i=(c-(i+1))+1 by omega];exact ih (i+1) (stepK b n s) h (aw.keep hs) (by simp[stepK];omega) (by omega)
  ·rw[cf (df (by omega)),show c-i=0 by omega];rfl
def ok:Spec:=λu b r n most hb hp=>⟨200,λN hN=>by simp only[P,Bool.and_eq_true,cO]at hp;obtain⟨h,hm⟩:=hp;have h0:=aw.keep (n:=most+1) h;have hr:=aw.range (b:=b) (r:=r) (n:=most+1) (by omega) (by omega);have er:((r.1,r.2):Int×Int)=r:=rfl;have p0:aw.P b r (most+1)=true:=h;simp only[Z1,Z3,Z5,Z8,Z11,Z10,Z9,Z7,Z12,Z6,Z4,Z2,Z0];rw[er,aR (n:=most+1) (by omega) (by omega),ct p0];obtain⟨c,hc⟩:=Int.eq_ofNat_of_zero_le hr.1;have key:=λ{J:Type} (k0:List Int->List Int->Int->Int->Option J)=>loop (J:=J) (N:=N) n k0 (c:=c) (by omega) N 0 ((aw.g b r (most+1)).1,[]) (Nat.zero_le _) h0 (by simp;omega) (by omega);rw[hc];refine(key _).trans ?_;unfold g;rw[hc];rfl⟩
end db
namespace fP
def g(b:List Int):(Int×Int×List Int)×ByteArray×List Int:=((cD.g b (bP.g b) 4).2.1,(cD.g b (bP.g b) 4).2.2,(db.g b (cD.g b (bP.g b) 4).1 (cD.g b (bP.g b) 4).2.1.1 6).2)
def Z0{J:Type}(N:Nat)(a:List Int)(kr:LI->LI->ByteArray->I2 (Option J)):Option J :=
 cond (lk N (cD.P a (bP.g a) 4)) (
  bo (
   cond (lk N (db.P a (cD.g a (bP.g a) 4).1 (cD.g a (bP.g a) 4).2.1.1 6)) (
    kr (db.g a (cD.g a (bP.g a) 4).1 (cD.g a (bP.g a) 4).2.1.1 6).2 (cD.g a (bP.g a) 4).2.1.2.2 (cD.g a (bP.g a) 4).2.2 (cD.g a (bP.g a) 4).2.1.1 (cD.g a (bP.g a) 4).2.1.2.1) none)) none
def Spec:Prop:=∀ (v0:List Int),Ty.bd (.sl 0 (.int .u8)) v0->∃N0,∀N,N0<=N->Z0 N v0 (λv4 v2_2 v3 v2_0 v2_1=>some ((),((v2_0,(v2_1,v2_2)),(v3,(v4,())))))=some ((),((g v0).1,((g v0).2.1,((g v0).2.2,()))))
def cur0{b:List Int}(h:b.length<=maxLen):b8 b (bP.g b)=true:=by rw[yK];exact⟨Int.le_refl 0,by show(0:Int)<=_;omega,h⟩
def ok:Spec:=λb hb=>⟨0,λN hN=>by
 have h0:=cur0 hb.1;obtain⟨h1,d1,n4,hsq⟩:=cD.facts (most:=4) h0 (by omega) (by omega);have p1:cD.P b (bP.g b) 4=true:=by simp only[cD.P,Bool.and_eq_true,cO];exact⟨h0,by omega,by omega⟩
 have p2:db.P b (cD.g b (bP.g b) 4).1 (cD.g b (bP.g b) 4).2.1.1 6=true:=by simp only[db.P,Bool.and_eq_true,cO];exact⟨h1,by omega,by omega⟩
 simp only[Z0,aD,p1,p2,cond_true,bo,gP];rfl⟩
end fP
namespace gy
def g(n low high:Int):Bool:=bE n low high
def Z0{J:Type}(N:Nat)(a b c:Int)(kr:Bool->Option J):Option J :=
 cond (lk N (decide (b<=a)))
 (
  kr (lk N (decide (a<=c))))
 (
  kr false)
def Spec:Prop:=∀ (v0 v1 v2:Int),∃N0,∀N,N0<=N->Z0 N v0 v1 v2 (λv6=>some ((),(v6,())))=some ((),((g v0 v1 v2),()))
def ok:Spec:=λn low high=>⟨0,λN hN=>by simp only[Z0,aD,g,bE];cases decide (low<=n)<;>rfl⟩
end gy
namespace gz
def g(x:Int):Bool:=!bE x (-99) 99
def Z0{J:Type}(N:Nat)(a:Int)(kr:Bool->Option J):Option J :=
 kr (!(lk N ((gy.g a (-99) 99))))
def Spec:Prop:=∀ (v0:Int),∃N0,∀N,N0<=N->Z0 N v0 (λv2=>some ((),(v2,())))=some ((),((g v0),()))
def ok:Spec:=λn=>⟨0,λN hN=>by simp only[Z0,g,aD,gy.g]⟩
end gz
namespace fy
def go(p:Int->Bool):List Int->Nat->Int
 |[],_=>-1
 |x::xs,j=>if p x=true then(j:Int)else go p xs (j+1)
def g(s:List Int)(_:Unit):Int:=go gz.g s 0
def Z1{J:Type}(N:Nat)(a:LI)(b:Unit)(kn:LI->Option J):Option J :=
 kn a
def Z4{J:Type}(N:Nat)(a:LI)(kn:LI->I2 (Option J)):Option J :=
 kn a (a.length:Int) 0
def Z7{J:Type}(N:Nat)(b:LI)(c a:Int)(kn:LI->I2 (Option J))(k0:Option J)(kr:Int->Option J):Option J :=
 cond (lk N (decide (a<c)))
 (
  cond (lk N (ax a b.length)) (
   cond (lk N ((gz.g (b.getD a.toNat 0))))
   (
    kr a)
   (
    kn b c (ac (a+1)))) none)
 (
  k0)
def Z6L{J:Type}(N:Nat)(k0:Option J)(kr:Int->Option J):Nat->LI->Int->Int->Option J
 |0,_,_,_=>none
 |M+1,a,b,c=>Z7 N a b c (λa b c=>Z6L N k0 kr M a b c) k0 kr
def Z6 N a b c k0 kr:=(Z6L N k0 kr N a b c:Option J)
def Z5 N a b c kn kr:=(Z6 N a b c kn kr:Option J)
def Z3 N a kn kr:=(Z4 N a (λa b c=>Z5 N a b c kn kr):Option J)
def Z8{J:Type}(N:Nat) (kr:Int->Option J):Option J :=
 kr (-1)
def Z2 N a kr:=(Z3 N a (Z8 N kr) kr:Option J)
def Z0 N a b kr:=(Z1 N a b (λa=>Z2 N a kr):Option J)
def Spec:Prop:=∀ (v0:LI) (v1:Unit),Ty.bd (.sl 0 (.int .i64)) v0->∃N0,∀N,N0<=N->Z0 N v0 v1 (λv4=>some ((),(v4,())))=some ((),((g v0 v1),()))
def loop{J:Type}(N:Nat)(kr:Int->Option J)(a:List Int)(ha:a.length<=maxLen):∀(M j:Nat),j<=a.length->a.length-j<M ->
  Z6L N (kr (-1)) kr M a (a.length:Int) (j:Int)=kr (go gz.g (a.drop j) j):=by
 intro M;induction M with
 |zero=>intro j _ h;omega
 |succ M ih =>
  intro j hj hM;simp only[Z6L,Z7];by_cases h:j<a.length
  ·rw[ct (dt (by omega)),ct (aN h),Int.toNat_natCast,a8 (by omega),ih (j+1) h (by omega),fb 0 h,go];cases e:gz.g (a.getD j 0);·rw[cf rfl,if_neg (by simp)]
   ·rw[ct rfl,if_pos rfl]
  ·rw[cf (df (by omega)),List.drop_of_length_le (by omega),go]
def ok:Spec:=λa _ ha=>⟨a.length+1,λN hN=>by simp only[Z1,Z4,Z7,Z6,Z5,Z3,Z8,Z2,Z0];exact(loop N (λt=>some ((),(t,()))) a ha.1 N 0 (by omega) (by omega)).trans rfl⟩
def go_pos(p:Int->Bool):∀(l:List Int) (j:Nat),0<=go p l j↔∃x∈l,p x=true
 |[],j=>by simp[go]
 |x::xs,j=>by
  rw[go];by_cases h:p x=true;·rw[if_pos h];simp[h]
  ·rw[if_neg h,go_pos p xs];simp[h]
end fy
namespace kY
def g(s:List Int)(_:Unit):Bool:=s.any gz.g
def Z0{J:Type}(N:Nat)(a:LI)(b:Unit)(kr:Bool->Option J):Option J :=
 kr (lk N (decide (0<=(fy.g a ()))))
def Spec:Prop:=∀ (v0:LI) (v1:Unit),Ty.bd (.sl 0 (.int .i64)) v0->∃N0,∀N,N0<=N->Z0 N v0 v1 (λv4=>some ((),(v4,())))=some ((),((g v0 v1),()))
def ok:Spec:=λa _ ha=>⟨0,λN hN=>by
 simp only[Z0,aD,g];have:=(show 0<=fy.g a ()↔∃x∈a,gz.g x=true from fy.go_pos gz.g a 0);cases e:a.any gz.g;·rw[df (λh=>by have:=this.1 h;rw[<-List.any_eq_true,e]at this;cases this)]
 ·rw[dt (this.2 (List.any_eq_true.1 e))]⟩
end kY
namespace kZ
def g(m:Int×Int×List Int):Bool:=aX m
def Z0{J:Type}(N:Nat)(a:MT)(kr:Bool->Option J):Option J :=
 cond (lk N ((gy.g a.1 1 5)))
 (
  cond (lk N ((gy.g a.2.1 a.1 8)))
  (
   cond (lk N (decide ((a.2.2.length:Int)=(ac (a.1*a.2.1)))))
   (
    kr (!(lk N ((kY.g a.2.2 ())))))
   (
    kr false))
  (
   kr false))
 (
  kr false)
def Spec:Prop:=∀ (v0:MT),Ty.bd (.pair (.int .i64) (.pair (.int .i64) (.sl 0 (.int .i64)))) v0->∃N0,∀N,N0<=N->Z0 N v0 (λv2=>some ((),(v2,())))=some ((),((g v0),()))
def ok:Spec:=λm hb=>⟨0,λN hN=>by
 simp only[Z0,g,aD,gy.g,aX,aO,kY.g,List.not_any_eq_all_not,lH];cases h1:bE m.1 1 5;·rfl
 cases h2:bE m.2.1 m.1 8;·rfl
 have e1:=cO.1 h1;have e2:=cO.1 h2;have e3:0<=m.1*m.2.1:=Int.mul_nonneg (by omega) (by omega);have e4:m.1*m.2.1<=5*8:=Int.mul_le_mul (by omega) (by omega) (by omega) (by omega);rw[aR (by omega) (by omega)];cases h3:decide ((m.2.2.length:Int)=m.1*m.2.1);·rfl
 simp[gz.g]⟩
end kZ
namespace b9
def P(m:Int×Int×List Int)(i j:Int):Bool:=oM m i j
def g(m:Int×Int×List Int)(i j:Int):Int:=oN m i j
def Z0{J:Type}(N:Nat)(a:MT)(b c:Int)(kr:Int->Option J):Option J :=
 cond (lk N (ax (ac ((ac (b*a.1))+c)) a.2.2.length)) (
  kr (a.2.2.getD (ac ((ac (b*a.1))+c)).toNat 0)) none
def Spec:Prop:=∀ (v0:MT) (v1 v2:Int),Ty.bd (.pair (.int .i64) (.pair (.int .i64) (.sl 0 (.int .i64)))) v0->P v0 v1 v2=true->∃N0,∀N,N0<=N->Z0 N v0 v1 v2 (λv6=>some ((),(v6,())))=some ((),((g v0 v1 v2),()))
def ok:Spec:=λm i j hb hp=>⟨0,λN hN=>by obtain⟨h1,h2,h3⟩:=Dv hb.2.2.1 hp;simp only[Z0,g,oN,h1];rw[ct (Da h2 h3)]⟩
end b9
namespace dc
def P(a b:Int):Bool:=decide (0<=a)&&(decide (a<9223372036854775808)&&(decide (0<=b)&&decide (b<9223372036854775808)))
def g(a b:Int):Int:=(Int.gcd a b:Int)
def Z1{J:Type}(N:Nat)(a b:Int)(kn:I2 (Option J)):Option J :=
 kn a b
def Z5{J:Type}(N:Nat)(b a:Int)(kn:I2 (Option J))(k0:Int->Option J):Option J :=
 cond (lk N (!(decide (a=0))))
 (
  cond (lk N (!(decide (a=0)))) (
   kn a (Int.tmod b a)) none)
 (
  k0 b)
def Z4L{J:Type}(N:Nat)(k0:Int->Option J):Nat->Int->Int->Option J
 |0,_,_=>none
 |M+1,a,b=>Z5 N a b (λa b=>Z4L N k0 M a b) k0
def Z4 N a b k0:=(Z4L N k0 N a b:Option J)
def Z3 N a b kn:=(Z4 N a b kn:Option J)
def Z6{J:Type}(N:Nat)(a:Int)(kr:Int->Option J):Option J :=
 kr (mx a (ac (0-a)))
def Z2 N a b kr:=(Z3 N a b (λa=>Z6 N a kr):Option J)
def Z0 N a b kr:=(Z1 N a b (λa b=>Z2 N a b kr):Option J)
def Spec:Prop:=∀ (v0 v1:Int),P v0 v1=true->∃N0,∀N,N0<=N->Z0 N v0 v1 (λv4=>some ((),(v4,())))=some ((),((g v0 v1),()))
def loop{J:Type}(N:Nat)(k0:Int->Option J):∀(M:Nat) (a b:Nat),b<M->Z4L N k0 M (a:Int) (b:Int)=k0 (Nat.gcd b a:Nat):=by
 intro M;induction M with
 |zero=>intro a b h;omega
 |succ M ih =>
  intro a b hM;simp only[Z4L,Z5];by_cases h:b=0;·subst h;rw[cf (by simp),Nat.gcd_zero_left]
  ·rw[ct (nt (by omega)),ct (nt (by omega)),show Int.tmod (a:Int) (b:Int)=((a%b:Nat):Int)from rfl,ih _ _ (by have:=Nat.mod_lt a (Nat.pos_of_ne_zero h);omega),<-Nat.gcd_rec]
def ok:Spec:=λa b hp=>⟨b.toNat+1,λN hN=>by
 simp only[P,Bool.and_eq_true,decide_eq_true_eq]at hp;obtain⟨h1,h2,h3,h4⟩:=hp;obtain⟨x,rfl⟩:=Int.eq_ofNat_of_zero_le h1;obtain⟨y,rfl⟩:=Int.eq_ofNat_of_zero_le h3;simp only[Z1,Z5,Z4,Z3,Z6,Z2,Z0,g];rw[loop N _ N x y (by omega),Nat.gcd_comm];have hl:Nat.gcd x y<=max x y:=by
  rcases Nat.eq_zero_or_pos x with h|h;·subst h;rw[Nat.gcd_zero_left];omega
  ·have:=Nat.gcd_le_left y h;omega
 show some ((),(mx ((Nat.gcd x y:Nat):Int) (ac (0-((Nat.gcd x y:Nat):Int))),()))=some ((),(((Nat.gcd x y:Nat):Int),()));rw[aR (by omega) (by omega),tV];congr 3;omega⟩
end dc
namespace aH
def P(m:Int×Int×List Int):Bool:=aX m
abbrev g(m:Int×Int×List Int):List Int:=ba m
def Z1{J:Type}(N:Nat)(a:MT)(kn:I2 (LI->Option J)):Option J :=
 kn a.1 a.2.1 a.2.2
def Z3{J:Type}(N:Nat)(a b:Int)(c:LI)(kn:LI->LI->I2 (LI->Option J)):Option J :=
 bo (
  cond (lk N (bN 0 a&&decide (a<1099511627776))) (
   cond (lk N (bN 0 a&&decide (a<1099511627776))) (
    kn (List.replicate a.toNat (0:Int)) (List.replicate a.toNat (0:Int)) a b c) none) none)
def Z5{J:Type}(N:Nat)(b c:LI)(a d:Int)(e:LI)(kn:LI->LI->LI->I2 (LI->Option J)):Option J :=
 cond (lk N (bN 0 a&&decide (a<1099511627776))) (
  kn b c (List.replicate a.toNat (0:Int)) a d e) none
def Z8{J:Type}(N:Nat)(a b c:LI)(d e:Int)(f:LI)(kn:LI->LI->LI->I4 (LI->Option J)):Option J :=
 kn a b c (a.length:Int) 0 d e f
def Z12{J:Type}(N:Nat)(c d e:LI)(a b f g:Int)(h:LI)(kn:LI->LI->LI->I2 (Bool->I2 (LI->Option J))):Option J :=
 kn c d e a b (lk N (decide (b<a))) f g h
def Z14{J:Type}(N:Nat)(b c a:LI)(d e:Int)(f:Bool)(g h:Int)(i:LI)(kn:LI->LI->LI->I4 (LI->Option J))(k0:LI->Option J):Option J :=
 cond (f)
 (
  kn b c a d e g h i)
 (
  k0 a)
def Z18{J:Type}(N:Nat)(b c d:LI)(e a f g:Int)(h:LI)(kn:LI->LI->LI->I5 (LI->Option J)):Option J :=
 kn b c d a e a f g h
def Z20{J:Type}(N:Nat)(a c d:LI)(b e f g h:Int)(i:LI)(kn:LI->LI->LI->I5 (LI->Option J))(k1:LI->LI->LI->I4 (LI->Option J)):Option J :=
 cond (lk N (ax b a.length)) (
  cond (lk N (!(decide ((a.getD b.toNat 0)=0))))
  (
   k1 a c d e f g h i)
  (
   kn a c d b e f g h i)) none
def Z22{J:Type}(N:Nat)(b c d:LI)(a e f g h:Int)(i:LI)(kn:LI->LI->LI->I5 (LI->Option J)):Option J :=
 cond (lk N (ax a b.length)) (
  cond (lk N (ax a c.length)) (
   kn (b.set a.toNat 1) (c.set a.toNat 1) d a e f g h i) none) none
def Z24{J:Type}(N:Nat)(a b c:LI)(d e f g h:Int)(i:LI)(kn:LI->LI->LI->LI->I4 (LI->Option J)):Option J :=
 kn a b c ([d]:List Int) e f g h i
def Z27{J:Type}(N:Nat)(a b c d:LI)(e f g h:Int)(i:LI)(kn:LI->LI->LI->LI->I5 (LI->Option J)):Option J :=
 kn a b c d 0 e f g h i
def Z31{J:Type}(N:Nat)(b c d a:LI)(e f g h i:Int)(j:LI)(kn:LI->LI->LI->LI->I5 (LI->Option J))(k2:LI->LI->LI->LI->I4 (LI->Option J)):Option J :=
 cond (lk N (decide (e<(a.length:Int))))
 (
  kn b c d a e f g h i j)
 (
  k2 b c d a f g h i j)
def Z35{J:Type}(N:Nat)(c d e a:LI)(b f g h i:Int)(j:LI)(kn:LI->LI->LI->LI->I6 (LI->Option J)):Option J :=
 cond (lk N (ax b a.length)) (
  kn c d e a b (a.getD b.toNat 0) f g h i j) none
def Z37{J:Type}(N:Nat)(a b c d:LI)(e f g h i j:Int)(l:LI)(kn:LI->LI->LI->LI->I8 (LI->Option J)):Option J :=
 kn a b c d e f g h (a.length:Int) 0 i j l
def Z41{J:Type}(N:Nat)(c d e f:LI)(g h i j a b l m:Int)(o:LI)(kn:LI->LI->LI->LI->I6 (Bool->I2 (LI->Option J))):Option J :=
 kn c d e f g h i j a b (lk N (decide (b<a))) l m o
def Z43{J:Type}(N:Nat)(a b c d:LI)(e l f g m o:Int)(p:Bool)(h i:Int)(j:LI)(kn:LI->LI->LI->LI->I8 (LI->Option J))(k4:LI->LI->LI->LI->I5 (LI->Option J)):Option J :=
 cond (p)
 (
  kn a b c d e l f g m o h i j)
 (
  k4 a b c d e f g h i j)
def Z47{J:Type}(N:Nat)(b c d e:LI)(f g h i j a l m:Int)(o:LI)(kn:LI->LI->LI->LI->Int->I8 (LI->Option J)):Option J :=
 kn b c d e f g a h i j a l m o
def Z49{J:Type}(N:Nat)(f h i j:LI)(l a b m o p q c d:Int)(e:LI)(kn:LI->LI->LI->LI->I3 (I8 (LI->Option J))):Option J :=
 cond (lk N (b9.P (c,(d,e)) a b)) (
  cond (lk N (b9.P (c,(d,e)) b a)) (
   kn f h i j l a b (b9.g (c,(d,e)) a b) (ac (0-(b9.g (c,(d,e)) b a))) m o p q c d e) none) none
def Z51{J:Type}(N:Nat)(a b c d:LI)(e f r g h i j l m o p:Int)(q:LI)(kn:LI->LI->LI->LI->I3 (I8 (LI->Option J)))(k5:LI->LI->LI->LI->I8 (LI->Option J)):Option J :=
 cond (lk N (decide (g=0)))
 (
  cond (lk N (decide (h=0)))
  (
   k5 a b c d e f i j l m o p q)
  (
   kn a b c d e f r g h i j l m o p q))
 (
  kn a b c d e f r g h i j l m o p q)
def Z52{J:Type}(N:Nat)(b c i h:LI)(j d a e f l m o p q r:Int)(s:LI)(kn:LI->LI->LI->LI->I8 (LI->Option J))(kr:LI->Option J):Option J :=
 let x1_:=(ac ((b.getD d.toNat 0)*(mx e (ac (0-e)))));let x2_:=(ac ((c.getD d.toNat 0)*(mx f (ac (0-f)))));let x0_:=(dc.g x1_ x2_);cond (lk N (decide (e=0)))
 (
 kr ([]:List Int))
 (
 cond (lk N (decide (f=0)))
 (
 kr ([]:List Int))
 (
 cond (lk N (!(((lk N (decide (0<e))) == (lk N (decide (0<f)))))))
 (
 kr ([]:List Int))
 (
 cond (lk N (decide (d=a)))
 (
 kr ([]:List Int))
 (
 cond (lk N (ax d b.length)) (
 cond (lk N (ax d c.length)) (
 cond (lk N (dc.P x1_ x2_)) (
 cond (lk N (!(decide (x0_=0)))) (
 cond (lk N (!(decide (x0_=0)))) (
 cond (lk N (ax a b.length)) (
 cond (lk N (decide ((b.getD a.toNat 0)=0)))
 (
 cond (lk N (ax a b.length)) (
 cond (lk N (ax a c.length)) (
 cond (lk N (Nat.blt (h.length+([a]:List Int).length) 1099511627776)) (
 kn (b.set a.toNat (ac (Int.tdiv x1_ x0_))) (c.set a.toNat (ac (Int.tdiv x2_ x0_))) i (h++([a]:List Int)) j d l m o p q r s) none) none) none)
 (
 cond (lk N (ax a b.length)) (
 cond (lk N (!(decide ((b.getD a.toNat 0)=(ac (Int.tdiv x1_ x0_))))))
 (
 kr ([]:List Int))
 (
 cond (lk N (ax a c.length)) (
 cond (lk N (!(decide ((c.getD a.toNat 0)=(ac (Int.tdiv x2_ x0_))))))
 (
 kr ([]:List Int))
 (
 kn b c i h j d l m o p q r s)) none)) none)) none) none) none) none) none) none))))
def Z50 N a b c d e f g h i j l m o p q r kn k5 kr:=(Z51 N a b c d e f g h i j l m o p q r (λa b c d e f g h i j l m o p q r=>Z52 N a b c d e f g h i j l m o p q r kn kr) k5:Option J)
def Z48 N a b c d e f g h i j l m o p kn k5 kr:=(Z49 N a b c d e f g h i j l m o p (λa b c d e f g q r h i j l m o p=>Z50 N a b c d e f g q r h i j l m o p kn k5 kr):Option J)
def Z46 N a b c d e f g h i j l m o kn k5 kr:=(Z47 N a b c d e f g h i j l m o (λa b c d e f p g h i j l m o=>Z48 N a b c d e f p g h i j l m o kn k5 kr):Option J)
def Z45 N a b c d e f g h i j l m o kn kr:=(Z46 N a b c d e f g h i j l m o kn kn kr:Option J)
def Z53{J:Type}(N:Nat)(a b c d:LI)(e f g h i j l m:Int)(o:LI)(kn:LI->LI->LI->LI->I8 (LI->Option J)):Option J :=
 kn a b c d e f g h i (ac (j+1)) l m o
def Z44 N a b c d e f g h i j l m o kn kr:=(Z45 N a b c d e f g h i j l m o (λa b c d e f g h i j l m o=>Z53 N a b c d e f g h i j l m o kn) kr:Option J)
def Z42 N a b c d e f g h i j p l m o kn k4 kr:=(Z43 N a b c d e f g h i j p l m o (λa b c d e f g h i j l m o=>Z44 N a b c d e f g h i j l m o kn kr) k4:Option J)
def Z40 N a b c d e f g h i j l m o kn k4 kr:=(Z41 N a b c d e f g h i j l m o (λa b c d e f g h i j p l m o=>Z42 N a b c d e f g h i j p l m o kn k4 kr):Option J)
def Z39L{J:Type}(N:Nat)(k4:LI->LI->LI->LI->I5 (LI->Option J))(kr:LI->Option J):Nat->LI->LI->LI->LI->Int->Int->Int->Int->Int->Int->Int->Int->LI->Option J
 |0,_,_,_,_,_,_,_,_,_,_,_,_,_=>none
 |M+1,a,b,c,d,e,f,g,h,i,j,l,m,o=>Z40 N a b c d e f g h i j l m o (λa b c d e f g h i j l m o=>Z39L N k4 kr M a b c d e f g h i j l m o) k4 kr
def Z39 N a b c d e f g h i j l m o k4 kr:=(Z39L N k4 kr N a b c d e f g h i j l m o:Option J)
def Z38 N a b c d e f g h i j l m o kn kr:=(Z39 N a b c d e f g h i j l m o kn kr:Option J)
def Z36 N a b c d e f g h i j l kn kr:=(Z37 N a b c d e f g h i j l (λa b c d e f g h m o i j l=>Z38 N a b c d e f g h m o i j l kn kr):Option J)
def Z34 N a b c d e f g h i j kn kr:=(Z35 N a b c d e f g h i j (λa b c d e l f g h i j=>Z36 N a b c d e l f g h i j kn kr):Option J)
def Z33 N a b c d e f g h i j kn kr:=(Z34 N a b c d e f g h i j kn kr:Option J)
def Z54{J:Type}(N:Nat)(a b c d:LI)(e f g h i:Int)(j:LI)(kn:LI->LI->LI->LI->I5 (LI->Option J)):Option J :=
 kn a b c d (ac (e+1)) f g h i j
def Z32 N a b c d e f g h i j kn kr:=(Z33 N a b c d e f g h i j (λa b c d e f g h i j=>Z54 N a b c d e f g h i j kn) kr:Option J)
def Z30 N a b c d e f g h i j kn k2 kr:=(Z31 N a b c d e f g h i j (λa b c d e f g h i j=>Z32 N a b c d e f g h i j kn kr) k2:Option J)
def Z29L{J:Type}(N:Nat)(k2:LI->LI->LI->LI->I4 (LI->Option J))(kr:LI->Option J):Nat->LI->LI->LI->LI->Int->Int->Int->Int->Int->LI->Option J
 |0,_,_,_,_,_,_,_,_,_,_=>none
 |M+1,a,b,c,d,e,f,g,h,i,j=>Z30 N a b c d e f g h i j (λa b c d e f g h i j=>Z29L N k2 kr M a b c d e f g h i j) k2 kr
def Z29 N a b c d e f g h i j k2 kr:=(Z29L N k2 kr N a b c d e f g h i j:Option J)
def Z28 N a b c d e f g h i j kn kr:=(Z29 N a b c d e f g h i j kn kr:Option J)
def Z26 N a b c d e f g h i kn kr:=(Z27 N a b c d e f g h i (λa b c d j e f g h i=>Z28 N a b c d j e f g h i kn kr):Option J)
def Z56{J:Type}(N:Nat)(a b c d:LI)(e f g h:Int)(i:LI)(kn:LI->LI->LI->LI->I5 (LI->Option J)):Option J :=
 kn a b c d 1 e f g h i
def Z59{J:Type}(N:Nat)(b c d a:LI)(e f g h i:Int)(j:LI)(kn:LI->LI->LI->LI->I7 (LI->Option J)):Option J :=
 kn b c d a e f g (a.length:Int) 0 h i j
def Z62{J:Type}(N:Nat)(e c f a:LI)(d h i j b l m:Int)(o:LI)(kn:LI->LI->LI->LI->I7 (LI->Option J))(k6:LI->LI->LI->LI->I5 (LI->Option J)):Option J :=
 cond (lk N (decide (b<j)))
 (
  cond (lk N (ax b a.length)) (
   cond (lk N (ax (a.getD b.toNat 0) c.length)) (
    cond (lk N (ax (a.getD b.toNat 0) c.length)) (
     cond (lk N (dc.P d (c.getD (a.getD b.toNat 0).toNat 0))) (
      cond (lk N (!(decide ((dc.g d (c.getD (a.getD b.toNat 0).toNat 0))=0)))) (
       kn e c f a (ac ((ac (Int.tdiv d (dc.g d (c.getD (a.getD b.toNat 0).toNat 0))))*(c.getD (a.getD b.toNat 0).toNat 0))) h i j (ac (b+1)) l m o) none) none) none) none) none)
 (
  k6 e c f a d h i l m o)
def Z61L{J:Type}(N:Nat)(k6:LI->LI->LI->LI->I5 (LI->Option J)):Nat->LI->LI->LI->LI->Int->Int->Int->Int->Int->Int->Int->LI->Option J
 |0,_,_,_,_,_,_,_,_,_,_,_,_=>none
 |M+1,a,b,c,d,e,f,g,h,i,j,l,m=>Z62 N a b c d e f g h i j l m (λa b c d e f g h i j l m=>Z61L N k6 M a b c d e f g h i j l m) k6
def Fm N a b c d e f g h i j l m k6:=(Z61L N k6 N a b c d e f g h i j l m:Option J)
def Z60 N a b c d e f g h i j l m kn:=(Fm N a b c d e f g h i j l m kn:Option J)
def Z58 N a b c d e f g h i j kn:=(Z59 N a b c d e f g h i j (λa b c d e f g l m h i j=>Z60 N a b c d e f g l m h i j kn):Option J)
def Z64{J:Type}(N:Nat)(a b c d:LI)(e f g h i:Int)(j:LI)(kn:LI->LI->LI->LI->I6 (LI->Option J)):Option J :=
 kn a b c d e 0 f g h i j
def Z67{J:Type}(N:Nat)(b c d a:LI)(e f g h i j:Int)(l:LI)(kn:LI->LI->LI->LI->I8 (LI->Option J)):Option J :=
 kn b c d a e f g h (a.length:Int) 0 i j l
def Z70{J:Type}(N:Nat)(d c e a:LI)(f h i j l b m o:Int)(p:LI)(kn:LI->LI->LI->LI->I8 (LI->Option J))(k8:LI->LI->LI->LI->I5 (LI->Option J)):Option J :=
 cond (lk N (decide (b<l)))
 (
  cond (lk N (ax b a.length)) (
   cond (lk N (ax (a.getD b.toNat 0) c.length)) (
    cond (lk N (!(decide ((c.getD (a.getD b.toNat 0).toNat 0)=0)))) (
     cond (lk N (ax (a.getD b.toNat 0) d.length)) (
      cond (lk N (ax (a.getD b.toNat 0) e.length)) (
       cond (lk N (ax (a.getD b.toNat 0) (e.set (a.getD b.toNat 0).toNat (ac ((ac (Int.tdiv f (c.getD (a.getD b.toNat 0).toNat 0)))*(d.getD (a.getD b.toNat 0).toNat 0)))).length)) (
        cond (lk N (dc.P h ((e.set (a.getD b.toNat 0).toNat (ac ((ac (Int.tdiv f (c.getD (a.getD b.toNat 0).toNat 0)))*(d.getD (a.getD b.toNat 0).toNat 0)))).getD (a.getD b.toNat 0).toNat 0))) (
         kn d c (e.set (a.getD b.toNat 0).toNat (ac ((ac (Int.tdiv f (c.getD (a.getD b.toNat 0).toNat 0)))*(d.getD (a.getD b.toNat 0).toNat 0)))) a f (dc.g h ((e.set (a.getD b.toNat 0).toNat (ac ((ac (Int.tdiv f (c.getD (a.getD b.toNat 0).toNat 0)))*(d.getD (a.getD b.toNat 0).toNat 0)))).getD (a.getD b.toNat 0).toNat 0)) i j l (ac (b+1)) m o p) none) none) none) none) none) none) none)
 (
  k8 d c e a h i j m o p)
def Z69L{J:Type}(N:Nat)(k8:LI->LI->LI->LI->I5 (LI->Option J)):Nat->LI->LI->LI->LI->Int->Int->Int->Int->Int->Int->Int->Int->LI->Option J
 |0,_,_,_,_,_,_,_,_,_,_,_,_,_=>none
 |M+1,a,b,c,d,e,f,g,h,i,j,l,m,o=>Z70 N a b c d e f g h i j l m o (λa b c d e f g h i j l m o=>Z69L N k8 M a b c d e f g h i j l m o) k8
def Fn N a b c d e f g h i j l m o k8:=(Z69L N k8 N a b c d e f g h i j l m o:Option J)
def Z68 N a b c d e f g h i j l m o kn:=(Fn N a b c d e f g h i j l m o kn:Option J)
def Z66 N a b c d e f g h i j l kn:=(Z67 N a b c d e f g h i j l (λa b c d e f g h m o i j l=>Z68 N a b c d e f g h m o i j l kn):Option J)
def Z72{J:Type}(N:Nat)(b c d a:LI)(e f g h i:Int)(j:LI)(kn:LI->LI->LI->LI->I7 (LI->Option J)):Option J :=
 kn b c d a e f g (a.length:Int) 0 h i j
def Z75{J:Type}(N:Nat)(e f c b:LI)(d g h i a j l:Int)(m:LI)(kn:LI->LI->LI->LI->I7 (LI->Option J))(k10:LI->LI->LI->I4 (LI->Option J)):Option J :=
 cond (lk N (decide (a<i)))
 (
  cond (lk N (ax a b.length)) (
   cond (lk N (ax (b.getD a.toNat 0) c.length)) (
    cond (lk N (!(decide (d=0)))) (
     cond (lk N (ax (b.getD a.toNat 0) c.length)) (
      kn e f (c.set (b.getD a.toNat 0).toNat (ac (Int.tdiv (c.getD (b.getD a.toNat 0).toNat 0) d))) b d g h i (ac (a+1)) j l m) none) none) none) none)
 (
  k10 e f c g h j l m)
def Z74L{J:Type}(N:Nat)(k10:LI->LI->LI->I4 (LI->Option J)):Nat->LI->LI->LI->LI->Int->Int->Int->Int->Int->Int->Int->LI->Option J
 |0,_,_,_,_,_,_,_,_,_,_,_,_=>none
 |M+1,a,b,c,d,e,f,g,h,i,j,l,m=>Z75 N a b c d e f g h i j l m (λa b c d e f g h i j l m=>Z74L N k10 M a b c d e f g h i j l m) k10
def Fo N a b c d e f g h i j l m k10:=(Z74L N k10 N a b c d e f g h i j l m:Option J)
def Z73 N a b c d e f g h i j l m kn:=(Fo N a b c d e f g h i j l m kn:Option J)
def zG N a b c j d e f g h i kn:=(Z72 N a b c j d e f g h i (λa b c l d e f m o g h i=>Z73 N a b c l d e f m o g h i kn):Option J)
def Fp N a b c d l e f g h i j kn:=(Z66 N a b c d l e f g h i j (λa b c d e f g h i j=>zG N a b c d e f g h i j kn):Option J)
def zH N a b c d e f g h i j kn:=(Z64 N a b c d e f g h i j (λa b c d e l f g h i j=>Fp N a b c d e l f g h i j kn):Option J)
def Fq N a b c d e f g h i j kn:=(Z58 N a b c d e f g h i j (λa b c d e f g h i j=>zH N a b c d e f g h i j kn):Option J)
def Z55 N a b c d e f g h i kn:=(Z56 N a b c d e f g h i (λa b c d j e f g h i=>Fq N a b c d j e f g h i kn):Option J)
def Z25 N a b c d e f g h i kn kr:=(Z26 N a b c d e f g h i (λa b c d e f g h i=>Z55 N a b c d e f g h i kn) kr:Option J)
def Z23 N a b c i d e f g h kn kr:=(Z24 N a b c i d e f g h (λa b c j d e f g h=>Z25 N a b c j d e f g h kn kr):Option J)
def Z21 N a b c d e f g h i kn kr:=(Z22 N a b c d e f g h i (λa b c d e f g h i=>Z23 N a b c d e f g h i kn kr):Option J)
def Z19 N a b c d e f g h i kn k1 kr:=(Z20 N a b c d e f g h i (λa b c d e f g h i=>Z21 N a b c d e f g h i kn kr) k1:Option J)
def Z17 N a b c d e f g h kn k1 kr:=(Z18 N a b c d e f g h (λa b c i d e f g h=>Z19 N a b c i d e f g h kn k1 kr):Option J)
def Z16 N a b c d e f g h kn kr:=(Z17 N a b c d e f g h kn kn kr:Option J)
def Z76{J:Type}(N:Nat)(a b c:LI)(d e f g:Int)(h:LI)(kn:LI->LI->LI->I4 (LI->Option J)):Option J :=
 kn a b c d (ac (e+1)) f g h
def Z15 N a b c d e f g h kn kr:=(Z16 N a b c d e f g h (λa b c d e f g h=>Z76 N a b c d e f g h kn) kr:Option J)
def Z13 N a b c d e i f g h kn k0 kr:=(Z14 N a b c d e i f g h (λa b c d e f g h=>Z15 N a b c d e f g h kn kr) k0:Option J)
def Z11 N a b c d e f g h kn k0 kr:=(Z12 N a b c d e f g h (λa b c d e i f g h=>Z13 N a b c d e i f g h kn k0 kr):Option J)
def Z10L{J:Type}(N:Nat)(k0 kr:LI->Option J):Nat->LI->LI->LI->Int->Int->Int->Int->LI->Option J
 |0,_,_,_,_,_,_,_,_=>none
 |M+1,a,b,c,d,e,f,g,h=>Z11 N a b c d e f g h (λa b c d e f g h=>Z10L N k0 kr M a b c d e f g h) k0 kr
def Z10 N a b c d e f g h k0 kr:=(Z10L N k0 kr N a b c d e f g h:Option J)
def Z9 N a b c d e f g h kn kr:=(Z10 N a b c d e f g h kn kr:Option J)
def Z7 N a b c d e f kn kr:=(Z8 N a b c d e f (λa b c g h d e f=>Z9 N a b c g h d e f kn kr):Option J)
def Z77{J:Type}(N:Nat)(a:LI)(kr:LI->Option J):Option J :=
 cond (Nat.blt 0 a.length) (
  kr a) none
def Z6 N b c a d e f kr:=(Z7 N b c a d e f (λa=>Z77 N a kr) kr:Option J)
def Z4 N a b c d e kr:=(Z5 N a b c d e (λa b f c d e=>Z6 N a b f c d e kr):Option J)
def Z2 N a b c kr:=(Z3 N a b c (λd e a b c=>Z4 N d e a b c kr):Option J)
def Z0 N a kr:=(Z1 N a (λb c d=>Z2 N b c d kr):Option J)
def Spec:Prop:=∀ (v0:MT),Ty.bd (.pair (.int .i64) (.pair (.int .i64) (.sl 0 (.int .i64)))) v0->P v0=true->∃N0,∀N,N0<=N->Z0 N v0 (λv2=>some ((),(v2,())))=some ((),((g v0),()))
def Fr{a:Int}(h:-99<=a/\a<=99):mx a (ac (0-a))=aS a:=by rw[aR (by omega) (by omega),tV];unfold aS;omega
def PC(a:Int):aS (-a)=aS a:=by unfold aS;omega
def Fs{k:Nat}(h:k<=4):(99:Int) ^ k<=96059601:=by
 have h1:99 ^ k<=99 ^ 4:=Nat.pow_le_pow_right (by omega) h;have h2:(99:Int) ^ k=((99 ^ k:Nat):Int):=by rw[Int.natCast_pow];rfl
 rw[h2];omega
def Ft{n:Nat}{A:Nat->Nat->Int}{x j:Nat}(hx:x<n)(hj:j<n)(h:¬ (A x j=0/\A j x=0))(h':A x j=0\/A j x=0):¬ ∃e,da n A e:=by
 rintro ⟨e,he⟩
 rcases h' with z|z;·exact h ⟨z,ua he hx hj z⟩
 ·exact h ⟨ua he hj hx z,z⟩
section
variable {J : Type} {N : Nat} {m : Int × Int × List Int} {s p x j : Nat} {num0 num den out : List Int} {L : List Nat}
def PD(hm:aX m=true)(hn:m.1.toNat<=5)(hcl:uh m.1.toNat (af m) num0)(hf:fJ m.1.toNat (af m) s num0 L num den)(hp:p<L.length)(hx:L.getD p 0=x)(hj:j<m.1.toNat)(h0:¬ (af m x j=0/\af m j x=0))
  (kn:List Int->List Int->List Int->List Int->Int->Int->Int->Int->Int->Int->Int->Int->List Int->Option J) (kr:List Int->Option J) (t34 t35 t62 t63:Int) :
  (Z52 N num den out (an L) (p:Int) (x:Int) (j:Int) (af m x j) (-(af m j x)) t34 t35 t62 t63 m.1 m.2.1 m.2.2 kn kr=kr []/\¬ ∃e,da m.1.toNat (af m) e) \/
  (∃L' num' den',fJ m.1.toNat (af m) s num0 L' num' den'/\(∃u,L'=L++u)/\(∀y∈L,∀k,gr (af m) L num den y k->gr (af m) L' num' den' y k)/\gr (af m) L' num' den' x j /\
   Z52 N num den out (an L) (p:Int) (x:Int) (j:Int) (af m x j) (-(af m j x)) t34 t35 t62 t63 m.1 m.2.1 m.2.2 kn kr=kn num' den' out (an L') (p:Int) (x:Int) t34 t35 t62 t63 m.1 m.2.1 m.2.2):=by
 have hxm:x∈L:=by rw[<-hx];exact bz 0 hp
 have hxn:=hf.lt x hxm;have hle:=hf.le;simp only[Z52];by_cases z1:af m x j=0;·rw[ct (dt z1)];exact Or.inl ⟨rfl,Ft hxn hj h0 (Or.inl z1)⟩
 rw[cf (df z1)];by_cases z2:af m j x=0;·rw[ct (dt (by omega))];exact Or.inl ⟨rfl,Ft hxn hj h0 (Or.inr z2)⟩
 rw[cf (df (by omega))];by_cases sg:(0<af m x j↔0 < -(af m j x))
 ·have sgb:(!(((lk N (decide (0<af m x j))) == (lk N (decide (0 < -(af m j x)))))))=false:=by
   rw[aD,aD];by_cases h1:0<af m x j;·rw[dt h1,dt (sg.1 h1)];rfl
   ·rw[df h1,df (λh=>h1 (sg.2 h))];rfl
  rw[cf sgb];have hne:¬ ((x:Int)=(j:Int)):=λe=>by
   have e':x=j:=by omega
   subst e';omega
  rw[cf (df hne)];obtain⟨Q,q1,q2,q3⟩:=hf.frac;obtain⟨c1,c2,c3,c4,c5⟩:=q3 x hxm;have st:=stepN (A:=af m) (num:=num) (den:=den) x j c1 c3 z1 z2;have sk:=NL z1 z2 sg;have hb:=fX hm;have e1:=Fr (hb x j);have e2:mx (-(af m j x)) (ac (0 - -(af m j x)))=aS (af m j x):=by rw[Fr (by have:=hb j x;omega),PC]
  have pw:=Fs (k:=L.length-1) (by omega);have hdQ:=Int.le_of_dvd q1 c4;have a1:=oR (hb x j);have a2:=oR (hb j x);have a1':=oQ z1;have a2':=oQ z2;have b1:num.getD x 0*aS (af m x j)<=96059601*99:=Int.mul_le_mul (by omega) a1 (by omega) (by omega);have b2:den.getD x 0*aS (af m j x)<=96059601*99:=Int.mul_le_mul (by omega) a2 (by omega) (by omega);have hA:=st.a0p;have hB:=st.b0p;simp only[e1,e2,Int.toNat_natCast,aR (show -9223372036854775808<=num.getD x 0*aS (af m x j) by omega) (by omega),aR (show -9223372036854775808<=den.getD x 0*aS (af m j x) by omega) (by omega),dc.g];generalize hA0:num.getD x 0*aS (af m x j)=A0 at *
  generalize hB0:den.getD x 0*aS (af m j x)=B0 at *
  generalize hG:(Int.gcd A0 B0:Int)=G at *
  generalize ha:Int.tdiv A0 G=a at *
  generalize hb':Int.tdiv B0 G=b at *
  have gp:=st.gp;have ap:=st.ap;have bp:=st.bp;have al:a<=A0:=by have h1:=Int.mul_le_mul_of_nonneg_left (show(1:Int)<=G by omega) (Int.le_of_lt ap);have h2:=st.ea;omega
  have bl:b<=B0:=by have h1:=Int.mul_le_mul_of_nonneg_left (show(1:Int)<=G by omega) (Int.le_of_lt bp);have h2:=st.eb;omega
  have i1:ax (x:Int) num.length=true:=aN (by rw[hf.nl];exact hxn);have i2:ax (x:Int) den.length=true:=aN (by rw[hf.dl];exact hxn);have i3:ax (j:Int) num.length=true:=aN (by rw[hf.nl];exact hj);have i4:ax (j:Int) den.length=true:=aN (by rw[hf.dl];exact hj);have hP:dc.P A0 B0=true:=by simp only[dc.P,Bool.and_eq_true,decide_eq_true_eq];omega
  rw[ct i1,ct i2,ct hP,ct (nt (by omega)),ct (nt (by omega)),ct i3];simp only[aR (show -9223372036854775808<=a by omega) (by omega),aR (show -9223372036854775808<=b by omega) (by omega)];by_cases hz:num.getD j 0=0
  ·obtain⟨hg,hnj⟩:=hf.grow hp hj hz (by rw[hx];exact st) (λy k=>oR (hb y k));have hxj:∀y∈L,j≠y:=λy hy e=>hnj (e▸hy);have hnl:j<num.length:=by rw[hf.nl];exact hj
   have hdl:j<den.length:=by rw[hf.dl];exact hj
   rw[ct (dt hz),ct i3,ct i4,ct (show Nat.blt ((an L).length+([(j:Int)]).length) 1099511627776=true by simp[bv,Nat.blt_eq];omega),ru];refine Or.inr ⟨L++[j],num.set j a,den.set j b,hg,⟨_,rfl⟩,λy hy k he=>he.grow hxj hnl hdl hy,Or.inr ⟨by simp, ?_⟩,rfl⟩;have:=D1 st sk;rw[cU hnl,if_neg (hxj x hxm),cU hdl,if_pos rfl,cU hnl,if_pos rfl,cU hdl,if_neg (hxj x hxm)];exact this
  ·have hjm:j∈L:=Classical.byContradiction λhc=>by
    have h1:num0.getD j 0≠0:=by rw[<-hf.out j hj hc];exact hz
    exact hcl j hj h1 x hxn (Or.inr z1) (hf.new x hxm)
   obtain⟨d1,d2,d3,d4,d5⟩:=q3 j hjm;have hgood:(∃e,da m.1.toNat (af m) e)->num.getD j 0=a/\den.getD j 0=b:=by
    rintro ⟨e,he⟩
    have g1:=D0 st hxn hj he (hf.good e he x hxm);have g2:=hf.good e he j hjm;have p1:=(he j hj).1;have p2:0<e s:=(he s (by rw[<-hf.hd];exact hf.lt _ (bz 0 hf.pos))).1;have g3:(e s*e j)*(num.getD j 0*b)=(e s*e j)*(a*den.getD j 0):=by grind
    have p3:=Int.mul_pos p2 p1;exact NK d1 d3 ap bp d5 st.co (Int.eq_of_mul_eq_mul_left (by omega) g3)
   rw[cf (df hz),ct i3];by_cases ea:num.getD j 0=a
   ·rw[cf (nf ea),ct i4];by_cases eb:den.getD j 0=b;·rw[cf (nf eb)];refine Or.inr ⟨L,num,den,hf,⟨[],by simp⟩,λ_ _ _ h=>h,Or.inr ⟨hjm, ?_⟩,rfl⟩;rw[ea,eb];exact D1 st sk
    ·rw[ct (nt eb)];exact Or.inl ⟨rfl,λh=>eb (hgood h).2⟩
   ·rw[ct (nt ea)];exact Or.inl ⟨rfl,λh=>ea (hgood h).1⟩
 ·have sgb:(!(((lk N (decide (0<af m x j))) == (lk N (decide (0 < -(af m j x)))))))=true:=by
   rw[aD,aD];by_cases h1:0<af m x j;·rw[dt h1,df (λh2=>sg ⟨λ_=>h2,λ_=>h1⟩)];rfl
   ·rw[df h1,dt (Classical.byContradiction λh2=>sg ⟨λh=>absurd h h1,λh=>absurd h h2⟩)];rfl
  rw[ct sgb];refine Or.inl ⟨rfl, ?_⟩;rintro ⟨e,he⟩
  have h1:=oO he hxn hj;rw[dA,Bool.and_eq_true,beq_iff_eq,decide_eq_decide]at h1;have:=h1.1;omega
def at_g(hd:0<=m.1)(a b:Nat):b9.g (m.1,(m.2.1,m.2.2)) (a:Int) (b:Int)=af m a b:=iS hd a b
def at_p(hd:aO m=true){a b:Nat}(ha:a<m.1.toNat)(hb:b<m.1.toNat):b9.P (m.1,(m.2.1,m.2.2)) (a:Int) (b:Int)=true:=by obtain⟨n,r,hn,hr,hn1,hn5,hnr,hr8,hl⟩:=aU hd;exact iU hd (by omega) hb
def inner(hm:aX m=true)(hcl:uh m.1.toNat (af m) num0)(k4:List Int->List Int->List Int->List Int->Int->Int->Int->Int->Int->List Int->Option J)(kr:List Int->Option J)(t34 t35:Int):∀(M j:Nat) (L:List Nat) (num den:List Int),fJ m.1.toNat (af m) s num0 L num den->p<L.length->L.getD p 0=x->j<=m.1.toNat->m.1.toNat-j<M ->
  (∀k',k'<p->∀k,k<m.1.toNat->gr (af m) L num den (L.getD k' 0) k)->(∀k,k<j->gr (af m) L num den x k) ->
  (Z39L N k4 kr M num den out (an L) (p:Int) (x:Int) t34 t35 (m.1.toNat:Int) (j:Int) m.1 m.2.1 m.2.2=kr []/\¬ ∃e,da m.1.toNat (af m) e) \/
  (∃L' num' den',fJ m.1.toNat (af m) s num0 L' num' den'/\p<L'.length/\(∀k',k'<p+1->∀k,k<m.1.toNat->gr (af m) L' num' den' (L'.getD k' 0) k) /\
   Z39L N k4 kr M num den out (an L) (p:Int) (x:Int) t34 t35 (m.1.toNat:Int) (j:Int) m.1 m.2.1 m.2.2=k4 num' den' out (an L') (p:Int) t34 t35 m.1 m.2.1 m.2.2):=by
 have hdim:=cI hm;obtain⟨n,r,hn,hr,hn1,hn5,hnr,hr8,hl⟩:=aU hdim;intro M;induction M with
 |zero=>intro j _ _ _ _ _ _ _ h;omega
 |succ M ih =>
  intro j L num den hf hp hx hj hM hE1 hE2;have hxm:x∈L:=by rw[<-hx];exact bz 0 hp
  have hxn:=hf.lt x hxm;simp only[Z39L,Z40,Z41,Z42,Z43];by_cases hlt:j<m.1.toNat
  ·rw[gn (by rw[aD];exact dt (by omega))];simp only[Z44,Z45,Z46,Z47,Z48,Z49];rw[ct (at_p hdim hxn hlt),ct (at_p hdim hlt hxn),at_g (by omega),at_g (by omega)];have hb:=fX hm j x;rw[show ac (0-af m j x)=-(af m j x) by rw[aR (by omega) (by omega)];omega];simp only[Z50,Z51];have next:∀(L':List Nat) (num' den':List Int),fJ m.1.toNat (af m) s num0 L' num' den'->(∃u,L'=L++u)->(∀y∈L,∀k,gr (af m) L num den y k->gr (af m) L' num' den' y k)->gr (af m) L' num' den' x j ->
     (Z39L N k4 kr M num' den' out (an L') (p:Int) (x:Int) t34 t35 (m.1.toNat:Int) ((j+1:Nat):Int) m.1 m.2.1 m.2.2=kr []/\¬ ∃e,da m.1.toNat (af m) e) \/
     (∃L'' num'' den'',fJ m.1.toNat (af m) s num0 L'' num'' den''/\p<L''.length/\(∀k',k'<p+1->∀k,k<m.1.toNat->gr (af m) L'' num'' den'' (L''.getD k' 0) k) /\
      Z39L N k4 kr M num' den' out (an L') (p:Int) (x:Int) t34 t35 (m.1.toNat:Int) ((j+1:Nat):Int) m.1 m.2.1 m.2.2=k4 num'' den'' out (an L'') (p:Int) t34 t35 m.1 m.2.1 m.2.2):=by
    intro L' num' den' hf' hu hk he;obtain⟨u,hu⟩:=hu;have hget:∀k',k'<L.length->L'.getD k' 0=L.getD k' 0:=λk' hk'=>by rw[hu,jH hk']
    refine ih (j+1) L' num' den' hf' (by rw[hu];simp;omega) (by rw[hget p hp];exact hx) hlt (by omega) (λk' hk' k hkn=>?_) (λk hk'=>?_);·rw[hget k' (by omega)];exact hk _ (bz 0 (by omega)) k (hE1 k' hk' k hkn)
    ·by_cases e:k=j;·subst e;exact he
     ·exact hk x hxm k (hE2 k (by omega))
   by_cases h0:af m x j=0/\af m j x=0;·rw[ct (dt h0.1),ct (dt (by omega))];simp only[Z53];rw[a8 (by rw[bn];omega)];exact next L num den hf ⟨[],by simp⟩ (λ_ _ _ h=>h) (Or.inl h0)
   ·have hz:∀(X Y:Option J),(cond (lk N (decide (af m x j=0))) (cond (lk N (decide (-(af m j x)=0))) X Y) Y)=Y:=by
     intro X Y;by_cases z1:af m x j=0;·rw[ct (dt z1),cf (df (λz2=>h0 ⟨z1,by omega⟩))]
     ·rw[cf (df z1)]
    rw[hz];rcases PD (N:=N) (out:=out) hm (by omega) hcl hf hp hx hlt h0 (λnum3 den4 out5 piece7 at8 i9 t34 t35 t62 t63 m1_0 m1_1 m1_2=>Z53 N num3 den4 out5 piece7 at8 i9 t34 t35 t62 t63 m1_0 m1_1 m1_2 (λnum3 den4 out5 piece7 at8 i9 t34 t35 t62 t63 m1_0 m1_1 m1_2=>Z39L N k4 kr M num3 den4 out5 piece7 at8 i9 t34 t35 t62 t63 m1_0 m1_1 m1_2)) kr t34 t35 (m.1.toNat:Int) (j:Int)with hc|⟨L',num',den',h1,h2,h3,h4,h5⟩;·exact Or.inl hc
    ·rw[h5];simp only[Z53];rw[a8 (by rw[bn];omega)];exact next L' num' den' h1 h2 h3 h4
  ·rw[fV (by rw[aD];exact df (by omega))];refine Or.inr ⟨L,num,den,hf,hp,λk' hk' k hk=>?_,rfl⟩;by_cases e:k'=p;·subst e;rw[hx];exact hE2 k (by omega)
   ·exact hE1 k' (by omega) k hk
def PE(hN:10<=N)(hm:aX m=true)(hcl:uh m.1.toNat (af m) num0)(k2:List Int->List Int->List Int->List Int->Int->Int->Int->Int->List Int->Option J)(kr:List Int->Option J)(t34 t35:Int):∀(M p:Nat) (L:List Nat) (num den:List Int),fJ m.1.toNat (af m) s num0 L num den->p<=L.length->m.1.toNat-p<M ->
  (∀k',k'<p->∀k,k<m.1.toNat->gr (af m) L num den (L.getD k' 0) k) ->
  (Z29L N k2 kr M num den out (an L) (p:Int) t34 t35 m.1 m.2.1 m.2.2=kr []/\¬ ∃e,da m.1.toNat (af m) e) \/
  (∃L' num' den',fJ m.1.toNat (af m) s num0 L' num' den'/\(∀x∈L',∀k,k<m.1.toNat->gr (af m) L' num' den' x k) /\
   Z29L N k2 kr M num den out (an L) (p:Int) t34 t35 m.1 m.2.1 m.2.2=k2 num' den' out (an L') t34 t35 m.1 m.2.1 m.2.2):=by
 have hdim:=cI hm;obtain⟨n,r,hn,hr,hn1,hn5,hnr,hr8,hl⟩:=aU hdim;intro M;induction M with
 |zero=>intro p _ _ _ _ _ h;omega
 |succ M ih =>
  intro p L num den hf hp hM hE;have hle:=hf.le;simp only[Z29L,Z30,Z31];by_cases hlt:p<L.length
  ·rw[ct (dt (by rw[bv];omega))];simp only[Z32,Z33,Z34,Z35];rw[ct (aN (by rw[bv];exact hlt))];simp only[Z36,Z37,Z38,Z39,Int.toNat_natCast,fc,hf.nl];have hin:=inner (J:=J) (N:=N) (out:=out) hm hcl (λnum3 den4 out5 piece7 at8 t34 t35 m1_0 m1_1 m1_2=>Z54 N num3 den4 out5 piece7 at8 t34 t35 m1_0 m1_1 m1_2 (λnum3 den4 out5 piece7 at8 t34 t35 m1_0 m1_1 m1_2=>Z29L N k2 kr M num3 den4 out5 piece7 at8 t34 t35 m1_0 m1_1 m1_2)) kr t34 t35 N 0 L num den hf hlt rfl (by omega) (by omega) hE (λk hk=>by omega);rw[show((0:Nat):Int)=0 from rfl]at hin;rcases hin with hc|⟨L',num',den',h1,h2,h3,h4⟩;·exact Or.inl hc
   ·rw[h4];simp only[Z54];rw[a8 (by rw[bn];omega)];exact ih (p+1) L' num' den' h1 h2 (by omega) h3
  ·rw[cf (df (by rw[bv];omega))];refine Or.inr ⟨L,num,den,hf,λx hx k hk=>?_,rfl⟩;obtain⟨k',hk',e⟩:=nv hx;rw[<-e];exact hE k' (by omega) k hk
def PF(hf:fJ m.1.toNat (af m) s num0 L num den)(h5:m.1.toNat<=5){Q:Int}(q1:0<Q)(q2:Q<=96059601)(q3:∀x∈L,0<den.getD x 0/\den.getD x 0∣Q)(k6:List Int->List Int->List Int->List Int->Int->Int->Int->Int->Int->List Int->Option J)(t34 t35:Int):∀(M k:Nat) (c:Int),k<=L.length->L.length-k<M->0<c->c∣Q->(∀k',k'<k->den.getD (L.getD k' 0) 0∣c) ->
  ∃c',0<c'/\c'∣Q/\(∀x∈L,den.getD x 0∣c') /\
   Z61L N k6 M num den out (an L) c t34 t35 ((an L).length:Int) (k:Int) m.1 m.2.1 m.2.2=k6 num den out (an L) c' t34 t35 m.1 m.2.1 m.2.2:=by
 have hle:=hf.le;intro M;induction M with
 |zero=>intro k _ _ h;omega
 |succ M ih =>
  intro k c hk hM hc hcQ hd;simp only[Z61L,Z62];by_cases hlt:k<L.length
  ·have hxm:L.getD k 0∈L:=bz 0 hlt;obtain⟨d1,d2⟩:=q3 _ hxm;have i1:ax (k:Int) (an L).length=true:=aN (by rw[bv];exact hlt);have i2:ax ((L.getD k 0:Nat):Int) den.length=true:=aN (by rw[hf.dl];exact hf.lt _ hxm);obtain⟨g1,g2,g3,g4,g5,g6,g7⟩:=NM hc d1 hcQ d2 q1;have b1:=Int.le_of_dvd q1 hcQ;have b2:=Int.le_of_dvd q1 d2;have b3:=Int.le_of_dvd q1 g5;rw[ct (dt (by rw[bv];omega)),ct i1];simp only[Int.toNat_natCast,fc];rw[ct i2,ct i2,ct (show dc.P c (den.getD (L.getD k 0) 0)=true by simp only[dc.P,Bool.and_eq_true,decide_eq_true_eq];omega)];have eg:dc.g c (den.getD (L.getD k 0) 0)=(Int.gcd c (den.getD (L.getD k 0) 0):Int):=rfl;rw[ct (nt (by rw[eg];omega)),eg,aR (n:=Int.tdiv c _) (by omega) (by omega),aR (by omega) (by omega),a8 (by rw[bn];omega)];refine ih (k+1) _ hlt (by omega) g4 g5 (λk' hk'=>?_);by_cases e:k'=k;·subst e;exact g7
   ·exact Int.dvd_trans (hd k' (by omega)) g6
  ·rw[cf (df (by rw[bv];omega))];refine⟨c,hc,hcQ,λx hx=>?_,rfl⟩;obtain⟨k',hk',e⟩:=nv hx;rw[<-e];exact hd k' (by omega)
structure O2(n:Nat)(L:List Nat)(num den out0:List Int)(c:Int)(k:Nat)(out:List Int)(g:Int):Prop where
 len:out.length=n
 old:∀x,x<n->(∀k',k'<k->x≠L.getD k' 0)->out.getD x 0=out0.getD x 0
 val:∀k',k'<k->out.getD (L.getD k' 0) 0*den.getD (L.getD k' 0) 0=c*num.getD (L.getD k' 0) 0/\0<out.getD (L.getD k' 0) 0/\out.getD (L.getD k' 0) 0<=9227446944279201
 gcd:g=((cq ((List.range k).map λt=>out.getD (L.getD t 0) 0):Nat):Int)
def O2.g_range{n:Nat}{out0:List Int}{c g:Int}{k:Nat}(h:O2 n L num den out0 c k out g):0<=g/\g<=9227446944279201/\(0<k->0<g):=by
 have h0:0<=g:=by rw[h.gcd];omega
 by_cases e:k=0;·subst e;have:=h.gcd;simp[cq]at this;omega
 ·obtain⟨_,a1,a2⟩:=h.val 0 (by omega);have hd:g∣out.getD (L.getD 0 0) 0:=by rw[h.gcd];exact t8 (List.mem_map.2 ⟨0,List.mem_range.2 (by omega),rfl⟩)
  have:=Int.le_of_dvd a1 hd;refine⟨h0,by omega,λ_=>?_⟩;rcases Int.lt_or_le 0 g with h'|h';·exact h'
  ·have e:g=0:=by omega
   rw[e]at hd;have:=Int.zero_dvd.1 hd;omega
def PG(hf:fJ m.1.toNat (af m) s num0 L num den)(h5:m.1.toNat<=5){c:Int}(c1:0<c)(c2:c<=96059601)(q3:∀x∈L,0<num.getD x 0/\num.getD x 0<=96059601/\0<den.getD x 0/\den.getD x 0∣c)(out0:List Int)(k8:List Int->List Int->List Int->List Int->Int->Int->Int->Int->Int->List Int->Option J)(t34 t35:Int):∀(M k:Nat) (out:List Int) (g:Int),k<=L.length->L.length-k<M->O2 m.1.toNat L num den out0 c k out g ->
  ∃out' g',O2 m.1.toNat L num den out0 c L.length out' g' /\
   Z69L N k8 M num den out (an L) c g t34 t35 ((an L).length:Int) (k:Int) m.1 m.2.1 m.2.2=k8 num den out' (an L) g' t34 t35 m.1 m.2.1 m.2.2:=by
 have hle:=hf.le;intro M;induction M with
 |zero=>intro k _ _ _ h;omega
 |succ M ih =>
  intro k out g hk hM ho;simp only[Z69L,Z70];by_cases hlt:k<L.length
  ·have hxm:L.getD k 0∈L:=bz 0 hlt;have hxn:=hf.lt _ hxm;obtain⟨d1,d2,d3,d4⟩:=q3 _ hxm;have i1:ax (k:Int) (an L).length=true:=aN (by rw[bv];exact hlt);have i2:ax ((L.getD k 0:Nat):Int) den.length=true:=aN (by rw[hf.dl];exact hxn);have i3:ax ((L.getD k 0:Nat):Int) num.length=true:=aN (by rw[hf.nl];exact hxn);have i4:ax ((L.getD k 0:Nat):Int) out.length=true:=aN (by rw[ho.len];exact hxn);have hxo:L.getD k 0<out.length:=by rw[ho.len];exact hxn
   have hg:=ho.g_range;have t1:Int.tdiv c (den.getD (L.getD k 0) 0)*den.getD (L.getD k 0) 0=c:=Int.tdiv_mul_cancel d4;have t2:0<Int.tdiv c (den.getD (L.getD k 0) 0)/\Int.tdiv c (den.getD (L.getD k 0) 0)<=c:=by
    generalize Int.tdiv c (den.getD (L.getD k 0) 0)=t at t1 ⊢;have:0<t:=by
     rcases Int.lt_or_le 0 t with h'|h';·exact h'
     ·have:=Int.mul_nonpos_of_nonpos_of_nonneg h' (Int.le_of_lt d3);omega
    have:=Int.mul_le_mul_of_nonneg_left (show(1:Int)<=den.getD (L.getD k 0) 0 by omega) (Int.le_of_lt this);exact⟨by omega,by omega⟩
   have t3:0<Int.tdiv c (den.getD (L.getD k 0) 0)*num.getD (L.getD k 0) 0:=Int.mul_pos t2.1 d1;have t4:Int.tdiv c (den.getD (L.getD k 0) 0)*num.getD (L.getD k 0) 0<=96059601*96059601:=Int.mul_le_mul (by omega) d2 (by omega) (by omega);rw[ct (dt (by rw[bv];omega)),ct i1];simp only[Int.toNat_natCast,fc];rw[ct i2,ct (nt (by omega)),ct i3,ct i4];simp only[aR (show -9223372036854775808<=Int.tdiv c (den.getD (L.getD k 0) 0) by omega) (by omega)];simp only[aR (show -9223372036854775808<=Int.tdiv c (den.getD (L.getD k 0) 0)*num.getD (L.getD k 0) 0 by omega) (by omega)];generalize hv:Int.tdiv c (den.getD (L.getD k 0) 0)*num.getD (L.getD k 0) 0=v at t3 t4 ⊢;have hself:(out.set (L.getD k 0) v).getD (L.getD k 0) 0=v:=by rw[cU hxo,if_pos rfl]
   have hget:∀t,t<k->(out.set (L.getD k 0) v).getD (L.getD t 0) 0=out.getD (L.getD t 0) 0:=λt ht'=>by rw[cU hxo,if_neg (λe=>by have:=lK hf.nd hlt (by omega) e;omega)]
   rw[ct (aN (by rw[List.length_set];exact hxo)),hself,ct (show dc.P g v=true by simp only[dc.P,Bool.and_eq_true,decide_eq_true_eq];omega),a8 (by rw[bn];omega)];refine ih (k+1) _ _ hlt (by omega) ⟨by rw[List.length_set];exact ho.len, ?_, ?_, ?_⟩;·intro x hx hall;rw[cU hxo,if_neg (λe=>hall k (by omega) e.symm)];exact ho.old x hx (λt ht'=>hall t (by omega))
   ·intro t ht';by_cases e:t=k;·subst e;rw[hself];refine⟨?_,t3,by omega⟩;rw[<-hv];have e1:=t1;grind
    ·rw[hget t (by omega)];exact ho.val t (by omega)
   ·rw[List.range_succ,List.map_append,List.map_cons,List.map_nil,hself];rw[show(List.range k).map (λt=>(out.set (L.getD k 0) v).getD (L.getD t 0) 0)=(List.range k).map (λt=>out.getD (L.getD t 0) 0)from List.map_congr_left (λt ht'=>hget t (List.mem_range.1 ht'))];rw[ho.gcd];exact DN _ _ v (by omega) rfl
  ·have e:k=L.length:=by omega
   subst e;exact⟨out,g,ho,by rw[cf (df (by rw[bv];omega))]⟩
def PH(hf:fJ m.1.toNat (af m) s num0 L num den)(h5:m.1.toNat<=5){out2:List Int}{g:Int}(hg:0<g)(hv:∀x∈L,0<out2.getD x 0/\out2.getD x 0<=9227446944279201)(k10:List Int->List Int->List Int->Int->Int->Int->Int->List Int->Option J)(t34 t35:Int):∀(M k:Nat) (d:List Int),k<=L.length->L.length-k<M->T3 m (L,[]) out2 g k d ->
  ∃d',T3 m (L,[]) out2 g L.length d'/\Z74L N k10 M num den d (an L) g t34 t35 ((an L).length:Int) (k:Int) m.1 m.2.1 m.2.2=k10 num den d' t34 t35 m.1 m.2.1 m.2.2:=by
 have hle:=hf.le;intro M;induction M with
 |zero=>intro k _ _ h;omega
 |succ M ih =>
  intro k d hk hM ht;simp only[Z74L,Z75];by_cases hlt:k<L.length
  ·have hxm:L.getD k 0∈L:=bz 0 hlt;have hxn:=hf.lt _ hxm;obtain⟨v1,v2⟩:=hv _ hxm;have hcur:=ht.cur hf.nd hf.lt hlt;have hdv:0<=Int.tdiv (out2.getD (L.getD k 0) 0) g/\Int.tdiv (out2.getD (L.getD k 0) 0) g<=9227446944279201:=by rw[Int.tdiv_eq_ediv_of_nonneg (by omega)];refine⟨Int.ediv_nonneg (by omega) (by omega), ?_⟩;have:=Int.ediv_le_self (a:=out2.getD (L.getD k 0) 0) g (by omega);omega
   have i4:ax ((L.getD k 0:Nat):Int) d.length=true:=aN (by rw[ht.len];exact hxn);have hcur':d.getD (L.getD k 0) 0=out2.getD (L.getD k 0) 0:=hcur;rw[ct (dt (by rw[bv];omega)),ct (aN (by rw[bv];exact hlt))];simp only[Int.toNat_natCast,fc];rw[ct i4,ct (nt (by omega)),ct i4,hcur',aR (by omega) (by omega),a8 (by rw[bn];omega)];exact ih (k+1) _ hlt (by omega) (ht.step hf.nd hf.lt hlt)
  ·have e:k=L.length:=by omega
   subst e;exact⟨d,ht,by rw[cf (df (by rw[bv];omega))]⟩
def outer(hN:10<=N)(hm:aX m=true)(kr:List Int->Option J):∀(M i:Nat) (num den out:List Int),oT m.1.toNat (af m) num out->den.length=m.1.toNat->i<=m.1.toNat->(∀x,x<i->num.getD x 0≠0)->m.1.toNat-i<M ->
  Z10L N (λout5=>Z77 N out5 kr) kr M num den out (m.1.toNat:Int) (i:Int) m.1 m.2.1 m.2.2=kr (ba m):=by
 have hdim:=cI hm;obtain⟨n,r,hn,hr,hn1,hn5,hnr,hr8,hl⟩:=aU hdim;intro M;induction M with
 |zero=>intro i _ _ _ _ _ _ _ h;omega
 |succ M ih =>
  intro i num den out hO hdl hi hpos hM;simp only[Z10L,Z11,Z12,Z13,Z14];by_cases hlt:i<m.1.toNat
  ·rw[gn (by rw[aD];exact dt (by omega))];simp only[Z15,Z16,Z17,Z18,Z19,Z20];rw[ct (aN (by rw[hO.nl];exact hlt)),Int.toNat_natCast];by_cases hz:num.getD i 0=0
   ·rw[cf (nf hz)];simp only[Z21,Z22];rw[ct (aN (by rw[hO.nl];exact hlt)),ct (aN (by rw[hdl];exact hlt)),Int.toNat_natCast];simp only[Z23,Z24,Z25,Z26,Z27,Z28,Z29];have hnl:i<num.length:=by rw[hO.nl];exact hlt
    have hdl':i<den.length:=by rw[hdl];exact hlt
    have f0:fJ m.1.toNat (af m) i num [i] (num.set i 1) (den.set i 1):=by
     refine⟨by rw[List.length_set];exact hO.nl,by rw[List.length_set];exact hdl,by simp,λx hx=>by rw[List.mem_singleton]at hx;omega,rfl,by simp, ?_, ?_, ?_, ?_⟩;·intro x hx hni;rw[cU hnl,if_neg (λe=>hni (by simp[e]))]
     ·intro x hx;rw[List.mem_singleton]at hx;subst hx;exact hz
     ·refine⟨1,by omega,by simp,λx hx=>?_⟩;rw[List.mem_singleton]at hx;subst hx;rw[cU hnl,if_pos rfl,cU hdl',if_pos rfl];exact⟨by omega,by simp,by omega,Int.dvd_refl _,by decide⟩
     ·intro e he x hx;rw[List.mem_singleton]at hx;subst hx;rw[cU hnl,if_pos rfl,cU hdl',if_pos rfl]
    have hmid:=PE (J:=J) (out:=out) hN hm hO.closed (λnum3 den4 out5 piece7 t34 t35 m1_0 m1_1 m1_2=>Z55 N num3 den4 out5 piece7 t34 t35 m1_0 m1_1 m1_2 (λnum3 den4 out5 t34 t35 m1_0 m1_1 m1_2=>Z76 N num3 den4 out5 t34 t35 m1_0 m1_1 m1_2 (λnum3 den4 out5 t34 t35 m1_0 m1_1 m1_2=>Z10L N (λout5=>Z77 N out5 kr) kr M num3 den4 out5 t34 t35 m1_0 m1_1 m1_2))) kr (m.1.toNat:Int) (i:Int) N 0 [i] (num.set i 1) (den.set i 1) f0 (by omega) (by omega) (λk' hk'=>by omega);rw[show((0:Nat):Int)=0 from rfl,show an [i]=[(i:Int)]from rfl]at hmid;rcases hmid with⟨h1,h2⟩|⟨L,num',den',hf,hE,h1⟩;·rw[h1,DI h2]
    ·rw[h1];have hle:=hf.le;obtain⟨Q,q1,q2,q3⟩:=hf.frac;have pw:=Fs (k:=L.length-1) (by omega);simp only[Z55,Z56,Fq,Z58,Z59,Z60,Fm];obtain⟨c,c1,c2,c3,c4⟩:=PF (J:=J) (N:=N) (out:=out) (num:=num') (m:=m) hf (by omega) q1 (by omega) (λx hx=>⟨(q3 x hx).2.2.1,(q3 x hx).2.2.2.1⟩) (λnum3 den4 out5 piece7 common16 t34 t35 m1_0 m1_1 m1_2=>zH N num3 den4 out5 piece7 common16 t34 t35 m1_0 m1_1 m1_2 (λnum3 den4 out5 t34 t35 m1_0 m1_1 m1_2=>Z76 N num3 den4 out5 t34 t35 m1_0 m1_1 m1_2 (λnum3 den4 out5 t34 t35 m1_0 m1_1 m1_2=>Z10L N (λout5=>Z77 N out5 kr) kr M num3 den4 out5 t34 t35 m1_0 m1_1 m1_2))) (m.1.toNat:Int) (i:Int) N 0 1 (by omega) (by omega) (by omega) (Int.one_dvd _) (λk' hk'=>by omega);rw[show((0:Nat):Int)=0 from rfl]at c4;rw[c4];have cQ:=Int.le_of_dvd q1 c2;simp only[zH,Z64,Fp,Z66,Z67,Z68,Fn];obtain⟨out2,g2,o1,o2⟩:=PG (J:=J) (N:=N) (num:=num') (m:=m) hf (by omega) c1 (by omega) (λx hx=>⟨(q3 x hx).1,by have:=(q3 x hx).2.1;omega,(q3 x hx).2.2.1,c3 x hx⟩) out (λnum3 den4 out5 piece7 g19 t34 t35 m1_0 m1_1 m1_2=>zG N num3 den4 out5 piece7 g19 t34 t35 m1_0 m1_1 m1_2 (λnum3 den4 out5 t34 t35 m1_0 m1_1 m1_2=>Z76 N num3 den4 out5 t34 t35 m1_0 m1_1 m1_2 (λnum3 den4 out5 t34 t35 m1_0 m1_1 m1_2=>Z10L N (λout5=>Z77 N out5 kr) kr M num3 den4 out5 t34 t35 m1_0 m1_1 m1_2))) (m.1.toNat:Int) (i:Int) N 0 out 0 (by omega) (by omega) ⟨hO.ol,λ_ _ _=>rfl,λk hk=>by omega,rfl⟩;rw[show((0:Nat):Int)=0 from rfl]at o2;rw[o2];have hg2:=o1.g_range.2.2 hf.pos;have hval:∀x∈L,out2.getD x 0*den'.getD x 0=c*num'.getD x 0/\0<out2.getD x 0/\out2.getD x 0<=9227446944279201:=by intro x hx;obtain⟨k,hk,e⟩:=nv hx;rw[<-e];exact o1.val k hk
     simp only[zG,Z72,Z73,Fo];obtain⟨out3,p1,p2⟩:=PH (J:=J) (N:=N) (num:=num') (m:=m) hf (by omega) hg2 (λx hx=>(hval x hx).2) (λnum3 den4 out5 t34 t35 m1_0 m1_1 m1_2=>Z76 N num3 den4 out5 t34 t35 m1_0 m1_1 m1_2 (λnum3 den4 out5 t34 t35 m1_0 m1_1 m1_2=>Z10L N (λout5=>Z77 N out5 kr) kr M num3 den4 out5 t34 t35 m1_0 m1_1 m1_2)) (m.1.toNat:Int) (i:Int) N 0 out2 (by omega) (by omega) ⟨o1.len,λ_ _ _=>rfl,λk hk=>by omega⟩;rw[show((0:Nat):Int)=0 from rfl]at p2;rw[p2];have hgl:g2=((cq (L.map λx=>out2.getD x 0):Nat):Int):=by rw[<-DL L (λx=>out2.getD x 0)];exact o1.gcd
     obtain⟨r1,r2,r3⟩:=hO.piece (out3:=out3) hf hE c1 hg2 (λx hx=>(hval x hx).1) hgl (λx hx=>by
      obtain⟨k,hk,e⟩:=nv hx;have:=p1.val k hk;rw[<-e];rw[show out3.getD (L.getD k 0) 0=_ from this];refine Int.tdiv_mul_cancel ?_;rw[hgl];exact t8 (List.mem_map.2 ⟨L.getD k 0,bz 0 hk,rfl⟩)) (λx hx hni=>by
      have hne:∀k',k'<L.length->x≠L.getD k' 0:=λk' hk' e=>hni (by rw[e];exact bz 0 hk');rw[p1.out x hx hne,o1.old x hx hne]) p1.len
     simp only[Z76];rw[a8 (by rw[bn];omega)];exact ih (i+1) num' den' out3 r1 hf.dl hlt (λx hx=>by
      by_cases e:x=i;·subst e;exact r2
      ·exact r3 x (by omega) (hpos x (by omega))) (by omega)
   ·rw[ct (nt hz)];simp only[Z76];rw[a8 (by rw[bn];omega)];exact ih (i+1) num den out hO hdl hlt (λx hx=>by
     by_cases e:x=i;·subst e;exact hz
     ·exact hpos x (by omega)) (by omega)
  ·rw[fV (by rw[aD];exact df (by omega))];simp only[Z77];rw[hO.fac (λx hx=>hpos x (by omega)),gn (by rw[hO.ol,Nat.blt_eq];omega)]
end
def ok:Spec:=λm hb hp=>⟨10,λN hN=>by
 have hm:aX m=true:=hp;have hdim:=cI hm;obtain⟨n,r,hn,hr,hn1,hn5,hnr,hr8,hl⟩:=aU hdim;have hz:∀x,(List.replicate m.1.toNat (0:Int)).getD x 0=0:=λx=>by rw[List.getD_eq_getElem?_getD,List.getElem?_replicate];split<;>rfl
 have hc:(bN 0 m.1&&decide (m.1<1099511627776))=true:=by rw[j8 (by omega),dt (by omega)];rfl
 simp only[Z0,Z1,Z2,Z3];rw[ct hc,ct hc];have key:Z4 N (List.replicate m.1.toNat 0) (List.replicate m.1.toNat 0) m.1 m.2.1 m.2.2 (λt2=>some ((),(t2,())))=some ((),(g m,())):=by simp only[Z4,Z5];rw[ct hc];simp only[Z6,Z7,Z8,Z9,Z10,List.length_replicate];have:=outer (J:=Unit×List Int×Unit) hN hm (λt2=>some ((),(t2,()))) N 0 (List.replicate m.1.toNat 0) (List.replicate m.1.toNat 0) (List.replicate m.1.toNat 0) ⟨by simp,by simp,λy hy h=>absurd (hz y) h,λj hj h=>absurd (hz j) h⟩ (by simp) (by omega) (λx hx=>by omega) (by omega);exact this
 rw[key];simp only[bo,gP]⟩
end aH
namespace eU
def g(m:Int×Int×List Int):Bool:=aX m&&!decide (ba m=[])
def Z0{J:Type}(N:Nat)(a:MT)(kr:Bool->Option J):Option J :=
 cond (lk N ((kZ.g a)))
 (
  cond (lk N (aH.P a)) (
   kr (lk N (!(decide ((aH.g a).length=0))))) none)
 (
  kr false)
def Spec:Prop:=∀ (v0:MT),Ty.bd (.pair (.int .i64) (.pair (.int .i64) (.sl 0 (.int .i64)))) v0->∃N0,∀N,N0<=N->Z0 N v0 (λv2=>some ((),(v2,())))=some ((),((g v0),()))
def ok:Spec:=λm hb=>⟨0,λN hN=>by
 simp only[Z0,aD,g,kZ.g,aH.P,aH.g];cases aX m;·rfl
 ·by_cases h:ba m=[];·rw[dt h,dt (by rw[h];rfl)];rfl
  ·rw[df h,df (λe=>h (List.length_eq_zero_iff.1 e))];rfl⟩
end eU
namespace dh
def P(a:List Int):Bool:=decide (a.length<1099511627776)
abbrev g(a:List Int):List Int:=a
def Z0{J:Type}(N:Nat)(a:LI)(kr:LI->Option J):Option J :=
 cond (lk N (decide (0<a.length)))
 (
  cond (lk N (Nat.blt (([]:List Int).length+a.length) 1099511627776)) (
   kr (([]:List Int)++a)) none)
 (
  cj (
   kr ([]:List Int))
  (
   cond (lk N (Nat.blt (([]:List Int).length+a.length) 1099511627776)) (
    kr (([]:List Int)++a)) none))
def Spec:Prop:=∀ (v0:LI),Ty.bd (.sl 0 (.int .i64)) v0->P v0=true->∃N0,∀N,N0<=N->Z0 N v0 (λv2=>some ((),(v2,())))=some ((),((g v0),()))
def ok:Spec:=λa hb hp=>⟨0,λN hN=>by
 have hl:a.length<1099511627776:=by simpa[P]using hp
 have hc:Nat.blt (([]:List Int).length+a.length) 1099511627776=true:=by simpa using hl
 simp only[Z0,aD,g,hc,cond_true,List.nil_append];by_cases h:0<a.length;·simp[h]
 ·have:a=[]:=List.eq_nil_of_length_eq_zero (by omega);subst this;simp[gP]⟩
end dh
namespace bR
def P(m:Int×Int×List Int)(k:Int):Bool:=aX m&&(decide (0<=k)&&decide (k<m.1))
def g(m:Int×Int×List Int)(k:Int):Int×Int×List Int:=bf m k.toNat
def Z1{J:Type}(N:Nat)(a:MT)(b:Int)(kn:I3 (LI->I2 (Option J))):Option J :=
 kn b a.1 a.2.1 a.2.2 0 0
def Z3{J:Type}(N:Nat)(d b c:Int)(a:LI)(e f:Int)(kn:LI->I3 (LI->I4 (Option J))):Option J :=
 cj (
  cond (lk N (dh.P a)) (
   bo (
    kn (dh.g a) d b c a e f b c)) none)
 (
  cond (lk N (dh.P a)) (
   kn (dh.g a) d b c a e f b c) none)
def Z6{J:Type}(N:Nat)(a:LI)(b c d:Int)(e:LI)(f g h i:Int)(kn:LI->I4 (LI->I4 (Option J))):Option J :=
 kn a b 0 c d e f g h i
def Z10{J:Type}(N:Nat)(a:LI)(h b i c:Int)(j:LI)(d e f g:Int)(kn:LI->I4 (LI->I4 (Option J)))(k0:LI->I4 (Option J)):Option J :=
 cond (lk N (decide (b<c)))
 (
  kn a h b i c j d e f g)
 (
  k0 a d e f g)
def Z14{J:Type}(N:Nat)(a:LI)(b c d e:Int)(f:LI)(g h i j:Int)(kn:LI->I5 (LI->I4 (Option J))):Option J :=
 kn a b c 0 d e f g h i j
def Z18{J:Type}(N:Nat)(b:LI)(c d e a f:Int)(g:LI)(h i j l:Int)(kn:LI->I5 (LI->I4 (Option J)))(k2:LI->I4 (LI->I4 (Option J))):Option J :=
 cond (lk N (decide (e<a)))
 (
  kn b c d e a f g h i j l)
 (
  k2 b c d a f g h i j l)
def Z22{J:Type}(N:Nat)(d:LI)(e a b c f:Int)(g:LI)(h i j l:Int)(kn:LI->I6 (LI->I4 (Option J))):Option J :=
 cond (lk N (ax (ac ((ac (a*c))+b)) d.length)) (
  kn d e a b (ac ((ac (a*c))+b)) c f g h i j l) none
def Z24{J:Type}(N:Nat)(h:LI)(a e f i b c:Int)(d:LI)(j l m o:Int)(kn:LI->I8 (LI->I4 (Option J))):Option J :=
 cond (lk N (b9.P (b,(c,d)) e a)) (
  cond (lk N (b9.P (b,(c,d)) a f)) (
   kn h a e f i (b9.g (b,(c,d)) e a) (b9.g (b,(c,d)) a f) b c d j l m o) none) none
def Z27{J:Type}(N:Nat)(d:LI)(a b c e f g h i:Int)(j:LI)(l m o p:Int)(kn:LI->I6 (Bool->I2 (LI->I4 (Option J)))):Option J :=
 cond (lk N (decide (b=a)))
 (
  kn d a b c e f g true h i j l m o p)
 (
  kn d a b c e f g (lk N (decide (c=a))) h i j l m o p)
def Z28{J:Type}(N:Nat)(a:LI)(b c d e o p:Int)(q:Bool)(f g:Int)(h:LI)(i j l m:Int)(kn:LI->I5 (LI->I4 (Option J))):Option J :=
 cond (q)
 (
  kn (a.set e.toNat (ac (0-(a.getD e.toNat 0)))) b c d f g h i j l m)
 (
  cond (lk N (decide (0<o)))
  (
   cond (lk N (decide (0<p)))
   (
    kn (a.set e.toNat (ac ((a.getD e.toNat 0)+(ac (o*p))))) b c d f g h i j l m)
   (
    cond (lk N (decide (o<0)))
    (
     cond (lk N (decide (p<0)))
     (
      kn (a.set e.toNat (ac ((a.getD e.toNat 0)-(ac (o*p))))) b c d f g h i j l m)
     (
      kn a b c d f g h i j l m))
    (
     kn a b c d f g h i j l m)))
  (
   cond (lk N (decide (o<0)))
   (
    cond (lk N (decide (p<0)))
    (
     kn (a.set e.toNat (ac ((a.getD e.toNat 0)-(ac (o*p))))) b c d f g h i j l m)
    (
     kn a b c d f g h i j l m))
   (
    kn a b c d f g h i j l m)))
def Z26 N a b c d e f g h i j l m o p kn:=(Z27 N a b c d e f g h i j l m o p (λa b c d e f g q h i j l m o p=>Z28 N a b c d e f g q h i j l m o p kn):Option J)
def Z25 N a b c d e f g h i j l m o p kn:=(Z26 N a b c d e f g h i j l m o p kn:Option J)
def Z23 N a b c d e f g h i j l m kn:=(Z24 N a b c d e f g h i j l m (λa b c d e o p f g h i j l m=>Z25 N a b c d e o p f g h i j l m kn):Option J)
def Z21 N a b c d e f g h i j l kn:=(Z22 N a b c d e f g h i j l (λa b c d m e f g h i j l=>Z23 N a b c d m e f g h i j l kn):Option J)
def Z20 N a b c d e f g h i j l kn:=(Z21 N a b c d e f g h i j l kn:Option J)
def Z29{J:Type}(N:Nat)(a:LI)(b c d e f:Int)(g:LI)(h i j l:Int)(kn:LI->I5 (LI->I4 (Option J))):Option J :=
 kn a b c (ac (d+1)) e f g h i j l
def Z19 N a b c d e f g h i j l kn:=(Z20 N a b c d e f g h i j l (λa b c d e f g h i j l=>Z29 N a b c d e f g h i j l kn):Option J)
def Z17 N a b c d e f g h i j l kn k2:=(Z18 N a b c d e f g h i j l (λa b c d e f g h i j l=>Z19 N a b c d e f g h i j l kn) k2:Option J)
def Z16L{J:Type}(N:Nat)(k2:LI->I4 (LI->I4 (Option J))):Nat->LI->Int->Int->Int->Int->Int->LI->Int->Int->Int->Int->Option J
 |0,_,_,_,_,_,_,_,_,_,_,_=>none
 |M+1,a,b,c,d,e,f,g,h,i,j,l=>Z17 N a b c d e f g h i j l (λa b c d e f g h i j l=>Z16L N k2 M a b c d e f g h i j l) k2
def Z16 N a b c d e f g h i j l k2:=(Z16L N k2 N a b c d e f g h i j l:Option J)
def Z15 N a b c d e f g h i j l kn:=(Z16 N a b c d e f g h i j l kn:Option J)
def Z13 N a b c d e f g h i j kn:=(Z14 N a b c d e f g h i j (λa b c l d e f g h i j=>Z15 N a b c l d e f g h i j kn):Option J)
def Z12 N a b c d e f g h i j kn:=(Z13 N a b c d e f g h i j kn:Option J)
def Z30{J:Type}(N:Nat)(a:LI)(b c d e:Int)(f:LI)(g h i j:Int)(kn:LI->I4 (LI->I4 (Option J))):Option J :=
 kn a b (ac (c+1)) d e f g h i j
def Z11 N a b c d e f g h i j kn:=(Z12 N a b c d e f g h i j (λa b c d e f g h i j=>Z30 N a b c d e f g h i j kn):Option J)
def Z9 N a b c d e f g h i j kn k0:=(Z10 N a b c d e f g h i j (λa b c d e f g h i j=>Z11 N a b c d e f g h i j kn) k0:Option J)
def Z8L{J:Type}(N:Nat)(k0:LI->I4 (Option J)):Nat->LI->Int->Int->Int->Int->LI->Int->Int->Int->Int->Option J
 |0,_,_,_,_,_,_,_,_,_,_=>none
 |M+1,a,b,c,d,e,f,g,h,i,j=>Z9 N a b c d e f g h i j (λa b c d e f g h i j=>Z8L N k0 M a b c d e f g h i j) k0
def Z8 N a b c d e f g h i j k0:=(Z8L N k0 N a b c d e f g h i j:Option J)
def Z7 N a b c d e f g h i j kn:=(Z8 N a b c d e f g h i j kn:Option J)
def Z5 N a b c d e f g h i kn:=(Z6 N a b c d e f g h i (λa b j c d e f g h i=>Z7 N a b j c d e f g h i kn):Option J)
def Z31{J:Type}(N:Nat)(a:LI)(d e b c:Int)(kr:LI->I2 (Option J)):Option J :=
 kr a b c
def Z4 N a f g h i b c d e kr:=(Z5 N a f g h i b c d e (λa b c d e=>Z31 N a b c d e kr):Option J)
def Z2 N a b c d e f kr:=(Z3 N a b c d e f (λg a b c d e f h i=>Z4 N g a b c d e f h i kr):Option J)
def Z0 N b a kr:=(Z1 N b a (λa c d e f g=>Z2 N a c d e f g kr):Option J)
def Spec:Prop:=∀ (v0:MT) (v1:Int),Ty.bd (.pair (.int .i64) (.pair (.int .i64) (.sl 0 (.int .i64)))) v0->P v0 v1=true->∃N0,∀N,N0<=N->Z0 N v0 v1 (λv4_2 v4_0 v4_1=>some ((),((v4_0,(v4_1,v4_2)),())))=some ((),((g v0 v1),()))
section
variable {J : Type} {N : Nat} {m : Int × Int × List Int} {k : Nat}
def at_g(hd:0<=m.1)(a b:Nat):b9.g (m.1,(m.2.1,m.2.2)) (a:Int) (b:Int)=af m a b:=iS hd a b
def at_p(hd:aO m=true){a b:Nat}(ha:a<m.2.1.toNat)(hb:b<m.1.toNat):b9.P (m.1,(m.2.1,m.2.2)) (a:Int) (b:Int)=true:=iU hd ha hb
def cur(m:Int×Int×List Int)(k p:Nat):List Int:=gq m.2.2.length p (ka m k) (λp=>m.2.2.getD p 0)
def inner(hs:aX m=true)(hk:k<m.1.toNat)(k2:List Int->Int->Int->Int->Int->List Int->Int->Int->Int->Int->Option J)(t0 t1 o0 o1:Int){i:Nat}(hi:i<m.2.1.toNat):∀(M j:Nat),j<=m.1.toNat->m.1.toNat-j<M ->
  Z16L N k2 M (cur m k (i*m.1.toNat+j)) (k:Int) (i:Int) (j:Int) m.1 m.2.1 m.2.2 t0 t1 o0 o1=k2 (cur m k (i*m.1.toNat+m.1.toNat)) (k:Int) (i:Int) m.1 m.2.1 m.2.2 t0 t1 o0 o1:=by
 have hd:=cI hs;obtain⟨n,r,hn,hr,hn1,hn5,hnr,hr8,hl⟩:=aU hd;intro M;induction M with
 |zero=>intro j _ h;omega
 |succ M ih =>
  intro j hj hM;simp only[Z16L,Z17,Z18];by_cases h:j<m.1.toNat
  ·have hlt:i*m.1.toNat+j<m.2.2.length:=by have:=iT (n:=n) (r:=r) (i:=i) (j:=j) (by omega) (by omega);rw[hl,hn];exact this
   have hidx:ac (ac ((i:Int)*m.1)+(j:Int))=((i*m.1.toNat+j:Nat):Int):=by
    have e:(i:Int)*m.1=((i*m.1.toNat:Nat):Int):=by rw[hn,Int.natCast_mul];simp
    have hb:i*m.1.toNat<=8*5:=Nat.mul_le_mul (by omega) (by omega);have e2:ac (((i*m.1.toNat:Nat):Int))=((i*m.1.toNat:Nat):Int):=aR (by omega) (by omega);rw[e,e2,aR (by omega) (by omega)];omega
   have b1:=fX hs i j;have b2:=fX hs i k;have b3:=fX hs k j;have hbc:=DR (f:=false) b1 b2 b3;have hF:=yR (m:=m) (k:=k) (i:=i) h;have hcl:(cur m k (i*m.1.toNat+j)).length=m.2.2.length:=rp;have hset:∀v,v=ka m k (i*m.1.toNat+j)->(cur m k (i*m.1.toNat+j)).set (i*m.1.toNat+j) v=cur m k (i*m.1.toNat+(j+1)):=λv hv=>by subst hv;exact Dr hlt
   have hsame:ka m k (i*m.1.toNat+j)=af m i j->cur m k (i*m.1.toNat+j)=cur m k (i*m.1.toNat+(j+1)):=λhv=>(DS hv).symm;have iB:ax (((i*m.1.toNat+j:Nat):Int)) (cur m k (i*m.1.toNat+j)).length=true:=aN (by rw[hcl];exact hlt);have pij:=at_p hd hi h;rw[ct (dt (by omega))];simp only[Z19,Z20,Z21,Z22,Z23,Z24,Z25];have fin:∀c,c=cur m k (i*m.1.toNat+(j+1))->Z29 N c (k:Int) (i:Int) (j:Int) m.1 m.2.1 m.2.2 t0 t1 o0 o1 (λout5_2 k1 i6 j7 m2_0 m2_1 m2_2 t4_0 t4_1 out5_0 out5_1=>Z16L N k2 M out5_2 k1 i6 j7 m2_0 m2_1 m2_2 t4_0 t4_1 out5_0 out5_1)=k2 (cur m k (i*m.1.toNat+m.1.toNat)) (k:Int) (i:Int) m.1 m.2.1 m.2.2 t0 t1 o0 o1:=by intro c hc;subst hc;simp only[Z29];rw[a8 (by rw[bn];omega)];exact ih (j+1) h (by omega)
   have hcg:(cur m k (i*m.1.toNat+j)).getD (i*m.1.toNat+j) 0=af m i j:=by refine(No hlt 0).trans ?_;rw[if_neg (by omega)];rfl
   rw[hidx,ct iB,ct (at_p hd hi hk),ct (at_p hd (show k<m.2.1.toNat by omega) h),at_g (by omega),at_g (by omega)];simp only[Z26,Z27,Z28,Int.toNat_natCast,hcg];by_cases hik:i=k;·rw[ct (dt (by omega)),gn rfl,aR (by omega) (by omega)];refine fin _ (hset _ ?_);rw[hF,dt hik,Int.zero_sub];rfl
   ·rw[cf (df (by omega))];by_cases hjk:j=k;·rw[gn (by rw[aD];exact dt (by omega)),aR (by omega) (by omega)];refine fin _ (hset _ ?_);rw[hF,df hik,dt hjk,Int.zero_sub];rfl
    ·rw[fV (by rw[aD];exact df (by omega))];rw[df hik,df hjk]at hF;simp only[dY,Bool.or_self,Bool.false_eq_true,if_false]at hF;have wbc:ac (af m i k*af m k j)=af m i k*af m k j:=aR (by omega) (by omega);rw[wbc];by_cases a1:0<af m i k
     ·rw[ct (dt a1)];by_cases a2:0<af m k j;·rw[ct (dt a2),aR (by omega) (by omega)];refine fin _ (hset _ ?_);rw[hF,if_pos ⟨a1,a2⟩]
      ·rw[cf (df a2),cf (df (by omega))];refine fin _ (hsame ?_);rw[hF,if_neg (by omega),if_neg (by omega)]
     ·rw[cf (df a1)];by_cases a2:af m i k<0
      ·rw[ct (dt a2)];by_cases a3:af m k j<0;·rw[ct (dt a3),aR (by omega) (by omega)];refine fin _ (hset _ ?_);rw[hF,if_neg (by omega),if_pos ⟨a2,a3⟩]
       ·rw[cf (df a3)];refine fin _ (hsame ?_);rw[hF,if_neg (by omega),if_neg (by omega)]
      ·rw[cf (df a2)];refine fin _ (hsame ?_);rw[hF,if_neg (by omega),if_neg (by omega)]
  ·rw[cf (df (by omega)),show j=m.1.toNat by omega]
def outer(hN:10<=N)(hs:aX m=true)(hk:k<m.1.toNat)(k0:List Int->Int->Int->Int->Int->Option J)(t0 t1 o0 o1:Int):∀(M i:Nat),i<=m.2.1.toNat->m.2.1.toNat-i<M ->
  Z8L N k0 M (cur m k (i*m.1.toNat)) (k:Int) (i:Int) m.1 m.2.1 m.2.2 t0 t1 o0 o1=k0 (cur m k (m.2.1.toNat*m.1.toNat)) t0 t1 o0 o1:=by
 have hd:=cI hs;obtain⟨n,r,hn,hr,hn1,hn5,hnr,hr8,hl⟩:=aU hd;intro M;induction M with
 |zero=>intro i _ h;omega
 |succ M ih =>
  intro i hi hM;simp only[Z8L,Z9,Z10];by_cases h:i<m.2.1.toNat;·rw[ct (dt (by omega))];simp only[Z11,Z12,Z13,Z14,Z15,Z16];have hin:=inner (J:=J) (N:=N) hs hk (λout5_2 k1 i6 m2_0 m2_1 m2_2 t4_0 t4_1 out5_0 out5_1=>Z30 N out5_2 k1 i6 m2_0 m2_1 m2_2 t4_0 t4_1 out5_0 out5_1 (λout5_2 k1 i6 m2_0 m2_1 m2_2 t4_0 t4_1 out5_0 out5_1=>Z8L N k0 M out5_2 k1 i6 m2_0 m2_1 m2_2 t4_0 t4_1 out5_0 out5_1)) t0 t1 o0 o1 h N 0 (by omega) (by omega);rw[show((0:Nat):Int)=0 from rfl,Nat.add_zero]at hin;rw[hin];simp only[Z30];rw[a8 (by rw[bn];omega)];have:=ih (i+1) h (by omega);rw[Nat.add_mul,Nat.one_mul]at this;exact this
  ·rw[cf (df (by omega)),show i=m.2.1.toNat by omega]
end
def ok:Spec:=λm k hb hp=>⟨10,λN hN=>by
 simp only[P,Bool.and_eq_true,decide_eq_true_eq]at hp;obtain⟨hs,h0,h1⟩:=hp;obtain⟨x,rfl⟩:=Int.eq_ofNat_of_zero_le h0;have hd:=cI hs;obtain⟨n,r,hn,hr,hn1,hn5,hnr,hr8,hl⟩:=aU hd;have hlen:m.2.2.length<=8*5:=by rw[hl];exact Nat.mul_le_mul hr8 hn5
 simp only[Z0,Z1,Z2,Z3];rw[ct (show dh.P m.2.2=true from dt (by omega)),ct (show dh.P m.2.2=true from dt (by omega))];simp only[bo,gP];simp only[Z4,Z5,Z6,Z7,Z8];have hstart:cur m x 0=m.2.2:=by unfold cur;rw[Ds];exact rq 0 rfl
 have hend:cur m x (m.2.1.toNat*m.1.toNat)=(bf m x).2.2:=by
  have e:m.2.1.toNat*m.1.toNat=m.2.2.length:=by rw[hl,hn,hr];simp
  rw[e];exact Dt
 have:=outer (J:=Unit×(Int×Int×List Int)×Unit) hN hs (show x<m.1.toNat by omega) (λout5_2 t4_0 t4_1 out5_0 out5_1=>Z31 N out5_2 t4_0 t4_1 out5_0 out5_1 (λt4_2 t4_0 t4_1=>some ((),((t4_0,(t4_1,t4_2)),())))) 0 0 m.1 m.2.1 N 0 (by omega) (by omega);rw[Nat.zero_mul,hstart,hend]at this;exact this⟩
end bR
namespace cE
def g(m:Int×Int×List Int)(k:Int):(Int×Int×List Int)×Bool :=
 if((aX m&&!decide (ba m=[]))&&(bE k 0 (m.1-1)&&(aX (bf m k.toNat)&&!decide (ba (bf m k.toNat)=[]))))=true then(bf m k.toNat,true)else((0,0,[]),false)
def Z0{J:Type}(N:Nat)(a:MT)(b:Int)(kr:LI->Bool->I2 (Option J)):Option J :=
 cond (!(lk N ((eU.g a))))
 (
  kr ([]:List Int) false 0 0)
 (
  cond (!(lk N ((gy.g b 0 (ac (a.1-1))))))
  (
   kr ([]:List Int) false 0 0)
  (
   cond (lk N (bR.P a b)) (
    cond (!(lk N ((eU.g (bR.g a b)))))
    (
     kr ([]:List Int) false 0 0)
    (
     kr (bR.g a b).2.2 true (bR.g a b).1 (bR.g a b).2.1)) none))
def Spec:Prop:=∀ (v0:MT) (v1:Int),Ty.bd (.pair (.int .i64) (.pair (.int .i64) (.sl 0 (.int .i64)))) v0->∃N0,∀N,N0<=N->Z0 N v0 v1 (λv4_2 v5 v4_0 v4_1=>some ((),((v4_0,(v4_1,v4_2)),(v5,()))))=some ((),((g v0 v1).1,((g v0 v1).2,())))
def ok:Spec:=λm k hb=>⟨0,λN hN=>by
 simp only[Z0,aD,g,eU.g,gy.g];cases h1:(aX m&&!decide (ba m=[]));·rfl
 have hs:aX m=true:=by simp only[Bool.and_eq_true]at h1;exact h1.1
 have hd:=cI hs;obtain⟨n,r,hn,hr,hn1,hn5,hnr,hr8,hl⟩:=aU hd;rw[aR (by omega) (by omega)];cases h2:bE k 0 (m.1-1);·rfl
 have h3:=cO.1 h2;have hP:bR.P m k=true:=by simp only[bR.P,Bool.and_eq_true,decide_eq_true_eq];exact⟨hs,by omega,by omega⟩
 rw[hP];have hg:bR.g m k=bf m k.toNat:=rfl;rw[hg];cases(aX (bf m k.toNat)&&!decide (ba (bf m k.toNat)=[]))<;>rfl⟩
end cE
namespace dj
def g(m:Int×Int×List Int)(ks:List Int):(Int×Int×List Int)×Bool :=
 if((aX m&&!decide (ba m=[]))&&decide ((ks.length:Int)<=40))=true then fZ cE.g m ks else yV
def Z1{J:Type}(N:Nat)(a:MT)(b:LI)(kn:LI->I2 (LI->I2 (Option J))):Option J :=
 kn b a.1 a.2.1 a.2.2 0 0
def Z3{J:Type}(N:Nat)(a:LI)(b c:Int)(d:LI)(e f:Int)(kn:LI->I2 (LI->I2 (Option J)))(kr:LI->Bool->I2 (Option J)):Option J :=
 cond (!(lk N ((eU.g (b,(c,d))))))
 (
  kr ([]:List Int) false 0 0)
 (
  cond (lk N (decide (40<(a.length:Int))))
  (
   kr ([]:List Int) false 0 0)
  (
   kn a b c d e f))
def Z5{J:Type}(N:Nat)(b:LI)(c d:Int)(a:LI)(e f:Int)(kn:LI->LI->I4 (Option J)):Option J :=
 cj (
  cond (lk N (dh.P a)) (
   bo (
    kn (dh.g a) b e f c d)) none)
 (
  cond (lk N (dh.P a)) (
   kn (dh.g a) b e f c d) none)
def Z7{J:Type}(N:Nat)(a b:LI)(c d e f:Int)(kn:LI->LI->I4 (Option J)):Option J :=
 kn a b c d e f
def Z10{J:Type}(N:Nat)(b a:LI)(c d e f:Int)(kn:LI->LI->I6 (Option J)):Option J :=
 kn b a (a.length:Int) 0 c d e f
def Z13{J:Type}(N:Nat)(c b:LI)(f a h i d e:Int)(kn:LI->LI->I6 (Option J))(k0:LI->I4 (Option J))(kr:LI->Bool->I2 (Option J)):Option J :=
 cond (lk N (decide (a<f)))
 (
  cond (lk N (ax a b.length)) (
   cond (!(lk N ((cE.g (d,(e,c)) (b.getD a.toNat 0)).2)))
   (
    kr ([]:List Int) false 0 0)
   (
    kn (cE.g (d,(e,c)) (b.getD a.toNat 0)).1.2.2 b f (ac (a+1)) h i (cE.g (d,(e,c)) (b.getD a.toNat 0)).1.1 (cE.g (d,(e,c)) (b.getD a.toNat 0)).1.2.1)) none)
 (
  k0 c h i d e)
def Z12L{J:Type}(N:Nat)(k0:LI->I4 (Option J))(kr:LI->Bool->I2 (Option J)):Nat->LI->LI->Int->Int->Int->Int->Int->Int->Option J
 |0,_,_,_,_,_,_,_,_=>none
 |M+1,a,b,c,d,e,f,g,h=>Z13 N a b c d e f g h (λa b c d e f g h=>Z12L N k0 kr M a b c d e f g h) k0 kr
def Z12 N a b c d e f g h k0 kr:=(Z12L N k0 kr N a b c d e f g h:Option J)
def Z11 N a b c d e f g h kn kr:=(Z12 N a b c d e f g h kn kr:Option J)
def Z9 N a f b c d e kn kr:=(Z10 N a f b c d e (λa g h i b c d e=>Z11 N a g h i b c d e kn kr):Option J)
def Z14{J:Type}(N:Nat)(a:LI)(d e b c:Int)(kr:LI->Bool->I2 (Option J)):Option J :=
 kr a true b c
def Z8 N a f b c d e kr:=(Z9 N a f b c d e (λa b c d e=>Z14 N a b c d e kr) kr:Option J)
def Z6 N a b c d e f kr:=(Z7 N a b c d e f (λa b c d e f=>Z8 N a b c d e f kr):Option J)
def Z4 N a d e f b c kr:=(Z5 N a d e f b c (λg a b c h i=>Z6 N g a b c h i kr):Option J)
def Z2 N a b c d e f kr:=(Z3 N a b c d e f (λa b c d e f=>Z4 N a b c d e f kr) kr:Option J)
def Z0 N b a kr:=(Z1 N b a (λa c d e f g=>Z2 N a c d e f g kr):Option J)
def Spec:Prop:=∀ (v0:MT) (v1:LI),Ty.bd (.pair (.int .i64) (.pair (.int .i64) (.sl 0 (.int .i64)))) v0->Ty.bd (.sl 0 (.int .i64)) v1->∃N0,∀N,N0<=N->Z0 N v0 v1 (λv4_2 v5 v4_0 v4_1=>some ((),((v4_0,(v4_1,v4_2)),(v5,()))))=some ((),((g v0 v1).1,((g v0 v1).2,())))
def loop{J:Type}(N:Nat)(kr:List Int->Bool->Int->Int->Option J)(t0 t1:Int)(ks:List Int)(hk:ks.length<=maxLen):∀(M j:Nat) (m:Int×Int×List Int),j<=ks.length->ks.length-j<M ->
  Z12L N (λa b c d e=>Z14 N a b c d e kr) kr M m.2.2 ks (ks.length:Int) (j:Int) t0 t1 m.1 m.2.1=kr (fZ cE.g m (ks.drop j)).1.2.2 (fZ cE.g m (ks.drop j)).2 (fZ cE.g m (ks.drop j)).1.1 (fZ cE.g m (ks.drop j)).1.2.1:=by
 intro M;induction M with
 |zero=>intro j _ _ h;omega
 |succ M ih =>
  intro j m hj hM;simp only[Z12L,Z13];by_cases h:j<ks.length
  ·have hv:cE.g (m.1,(m.2.1,m.2.2)) (ks.getD j 0)=cE.g m (ks.getD j 0):=rfl;rw[ct (dt (by omega)),ct (aN h),Int.toNat_natCast,hv,fb 0 h,fZ,a8 (by omega)];cases hb:(cE.g m (ks.getD j 0)).2;·rw[gn (by rw[aD];rfl),if_neg (by simp)];rfl
   ·rw[fV (by rw[aD];rfl),if_pos rfl];exact ih (j+1) _ h (by omega)
  ·rw[cf (df (by omega)),List.drop_of_length_le (by omega),fZ];rfl
def ok:Spec:=λm ks hb hv=>⟨ks.length+10,λN hN=>by
 have e0:eU.g (m.1,(m.2.1,m.2.2))=(aX m&&!decide (ba m=[])):=rfl;simp only[Z0,Z1,Z2,Z3,e0,g,aD];cases h1:(aX m&&!decide (ba m=[]));·rfl
 have hs:aX m=true:=by simp only[Bool.and_eq_true]at h1;exact h1.1
 have hd:=cI hs;obtain⟨n,r,hn,hr,hn1,hn5,hnr,hr8,hl⟩:=aU hd;have hlen:m.2.2.length<=8*5:=by rw[hl];exact Nat.mul_le_mul hr8 hn5
 by_cases h2:(ks.length:Int)<=40;·rw[df (show ¬ (40:Int)<ks.length by omega),dt h2];simp only[Bool.not_true,cond_false,Z4,Z5];rw[ct (show dh.P m.2.2=true from dt (by omega)),ct (show dh.P m.2.2=true from dt (by omega))];simp only[bo,gP];simp only[Z6,Z7,Z8,Z9,Z10,Z11,Z12];have:=loop (J:=Unit×(Int×Int×List Int)×Bool×Unit) N (λt4_2 t5 t4_0 t4_1=>some ((),((t4_0,(t4_1,t4_2)),(t5,())))) 0 0 ks hv.1 N 0 m (by omega) (by omega);rw[show((0:Nat):Int)=0 from rfl,List.drop_zero]at this;exact this
 ·rw[dt (show(40:Int)<ks.length by omega),df h2];rfl⟩
end dj
namespace jR
def g(m:Int×Int×List Int):Int×Int×List Int:=if(aX m&&!decide (ba m=[]))=true then iX m else(0,0,[])
def Z0{J:Type}(N:Nat)(a:MT)(kr:LI->I2 (Option J)):Option J :=
 cond (!(lk N ((eU.g a))))
 (
  kr ([]:List Int) 0 0)
 (
  cond (lk N (bN 0 (ac (a.1*a.1))&&bN (ac (a.1*a.1)) a.2.2.length)) (
   cond (lk N (dh.P (a.2.2.take (ac (a.1*a.1)).toNat))) (
    kr (dh.g (a.2.2.take (ac (a.1*a.1)).toNat)) a.1 a.1) none) none)
def Spec:Prop:=∀ (v0:MT),Ty.bd (.pair (.int .i64) (.pair (.int .i64) (.sl 0 (.int .i64)))) v0->∃N0,∀N,N0<=N->Z0 N v0 (λv2_2 v2_0 v2_1=>some ((),((v2_0,(v2_1,v2_2)),())))=some ((),((g v0),()))
def ok:Spec:=λm hb=>⟨0,λN hN=>by
 simp only[Z0,aD,g,eU.g];cases h:(aX m&&!decide (ba m=[]));·rfl
 ·have hd:aO m=true:=by simp only[Bool.and_eq_true]at h;have hs:=h.1;simp only[aP,aX,Bool.and_eq_true]at hs;first | exact hs.1.1 | exact hs.1
  obtain⟨h1,h2,h3,h4⟩:=NQ hd;have hP:dh.P (m.2.2.take (m.1*m.1).toNat)=true:=dt (by rw[List.length_take];omega);rw[h1,j8 h2,j8 h4,hP];rfl⟩
end jR
namespace jS
def g(xs:List Int)(i:Int)(ys:List Int):List Int:=gT xs i ys
def P(xs:List Int)(i:Int)(ys:List Int):Bool:=np xs i ys
def ok:True:=trivial
end jS
end
end Go.Fw
