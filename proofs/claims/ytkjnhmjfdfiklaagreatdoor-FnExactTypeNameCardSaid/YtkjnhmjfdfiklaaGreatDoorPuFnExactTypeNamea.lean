/- The plain part: what the functions compute, in lists and numbers. Nothing is assumed. -/
import Derived.Test.YtkjnhmjfdfiklaaGreatDoorFwd
import Derived.Lib.ItoaLen
import Derived.Lib.Join
import Derived.Test.YtkjnhmjfdfiklaaGreatDoorFza
import Derived.Lib.AtoiAll
import Derived.Lib.SplitLaws
noncomputable section
set_option linter.defProp false
set_option linter.unusedVariables false
namespace Go.Fw
def bT:List Int->List Int->Bool
 |[],[]=>false
 |[],_::_=>true
 |_::_,[]=>false
 |x::xs,y::ys=>if x=y then bT xs ys else decide (x<y)
def ix:List Int->List Int->Int
 |[],[]=>0
 |[],_::_=>-1
 |_::_,[]=>1
 |x::xs,y::ys=>if x=y then ix xs ys else if x<y then -1 else 1
def uG:∀a b:List Int,decide (ix a b<0)=bT a b
 |[],[]=>rfl
 |[],_::_=>rfl
 |_::_,[]=>rfl
 |x::xs,y::ys=>by
  rw[ix,bT];by_cases h:x=y;·rw[if_pos h,if_pos h,uG xs ys]
  ·rw[if_neg h,if_neg h];by_cases h2:x<y;·rw[if_pos h2,dt h2];rfl
   ·rw[if_neg h2,df h2];rfl
def b7(n lo hi:Int):Bool:=decide (lo<=n)&&decide (n<=hi)
def gk{α:Type}(n j:Nat)(F G:Nat->α):List α:=(List.range n).map λi=>if i<j then F i else G i
section
variable {α : Type} {n j : Nat} {F G : Nat → α}
def rO:(gk n j F G).length=n:=by simp[gk]
def rP{i:Nat}(h:i<n)(d:α):((List.range n).map F).getD i d=F i:=by rw[List.getD_eq_getElem?_getD,List.getElem?_map,List.getElem?_range h];rfl
def Ow{i:Nat}(h:i<n)(d:α):(gk n j F G).getD i d=if i<j then F i else G i:=rP h d
def Ea(h:j<n):(gk n j F G).set j (F j)=gk n (j+1) F G:=by
 apply List.ext_getElem?;intro i;by_cases hi:i<n
 ·by_cases e:j=i;·subst e;rw[List.getElem?_set_self (by rw[rO];exact h)];simp[gk,List.getElem?_map,List.getElem?_range h]
  ·rw[List.getElem?_set_ne e];simp only[gk,List.getElem?_map,List.getElem?_range hi,Option.map_some];by_cases h1:i<j;·rw[if_pos h1,if_pos (by omega)]
   ·rw[if_neg h1,if_neg (by omega)]
 ·rw[List.getElem?_eq_none (by rw[List.length_set,rO];omega),List.getElem?_eq_none (by rw[rO];omega)]
def Eb:gk n 0 F G=(List.range n).map G:=by simp[gk]
def Ec:gk n n F G=(List.range n).map F:=by unfold gk;apply List.map_congr_left;intro i hi;rw[if_pos (List.mem_range.1 hi)]
def rQ{l:List α}(d:α)(h:l.length=n):(List.range n).map (λi=>l.getD i d)=l:=by
 apply List.ext_getElem?;intro i;by_cases hi:i<n;·rw[List.getElem?_map,List.getElem?_range hi,Option.map_some,List.getD_eq_getElem?_getD,List.getElem?_eq_getElem (by omega),Option.getD_some]
 ·rw[List.getElem?_eq_none (by simp;omega),List.getElem?_eq_none (by omega)]
end
def o9(m:Int×Int×List Int)(i j:Int):Bool:=decide (0<=i)&&(decide (0<=j)&&(decide (0<=m.1)&&decide (i*m.1+j<(m.2.2.length:Int))))
def pc(m:Int×Int×List Int)(i j:Int):Int:=m.2.2.getD (i*m.1+j).toNat 0
def Ed{m:Int×Int×List Int}{i j:Int}(hl:m.2.2.length<=maxLen)(h:o9 m i j=true):ah (ah (i*m.1)+j)=i*m.1+j/\0<=i*m.1+j/\i*m.1+j<(m.2.2.length:Int):=by simp only[o9,Bool.and_eq_true,decide_eq_true_eq]at h;obtain⟨h1,h2,h3,h4⟩:=h;have h5:0<=i*m.1:=Int.mul_nonneg h1 h3;rw[aS]at hl;have e:ah (i*m.1)=i*m.1:=bh (by omega) (by omega);rw[e,bh (by omega) (by omega)];exact⟨rfl,by omega,h4⟩
def ae(m:Int×Int×List Int)(i j:Nat):Int:=m.2.2.getD (i*m.1.toNat+j) 0
def fF{m:Int×Int×List Int}(h:0<=m.1)(i j:Nat):pc m (i:Int) (j:Int)=ae m i j:=by unfold pc ae;congr 1;obtain⟨n,hn⟩:=Int.eq_ofNat_of_zero_le h;rw[hn];norm_cast
def aY(m:Int×Int×List Int):Bool:=b7 m.1 1 5&&(b7 m.2.1 m.1 8&&decide ((m.2.2.length:Int)=m.1*m.2.1))
def lQ(l:List Int):Bool:=l.all λx=>b7 x (-99) 99
def ba(m:Int×Int×List Int):Bool:=aY m&&lQ m.2.2
def dz(a b:Int):Bool:=(decide (0<a) == decide (b<0))&&(decide (a=0) == decide (b=0))
def aT(m:Int×Int×List Int):Bool:=ba m&&(List.range m.1.toNat).all λi=>(List.range m.1.toNat).all λj=>dz (ae m i j) (ae m j i)
def eK{n lo hi:Int}:b7 n lo hi=true↔lo<=n/\n<=hi:=by simp[b7]
def aQ{m:Int×Int×List Int}(h:aY m=true):∃n r:Nat,m.1=(n:Int)/\m.2.1=(r:Int)/\1<=n/\n<=5/\n<=r/\r<=8/\m.2.2.length=r*n:=by simp only[aY,Bool.and_eq_true,eK,decide_eq_true_eq]at h;obtain⟨⟨h1,h2⟩,⟨h3,h4⟩,h5⟩:=h;obtain⟨n,hn⟩:=Int.eq_ofNat_of_zero_le (show 0<=m.1 by omega);obtain⟨r,hr⟩:=Int.eq_ofNat_of_zero_le (show 0<=m.2.1 by omega);refine⟨n,r,hn,hr,by omega,by omega,by omega,by omega, ?_⟩;rw[hn,hr,Int.mul_comm]at h5;exact_mod_cast h5
def j9{n r i j:Nat}(hi:i<r)(hj:j<n):i*n+j<r*n:=by have:=Nat.mul_le_mul_right n (show i+1<=r from hi);rw[Nat.add_mul]at this;omega
def fG{m:Int×Int×List Int}(h:aY m=true){i j:Nat}(hi:i<m.2.1.toNat)(hj:j<m.1.toNat):o9 m (i:Int) (j:Int)=true:=by obtain⟨n,r,hn,hr,_,_,_,_,hl⟩:=aQ h;have:=j9 (n:=n) (r:=r) (i:=i) (j:=j) (by omega) (by omega);simp only[o9,Bool.and_eq_true,decide_eq_true_eq,hn,hl];refine⟨by omega,by omega,by omega, ?_⟩;exact_mod_cast this
def Ox{l:List Int}(h:lQ l=true)(i:Nat):-99<=l.getD i 0/\l.getD i 0<=99:=by
 by_cases hi:i<l.length;·have:=(List.all_eq_true.1 h) _ (aX 0 hi);exact eK.1 this
 ·rw[List.getD_eq_getElem?_getD,List.getElem?_eq_none (by omega),Option.getD_none];omega
def pf{j n:Nat}(h:j<n):(List.range n).drop j=j::(List.range n).drop (j+1):=by rw[cK 0 (by simpa using h),List.getD_eq_getElem?_getD,List.getElem?_range h,Option.getD_some]
def cu:List Int->Nat
 |[]=>0
 |x::xs=>Nat.gcd x.natAbs (cu xs)
def Oy(l m:List Int):cu (l++m)=Nat.gcd (cu l) (cu m):=by
 induction l with
 |nil=>simp[cu]
 |cons x xs ih=>rw[List.cons_append,cu,ih,cu,Nat.gcd_assoc]
def uH(c:Int)(l:List Int):cu (l.map λx=>c*x)=c.natAbs*cu l:=by
 induction l with
 |nil=>simp[cu]
 |cons x xs ih=>rw[List.map_cons,cu,ih,cu,Int.natAbs_mul,Nat.gcd_mul_left]
def uI{l:List Int}{x:Int}(h:x∈l):((cu l:Nat):Int)∣x:=by
 induction l with
 |nil=>cases h
 |cons y ys ih =>
  rw[cu];rcases List.mem_cons.1 h with e|e;·subst e;exact Int.ofNat_dvd_left.2 (Nat.gcd_dvd_left _ _)
  ·exact Int.dvd_trans (Int.natCast_dvd_natCast.2 (Nat.gcd_dvd_right _ _)) (ih e)
def cY(n:Nat)(A:Nat->Nat->Int)(d:Nat->Int):Prop:=∀i,i<n->0<d i/\∀j,j<n->d i*A i j=-(d j*A j i)
def lR(n:Nat)(A:Nat->Nat->Int)(d:Nat->Int):Prop:=∀i,i<n->∃L:List Nat,(∀k∈L,k<n)/\cu (L.map d)=1/\∀e,cY n A e->∀k∈L,d i*e k=d k*e i
def Ee{n:Nat}{A:Nat->Nat->Int}{d e:Nat->Int}(hd:cY n A d)(he:cY n A e)(pd:lR n A d){i:Nat}(hi:i<n):d i∣e i:=by
 obtain⟨L,h1,h2,h3⟩:=pd i hi;have h4:(L.map d).map (λx=>e i*x)=(L.map e).map (λx=>d i*x):=by rw[List.map_map,List.map_map];apply List.map_congr_left;intro k hk;show e i*d k=d i*e k;rw[h3 e he k hk,Int.mul_comm]
 have h5:(e i).natAbs*1=(d i).natAbs*cu (L.map e):=by rw[<-h2,<-uH,<-uH,h4]
 exact Int.natAbs_dvd_natAbs.1 ⟨cu (L.map e),by rw[<-h5,Nat.mul_one]⟩
def Oz{n:Nat}{A:Nat->Nat->Int}{d e:Nat->Int}(hd:cY n A d)(he:cY n A e)(pd:lR n A d)(pe:lR n A e){i:Nat}(hi:i<n):d i=e i:=by have h1:=Ee hd he pd hi;have h2:=Ee he hd pe hi;have:=(hd i hi).1;have:=(he i hi).1;exact Int.dvd_antisymm (by omega) (by omega) h1 h2
def uJ{n:Nat}{A:Nat->Nat->Int}{e:Nat->Int}(he:cY n A e){i j:Nat}(hi:i<n)(hj:j<n)(h:A i j=0):A j i=0:=by
 have h1:=(he i hi).2 j hj;rw[h,Int.mul_zero]at h1;have h2:e j*A j i=0:=by omega
 rcases Int.mul_eq_zero.1 h2 with h3|h3;·have:=(he j hj).1;omega
 ·exact h3
def Ef{a b e f p q:Int}(he:0<e)(hf:0<f)(h:a*f=b*e)(hg:e*p=-(f*q)):a*p=-(b*q):=by
 have h1:f*(a*p)=f*(-(b*q)):=by
  calc f*(a*p)=(a*f)*p:=by rw[<-Int.mul_assoc,Int.mul_comm f a]
   _=b*(e*p):=by rw[h,Int.mul_assoc]
   _=f*(-(b*q)):=by rw[hg,Int.mul_neg,Int.mul_neg,Int.mul_left_comm]
 exact Int.eq_of_mul_eq_mul_left (by omega) h1
def OA{a b e f p q:Int}(hp:p≠0)(he:0<e)(h:a*p=-(b*q))(hg:e*p=-(f*q))(hq:q≠0):a*f=b*e:=by
 have h1:q*(a*f)=q*(b*e):=by
  calc q*(a*f)=a*(f*q):=by rw[Int.mul_left_comm,Int.mul_comm q f]
   _=a * -(e*p):=by rw[hg,Int.neg_neg]
   _=e*(-(a*p)):=by rw[Int.mul_neg,Int.mul_neg,Int.mul_left_comm]
   _=q*(b*e):=by rw[h,Int.neg_neg,Int.mul_left_comm,Int.mul_comm e q,Int.mul_left_comm]
 exact Int.eq_of_mul_eq_mul_left hq h1
def Eg{a b c e f g:Int}(hf:f≠0)(h1:a*f=b*e)(h2:b*g=c*f):a*g=c*e:=by
 have h3:f*(a*g)=f*(c*e):=by
  calc f*(a*g)=(a*f)*g:=by rw[<-Int.mul_assoc,Int.mul_comm f a]
   _=e*(b*g):=by rw[h1,Int.mul_comm b e,Int.mul_assoc]
   _=f*(c*e):=by rw[h2,Int.mul_left_comm,Int.mul_comm e f,Int.mul_left_comm]
 exact Int.eq_of_mul_eq_mul_left hf h3
open Classical in
def bj(m:Int×Int×List Int):List Int :=
 if h:∃l:List Int,l.length=m.1.toNat/\cY m.1.toNat (ae m) (λi=>l.getD i 0)/\lR m.1.toNat (ae m) (λi=>l.getD i 0)then Classical.choose h else[]
def zq{m:Int×Int×List Int}{l:List Int}(h1:l.length=m.1.toNat)(h2:cY m.1.toNat (ae m) (λi=>l.getD i 0))(h3:lR m.1.toNat (ae m) (λi=>l.getD i 0)):bj m=l:=by
 have h:∃l:List Int,l.length=m.1.toNat/\cY m.1.toNat (ae m) (λi=>l.getD i 0)/\lR m.1.toNat (ae m) (λi=>l.getD i 0):=⟨l,h1,h2,h3⟩;have hc:=Classical.choose_spec h;rw[bj,dif_pos h];generalize Classical.choose h=c at hc;obtain⟨c1,c2,c3⟩:=hc;apply List.ext_getElem?;intro i;by_cases hi:i<m.1.toNat;·have:=Oz c2 h2 c3 h3 hi;simp only[List.getD_eq_getElem?_getD]at this;rw[List.getElem?_eq_getElem (by omega),List.getElem?_eq_getElem (by omega)]at this ⊢;simpa using this
 ·rw[List.getElem?_eq_none (by omega),List.getElem?_eq_none (by omega)]
def Eh{m:Int×Int×List Int}(h:¬ ∃e,cY m.1.toNat (ae m) e):bj m=[]:=by
 rw[bj,dif_neg];rintro ⟨l,_,h2,_⟩
 exact h ⟨_,h2⟩
def uK{m:Int×Int×List Int}(h:bj m≠[]):(bj m).length=m.1.toNat/\cY m.1.toNat (ae m) (λi=>(bj m).getD i 0)/\lR m.1.toNat (ae m) (λi=>(bj m).getD i 0):=by
 by_cases hx:∃l:List Int,l.length=m.1.toNat/\cY m.1.toNat (ae m) (λi=>l.getD i 0)/\lR m.1.toNat (ae m) (λi=>l.getD i 0)
 ·have:bj m=Classical.choose hx:=by rw[bj,dif_pos hx]
  rw[this];exact Classical.choose_spec hx
 ·exact absurd (by rw[bj,dif_neg hx]) h
def pg{n:Nat}{A:Nat->Nat->Int}{e:Nat->Int}(he:cY n A e){i j:Nat}(hi:i<n)(hj:j<n):dz (A i j) (A j i)=true:=by
 have h1:=(he i hi).2 j hj;have h2:=(he i hi).1;have h3:=(he j hj).1;have e1:decide (0<A i j)=decide (A j i<0):=by
  rw[decide_eq_decide];constructor
  ·intro h;have:=Int.mul_pos h2 h;rcases Int.lt_or_le (A j i) 0 with h4|h4;·exact h4
   ·have:=Int.mul_nonneg (Int.le_of_lt h3) h4;omega
  ·intro h;have:=Int.mul_neg_of_pos_of_neg h3 h;rcases Int.lt_or_le 0 (A i j)with h4|h4;·exact h4
   ·have:=Int.mul_nonpos_of_nonneg_of_nonpos (Int.le_of_lt h2) h4;omega
 have e2:decide (A i j=0)=decide (A j i=0):=by rw[decide_eq_decide];exact⟨uJ he hi hj,uJ he hj hi⟩
 rw[dz,e1,e2];simp
def OB{m:Int×Int×List Int}(hs:ba m=true)(h:bj m≠[]):aT m=true:=by obtain⟨h1,h2,h3⟩:=uK h;rw[aT,hs,Bool.true_and,List.all_eq_true];intro i hi;rw[List.all_eq_true];intro j hj;exact pg h2 (List.mem_range.1 hi) (List.mem_range.1 hj)
def ak(l:List Nat):List Int:=l.map λ(x:Nat)=>(x:Int)
def aU(l:List Nat):(ak l).length=l.length:=by simp[ak]
def d6(l:List Nat)(k:Nat):(ak l).getD k 0=((l.getD k 0:Nat):Int):=by simp only[ak,List.getD_eq_getElem?_getD,List.getElem?_map];cases l[k]?<;>rfl
def rR(l:List Nat)(x:Nat):ak l++[(x:Int)]=ak (l++[x]):=by simp[ak]
def uL{l:List Nat}{x:Nat}:((x:Int)∈ak l)↔x∈l:=by
 simp only[ak,List.mem_map];constructor
 ·rintro ⟨a,h1,h2⟩
  rwa [<-Int.ofNat.inj h2]
 ·exact λh=>⟨x,h,rfl⟩
def ph:∀(n:Nat) (l:List Nat),l.Nodup->(∀x∈l,x<n)->l.length<=n
 |0,l,_,h=>by
  cases l with
  |nil=>simp
  |cons x xs=>exact absurd (h x (by simp)) (by omega)
 |n+1,l,hn,h=>by have:=ph n (l.erase n) (hn.erase n) (λx hx=>by have h1:=(hn.mem_erase_iff).1 hx;have:=h x h1.2;omega);rw[List.length_erase]at this;split at this<;>omega
def gV(A:Nat->Nat->Int)(x:Nat):List Nat->List Nat×List Nat->List Nat×List Nat
 |[],s=>s
 |j::js,s=>gV A x js (if A x j≠0/\j∉s.1 then(s.1++[j],s.2++[x])else s)
def iW(A:Nat->Nat->Int)(n:Nat):Nat->Nat->List Nat×List Nat->List Nat×List Nat
 |0,_,s=>s
 |f+1,p,s=>if p<s.1.length then iW A n f (p+1) (gV A (s.1.getD p 0) (List.range n) s)else s
def bf(m:Int×Int×List Int)(i:Nat):List Nat×List Nat:=iW (ae m) m.1.toNat m.1.toNat 0 ([i],[i])
structure dN(n:Nat)(A:Nat->Nat->Int)(i:Nat)(s:List Nat×List Nat):Prop where
 nd:s.1.Nodup
 lt:∀x∈s.1,x<n
 len:s.2.length=s.1.length
 hd:s.1.getD 0 0=i
 pos:0<s.1.length
 src:∀k,1<=k->k<s.1.length->∃k',k'<k/\s.2.getD k 0=s.1.getD k' 0/\A (s.2.getD k 0) (s.1.getD k 0)≠0
def dN.le{n:Nat}{A:Nat->Nat->Int}{i:Nat}{s:List Nat×List Nat}(h:dN n A i s):s.1.length<=n:=ph n s.1 h.nd h.lt
def iy{α:Type}{l m:List α}{k:Nat}{d:α}(h:k<l.length):(l++m).getD k d=l.getD k d:=by simp only[List.getD_eq_getElem?_getD];rw[List.getElem?_append_left h]
def zr{α:Type}{l:List α}{x d:α}{k:Nat}(h:k=l.length):(l++[x]).getD k d=x:=by subst h;simp[List.getD_eq_getElem?_getD]
def dN.step{n:Nat}{A:Nat->Nat->Int}{i p j:Nat}{s:List Nat×List Nat}(h:dN n A i s)(hp:p<s.1.length)(hj:j<n)(ha:A (s.1.getD p 0) j≠0/\j∉s.1):dN n A i (s.1++[j],s.2++[s.1.getD p 0]):=by
 refine⟨?_, ?_, ?_, ?_, ?_, ?_⟩;·exact List.nodup_append.2 ⟨h.nd,by simp,λa ha' b hb e=>by rw[List.mem_singleton]at hb;subst hb;subst e;exact ha.2 ha'⟩
 ·intro x hx;rcases List.mem_append.1 hx with hx|hx;·exact h.lt x hx
  ·rw[List.mem_singleton]at hx;omega
 ·simp[h.len]
 ·exact(iy h.pos).trans h.hd
 ·simp
 ·intro k h1 h2;simp only[List.length_append,List.length_cons,List.length_nil]at h2;by_cases hk:k<s.1.length
  ·obtain⟨k',h3,h4,h5⟩:=h.src k h1 hk;refine⟨k',h3, ?_, ?_⟩;·show(s.2++_).getD k 0=(s.1++_).getD k' 0;rw[iy (by rw[h.len];exact hk),iy (by omega),h4]
   ·show A ((s.2++_).getD k 0) ((s.1++_).getD k 0)≠0;rw[iy (by rw[h.len];exact hk),iy hk];exact h5
  ·have e:k=s.1.length:=by omega
   refine⟨p,by omega, ?_, ?_⟩;·show(s.2++_).getD k 0=(s.1++_).getD p 0;rw[zr (by rw[h.len];exact e),iy hp]
   ·show A ((s.2++_).getD k 0) ((s.1++_).getD k 0)≠0;rw[zr (by rw[h.len];exact e),zr e];exact ha.1
def nE(s t:List Nat×List Nat):Prop:=∃u,t.1=s.1++u
def nE.getD{s t:List Nat×List Nat}(h:nE s t){k:Nat}(hk:k<s.1.length):t.1.getD k 0=s.1.getD k 0:=by obtain⟨u,h⟩:=h;rw[h,iy hk]
def nE.len{s t:List Nat×List Nat}(h:nE s t):s.1.length<=t.1.length:=by obtain⟨u,h⟩:=h;rw[h];simp
def nE.mem{s t:List Nat×List Nat}(h:nE s t){x:Nat}(hx:x∈s.1):x∈t.1:=by obtain⟨u,h⟩:=h;rw[h];exact List.mem_append_left _ hx
def uM{n:Nat}{A:Nat->Nat->Int}{i p:Nat}:∀(js:List Nat) (s:List Nat×List Nat),dN n A i s->p<s.1.length->(∀j∈js,j<n) ->
  dN n A i (gV A (s.1.getD p 0) js s)/\nE s (gV A (s.1.getD p 0) js s)/\∀j∈js,A (s.1.getD p 0) j≠0->j∈(gV A (s.1.getD p 0) js s).1
 |[],s,h,_,_=>⟨h,⟨[],by simp[gV]⟩,λj hj=>by cases hj⟩
 |j::js,s,h,hp,hl=>by
  by_cases ha:A (s.1.getD p 0) j≠0/\j∉s.1
  ·have e:(s.1++[j]).getD p 0=s.1.getD p 0:=iy hp;have:=uM (p:=p) js (s.1++[j],s.2++[s.1.getD p 0]) (h.step hp (hl j (by simp)) ha) (by simp;omega) (λx hx=>hl x (by simp[hx]));simp only[e]at this;obtain⟨h1,⟨u,h2⟩,h3⟩:=this;rw[gV,if_pos ha];refine⟨h1,⟨[j]++u,by rw[h2];simp⟩,λx hx hax=>?_⟩;rcases List.mem_cons.1 hx with hx|hx;·subst hx;rw[h2];simp
   ·exact h3 x hx hax
  ·have:=uM (p:=p) js s h hp (λx hx=>hl x (by simp[hx]));obtain⟨h1,h2,h3⟩:=this;rw[gV,if_neg ha];refine⟨h1,h2,λx hx hax=>?_⟩;rcases List.mem_cons.1 hx with hx|hx;·subst hx;exact h2.mem (Classical.byContradiction λhc=>ha ⟨hax,hc⟩)
   ·exact h3 x hx hax
def Ei{n:Nat}{A:Nat->Nat->Int}{i:Nat}:∀(f p:Nat) (s:List Nat×List Nat),dN n A i s->n<=f+p->p<=s.1.length->(∀k,k<p->∀j,j<n->A (s.1.getD k 0) j≠0->j∈s.1) ->
  dN n A i (iW A n f p s)/\∀x∈(iW A n f p s).1,∀j,j<n->A x j≠0->j∈(iW A n f p s).1
 |0,p,s,h,hf,hp,hc=>⟨h,λx hx j hj ha=>by change x∈s.1 at hx;show j∈s.1;obtain⟨k,hk,rfl⟩:=List.getElem_of_mem hx;have:=h.le;refine hc k (by omega) j hj ?_;rw[List.getD_eq_getElem?_getD,List.getElem?_eq_getElem hk];exact ha⟩
 |f+1,p,s,h,hf,hp,hc=>by
  rw[iW];by_cases hlt:p<s.1.length
  ·rw[if_pos hlt];obtain⟨h1,h2,h3⟩:=uM (p:=p) (List.range n) s h hlt (λx hx=>List.mem_range.1 hx);refine Ei f (p+1) _ h1 (by omega) (by have:=h2.len;omega) ?_;intro k hk j hj ha;by_cases e:k=p;·subst e;rw[h2.getD hlt]at ha;exact h3 j (List.mem_range.2 hj) ha
   ·rw[h2.getD (by omega)]at ha;exact h2.mem (hc k (by omega) j hj ha)
  ·rw[if_neg hlt];refine⟨h,λx hx j hj ha=>?_⟩;obtain⟨k,hk,rfl⟩:=List.getElem_of_mem hx;refine hc k (by omega) j hj ?_;rw[List.getD_eq_getElem?_getD,List.getElem?_eq_getElem hk];exact ha
def dN.first{n:Nat}{A:Nat->Nat->Int}{i:Nat}(h:i<n):dN n A i ([i],[i]) :=
 ⟨by simp,by simpa using h,rfl,rfl,by simp,λk h1 h2=>by simp at h2;omega⟩
def pi{m:Int×Int×List Int}{i:Nat}(h:i<m.1.toNat):dN m.1.toNat (ae m) i (bf m i)/\∀x∈(bf m i).1,∀j,j<m.1.toNat->ae m x j≠0->j∈(bf m i).1 :=
 Ei m.1.toNat 0 _ (dN.first h) (by omega) (by simp) (λk hk=>by omega)
def cL{α:Type}{l:List α}{x y:Nat}{v d:α}(h:x<l.length):(l.set x v).getD y d=if x=y then v else l.getD y d:=by
 by_cases e:x=y;·subst e;rw[if_pos rfl,N1 h]
 ·rw[if_neg e,List.getD_eq_getElem?_getD,List.getElem?_set_ne e,List.getD_eq_getElem?_getD]
def lS{l:List Nat}(h:l.Nodup){a b:Nat}(ha:a<l.length)(hb:b<l.length)(e:l.getD a 0=l.getD b 0):a=b:=by
 rw[List.getD_eq_getElem?_getD,List.getD_eq_getElem?_getD,List.getElem?_eq_getElem ha,List.getElem?_eq_getElem hb,Option.getD_some,Option.getD_some]at e;rcases Nat.lt_trichotomy a b with h1|h1|h1;·exact absurd e (List.pairwise_iff_getElem.1 h a b ha hb h1)
 ·exact h1
 ·exact absurd e.symm (List.pairwise_iff_getElem.1 h b a hb ha h1)
def nF{l:List Nat}{x:Nat}(h:x∈l):∃k,k<l.length/\l.getD k 0=x:=by obtain⟨k,hk,rfl⟩:=List.getElem_of_mem h;exact⟨k,hk,by rw[List.getD_eq_getElem?_getD,List.getElem?_eq_getElem hk,Option.getD_some]⟩
def Ej{α:Type}(l:List Nat)(f:Nat->α):(List.range l.length).map (λt=>f (l.getD t 0))=l.map f:=by
 have:=rQ (n:=l.length) (l:=l) 0 rfl;conv=>rhs;rw[<-this]
 rw[List.map_map];rfl
def aI(a:Int):Int:=(a.natAbs:Int)
def pk{a:Int}(h:a≠0):0<aI a:=by unfold aI;omega
def pm{a:Int}(h:-99<=a/\a<=99):aI a<=99:=by unfold aI;omega
def Ek{e f p q:Int}(he:0<e)(hf:0<f)(h:e*p=-(f*q)):e*aI p=f*aI q:=by
 have h1:(e*p).natAbs=(f*q).natAbs:=by rw[h,Int.natAbs_neg]
 rw[Int.natAbs_mul,Int.natAbs_mul]at h1;have:((e.natAbs*p.natAbs:Nat):Int)=((f.natAbs*q.natAbs:Nat):Int):=by rw[h1]
 rw[Int.natCast_mul,Int.natCast_mul,Int.natAbs_of_nonneg (Int.le_of_lt he),Int.natAbs_of_nonneg (Int.le_of_lt hf)]at this;exact this
def dJ(q:Nat->Int):Nat->Int
 |0=>1
 |k+1=>dJ q k*q k
def OC(q:Nat->Int){a b:Nat}(h:a<=b):dJ q a∣dJ q b:=by
 induction b with
 |zero=>rw[show a=0 by omega];exact Int.dvd_refl _
 |succ b ih =>
  by_cases e:a=b+1;·subst e;exact Int.dvd_refl _
  ·exact Int.dvd_trans (ih (by omega)) ⟨q b,rfl⟩
def rS{q:Nat->Int}{n:Nat}(h:∀k,k<n->0<q k/\q k<=99):∀k,k<=n->0<dJ q k/\dJ q k<=99 ^ k
 |0,_=>by simp[dJ]
 |k+1,hk=>by obtain⟨h1,h2⟩:=rS h k (by omega);obtain⟨h3,h4⟩:=h k (by omega);refine⟨Int.mul_pos h1 h3, ?_⟩;rw[Int.pow_succ];exact Int.mul_le_mul h2 h4 (by omega) (Int.pow_nonneg (by omega))
def rT{k:Nat}(h:k<=8):(99:Int) ^ k<=9227446944279201:=by
 have h1:99 ^ k<=99 ^ 8:=Nat.pow_le_pow_right (by omega) h;have h2:(99:Int) ^ k=((99 ^ k:Nat):Int):=by rw[Int.natCast_pow];rfl
 rw[h2];omega
def OD{H D Hk q p a:Int}(hH:0<Hk)(hq:0<q)(hp:0<p)(ha:0<a)(h1:Hk*q∣D)(h2:D∣a*Hk) :
  (Int.tdiv (a*p) q)*q=a*p/\0<Int.tdiv (a*p) q/\D∣Int.tdiv (a*p) q*(Hk*q):=by
 obtain⟨R,hR⟩:=h1;obtain⟨c,hc⟩:=h2;have e:a=q*(R*c):=by
  have:Hk*a=Hk*(q*(R*c)):=by rw[Int.mul_comm Hk a,hc,hR,<-Int.mul_assoc Hk q,Int.mul_assoc]
  exact Int.eq_of_mul_eq_mul_left (by omega) this
 have e2:Int.tdiv (a*p) q=R*c*p:=by rw[e,Int.mul_assoc,Int.mul_tdiv_cancel_left _ (by omega)]
 rw[e2];refine⟨by rw[e,Int.mul_comm (R*c*p) q,Int.mul_assoc q], ?_, ?_⟩
 ·have h3:0<q*(R*c*p):=by rw[<-Int.mul_assoc,<-e];exact Int.mul_pos ha hp
  rcases Int.lt_or_le 0 (R*c*p)with h|h;·exact h
  ·have:=Int.mul_nonpos_of_nonneg_of_nonpos (Int.le_of_lt hq) h;omega
 ·refine⟨c*p, ?_⟩;rw[hR,Int.mul_comm (R*c*p),Int.mul_assoc,Int.mul_assoc,Int.mul_assoc,Int.mul_assoc]
def El(g:Nat)(l:List Int)(x:Int)(hx:0<=x)(hg:g=cu l):(Int.gcd (g:Int) x:Int)=((cu (l++[x]):Nat):Int):=by subst hg;rw[Oy,cu,cu,Nat.gcd_zero_right];rfl
def qK(m:Int×Int×List Int)(s:List Nat×List Nat)(k:Nat):Int:=if k=0 then 1 else aI (ae m (s.1.getD k 0) (s.2.getD k 0))
def pK(m:Int×Int×List Int)(s:List Nat×List Nat)(k:Nat):Int:=aI (ae m (s.2.getD k 0) (s.1.getD k 0))
def uN{m:Int×Int×List Int}(h:aT m=true){i j:Nat}(hi:i<m.1.toNat)(hj:j<m.1.toNat):ae m i j=0↔ae m j i=0:=by rw[aT,Bool.and_eq_true,List.all_eq_true]at h;have h1:=List.all_eq_true.1 (h.2 i (List.mem_range.2 hi)) j (List.mem_range.2 hj);rw[dz,Bool.and_eq_true]at h1;have h2:=h1.2;rw[beq_iff_eq,decide_eq_decide]at h2;exact h2
def eZ{m:Int×Int×List Int}(h:ba m=true)(i j:Nat):-99<=ae m i j/\ae m i j<=99:=by rw[ba,Bool.and_eq_true]at h;exact Ox h.2 _
def cV{m:Int×Int×List Int}(h:aT m=true):ba m=true:=by rw[aT,Bool.and_eq_true]at h;exact h.1
def cn{m:Int×Int×List Int}(h:ba m=true):aY m=true:=by rw[ba,Bool.and_eq_true]at h;exact h.1
def rU{n:Nat}{A:Nat->Nat->Int}{i:Nat}{s:List Nat×List Nat}(h:dN n A i s){k:Nat}(h1:1<=k)(h2:k<s.1.length):s.2.getD k 0<n:=by obtain⟨k',h3,h4,h5⟩:=h.src k h1 h2;rw[h4];exact h.lt _ (aX 0 (by omega))
def uO{m:Int×Int×List Int}(hs:aT m=true){i:Nat}{s:List Nat×List Nat}(h:dN m.1.toNat (ae m) i s){k:Nat}(h1:1<=k)(h2:k<s.1.length) :
  (0<qK m s k/\qK m s k<=99)/\(0<pK m s k/\pK m s k<=99):=by
 obtain⟨k',h3,h4,h5⟩:=h.src k h1 h2;have h6:ae m (s.1.getD k 0) (s.2.getD k 0)≠0:=λe=>h5 ((uN hs (h.lt _ (aX 0 h2)) (rU h h1 h2)).1 e);have hb:=cV hs;rw[qK,if_neg (by omega),pK];exact⟨⟨pk h6,pm (eZ hb _ _)⟩,⟨pk h5,pm (eZ hb _ _)⟩⟩
def rV{m:Int×Int×List Int}(hs:aT m=true){i:Nat}{s:List Nat×List Nat}(h:dN m.1.toNat (ae m) i s)(k:Nat)(h2:k<s.1.length):0<qK m s k/\qK m s k<=99:=by
 by_cases e:k=0;·subst e;rw[qK,if_pos rfl];omega
 ·exact(uO hs h (by omega) h2).1
structure T2(m:Int×Int×List Int)(s:List Nat×List Nat)(d0:List Int)(k:Nat)(d:List Int)(g:Int):Prop where
 len:d.length=m.1.toNat
 out:∀x,x<m.1.toNat->(∀k',k'<k->x≠s.1.getD k' 0)->d.getD x 0=d0.getD x 0
 val:∀k',k'<k->0<d.getD (s.1.getD k' 0) 0/\d.getD (s.1.getD k' 0) 0<=99 ^ (4+k')/\dJ (qK m s) s.1.length∣d.getD (s.1.getD k' 0) 0*dJ (qK m s) k
 tree:∀k',1<=k'->k'<k->d.getD (s.1.getD k' 0) 0*qK m s k'=d.getD (s.2.getD k' 0) 0*pK m s k'
 gcd:g=((cu ((List.range k).map λt=>d.getD (s.1.getD t 0) 0):Nat):Int)
def T2.step{m:Int×Int×List Int}{s:List Nat×List Nat}{d0 d:List Int}{g:Int}{i k:Nat}(hs:aT m=true)(h:dN m.1.toNat (ae m) i s)(hn:m.1.toNat<=5)(h1:1<=k)(h2:k<s.1.length)(ht:T2 m s d0 k d g) :
  (0<d.getD (s.2.getD k 0) 0*pK m s k/\d.getD (s.2.getD k 0) 0*pK m s k<=9227446944279201) /\
  (0<Int.tdiv (d.getD (s.2.getD k 0) 0*pK m s k) (qK m s k)/\Int.tdiv (d.getD (s.2.getD k 0) 0*pK m s k) (qK m s k)<=9227446944279201) /\
  T2 m s d0 (k+1) (d.set (s.1.getD k 0) (Int.tdiv (d.getD (s.2.getD k 0) 0*pK m s k) (qK m s k))) (Int.gcd g (Int.tdiv (d.getD (s.2.getD k 0) 0*pK m s k) (qK m s k))):=by
 obtain⟨⟨hq,hq9⟩,hp,hp9⟩:=uO hs h h1 h2;obtain⟨k',h3,h4,h5⟩:=h.src k h1 h2;obtain⟨a1,a2,a3⟩:=ht.val k' h3;have hle:=h.le;rw[<-h4]at a1 a2 a3;have hH:=(rS (rV hs h) k (by omega)).1;have hx:s.1.getD k 0<d.length:=by rw[ht.len];exact h.lt _ (aX 0 h2)
 have hdv:dJ (qK m s) k*qK m s k∣dJ (qK m s) s.1.length:=OC (qK m s) (show k+1<=s.1.length from h2);obtain⟨b1,b2,b3⟩:=OD (H:=0) hH hq hp a1 hdv a3;have hb:d.getD (s.2.getD k 0) 0*pK m s k<=99 ^ (4+k):=by have:d.getD (s.2.getD k 0) 0*pK m s k<=99 ^ (4+k')*99:=Int.mul_le_mul a2 hp9 (by omega) (Int.pow_nonneg (by omega));rw[<-Int.pow_succ]at this;refine Int.le_trans this ?_;have h6:99 ^ (4+k'+1)<=99 ^ (4+k):=Nat.pow_le_pow_right (by omega) (by omega);exact_mod_cast h6
 have hp8:=rT (k:=4+k) (by omega);generalize hv:Int.tdiv (d.getD (s.2.getD k 0) 0*pK m s k) (qK m s k)=v at b1 b2 b3;have hvle:v<=d.getD (s.2.getD k 0) 0*pK m s k:=by rw[<-b1];have:=Int.mul_le_mul_of_nonneg_left (show(1:Int)<=qK m s k by omega) (Int.le_of_lt b2);omega
 have hne:∀t,t<k->s.1.getD k 0≠s.1.getD t 0:=λt ht' e=>by have:=lS h.nd h2 (by omega) e;omega
 have hget:∀t,t<k->(d.set (s.1.getD k 0) v).getD (s.1.getD t 0) 0=d.getD (s.1.getD t 0) 0:=λt ht'=>by rw[cL hx,if_neg (hne t ht')]
 have hself:(d.set (s.1.getD k 0) v).getD (s.1.getD k 0) 0=v:=by rw[cL hx,if_pos rfl]
 refine⟨⟨Int.mul_pos a1 hp,by omega⟩,⟨b2,by omega⟩,⟨?_, ?_, ?_, ?_, ?_⟩⟩;·rw[List.length_set,ht.len]
 ·intro x hx' hall;rw[cL hx,if_neg (λe=>hall k (by omega) e.symm)];exact ht.out x hx' (λt ht'=>hall t (by omega))
 ·intro t ht';by_cases e:t=k;·subst e;rw[hself];exact⟨b2,by omega,b3⟩
  ·rw[hget t (by omega)];obtain⟨c1,c2,c3⟩:=ht.val t (by omega);refine⟨c1,c2, ?_⟩;rw[dJ,<-Int.mul_assoc];exact Int.dvd_trans c3 ⟨_,rfl⟩
 ·intro t ht1 ht2;by_cases e:t=k;·subst e;rw[hself,h4,hget k' h3,<-h4];exact b1
  ·obtain⟨t',c1,c2,_⟩:=h.src t ht1 (by omega);rw[hget t (by omega),c2,hget t' (by omega),<-c2];exact ht.tree t ht1 (by omega)
 ·rw[List.range_succ,List.map_append,List.map_cons,List.map_nil,hself];rw[show(List.range k).map (λt=>(d.set (s.1.getD k 0) v).getD (s.1.getD t 0) 0)=(List.range k).map (λt=>d.getD (s.1.getD t 0) 0)from List.map_congr_left (λt ht'=>hget t (List.mem_range.1 ht'))];rw[ht.gcd];exact El _ _ v (by omega) rfl
def T2.g_range{m:Int×Int×List Int}{s:List Nat×List Nat}{d0 d:List Int}{g:Int}{k:Nat}(h1:1<=k)(ht:T2 m s d0 k d g):0<g/\g<=9227446944279201:=by
 obtain⟨a1,a2,_⟩:=ht.val 0 (by omega);have hd:g∣d.getD (s.1.getD 0 0) 0:=by rw[ht.gcd];exact uI (List.mem_map.2 ⟨0,List.mem_range.2 (by omega),rfl⟩)
 have:=Int.le_of_dvd a1 hd;have hp:=rT (k:=4+0) (by omega);refine⟨?_,by omega⟩;rcases Int.lt_or_le 0 g with h|h;·exact h
 ·have h0:0<=g:=by rw[ht.gcd];omega
  have e:g=0:=by omega
  rw[e]at hd;have:=Int.zero_dvd.1 hd;omega
structure T3(m:Int×Int×List Int)(s:List Nat×List Nat)(d2:List Int)(g:Int)(k:Nat)(d:List Int):Prop where
 len:d.length=m.1.toNat
 out:∀x,x<m.1.toNat->(∀k',k'<k->x≠s.1.getD k' 0)->d.getD x 0=d2.getD x 0
 val:∀k',k'<k->d.getD (s.1.getD k' 0) 0=Int.tdiv (d2.getD (s.1.getD k' 0) 0) g
def T3.step{m:Int×Int×List Int}{s:List Nat×List Nat}{d2 d:List Int}{g:Int}{k:Nat}(hnd:s.1.Nodup)(hlt:∀x∈s.1,x<m.1.toNat)(h2:k<s.1.length)(ht:T3 m s d2 g k d) :
  T3 m s d2 g (k+1) (d.set (s.1.getD k 0) (Int.tdiv (d2.getD (s.1.getD k 0) 0) g)):=by
 have hx:s.1.getD k 0<d.length:=by rw[ht.len];exact hlt _ (aX 0 h2)
 refine⟨by rw[List.length_set,ht.len], ?_, ?_⟩;·intro x hx' hall;rw[cL hx,if_neg (λe=>hall k (by omega) e.symm)];exact ht.out x hx' (λt ht'=>hall t (by omega))
 ·intro t ht';by_cases e:t=k;·subst e;rw[cL hx,if_pos rfl]
  ·rw[cL hx,if_neg (λe'=>e (lS hnd h2 (by omega) e').symm)];exact ht.val t (by omega)
def T3.cur{m:Int×Int×List Int}{s:List Nat×List Nat}{d2 d:List Int}{g:Int}{k:Nat}(hnd:s.1.Nodup)(hlt:∀x∈s.1,x<m.1.toNat)(h2:k<s.1.length)(ht:T3 m s d2 g k d) :
  d.getD (s.1.getD k 0) 0=d2.getD (s.1.getD k 0) 0 :=
 ht.out _ (hlt _ (aX 0 h2)) (λt ht' e=>by have:=lS hnd h2 (by omega) e;omega)
def ka(n:Nat)(A:Nat->Nat->Int)(d:Nat->Int):Prop:=∀j,j<n->0<=d j/\d j<=9227446944279201 /\
 (0<d j->∃L:List Nat,j∈L/\(∀k∈L,k<n/\0<d k)/\(∀k,k<n->A j k≠0->k∈L)/\cu (L.map d)=1/\∀e,cY n A e->∀k∈L,d j*e k=d k*e j)
def OE{m:Int×Int×List Int}{s:List Nat×List Nat}{d0 d:List Int}{g:Int}{i:Nat}(hs:aT m=true)(h:dN m.1.toNat (ae m) i s)(ht:T2 m s d0 s.1.length d g){e:Nat->Int}(he:cY m.1.toNat (ae m) e) :
  ∀k,k<s.1.length->d.getD i 0*e (s.1.getD k 0)=d.getD (s.1.getD k 0) 0*e i:=by
 intro k;induction k using Nat.strongRecOn with
 |_ k ih =>
  intro hk;by_cases h0:k=0;·subst h0;rw[h.hd]
  ·obtain⟨k',h3,h4,h5⟩:=h.src k (by omega) hk;have h6:=ih k' h3 (by omega);rw[<-h4]at h6;have hlk:=h.lt _ (aX 0 hk);have hfk:=rU h (show 1<=k by omega) hk;have h7:=Ek (he _ hfk).1 (he _ hlk).1 ((he _ hfk).2 _ hlk);have h8:=ht.tree k (by omega) hk;obtain⟨⟨hq,_⟩,hp,_⟩:=uO hs h (show 1<=k by omega) hk;rw[show aI (ae m (s.1.getD k 0) (s.2.getD k 0))=qK m s k by rw[qK,if_neg h0]]at h7;have h7':e (s.2.getD k 0)*pK m s k=e (s.1.getD k 0)*qK m s k:=h7;have h9:d.getD (s.2.getD k 0) 0*e (s.1.getD k 0)=d.getD (s.1.getD k 0) 0*e (s.2.getD k 0) :=
    OA (p:=pK m s k) (q:=-(qK m s k)) (by omega) (he _ hfk).1 (by rw[Int.mul_neg,Int.neg_neg];exact h8.symm) (by rw[Int.mul_neg,Int.neg_neg];exact h7') (by omega)
   have:=(he _ hfk).1;exact Eg (by omega) h6 h9
def OF{m:Int×Int×List Int}{s:List Nat×List Nat}{d0 d2 d:List Int}{g:Int}{i:Nat}(hs:aT m=true)(hi:i<m.1.toNat)(h:dN m.1.toNat (ae m) i s)(hn:m.1.toNat<=5)
  (hcl:∀x∈s.1,∀j,j<m.1.toNat->ae m x j≠0->j∈s.1)
  (h0:ka m.1.toNat (ae m) (λx=>d0.getD x 0)) (hz:d0.getD i 0<=0) (h2:T2 m s d0 s.1.length d2 g) (h3:T3 m s d2 g s.1.length d) :
  ka m.1.toNat (ae m) (λx=>d.getD x 0)/\0<d.getD i 0/\∀x,x<m.1.toNat->0<d0.getD x 0->0<d.getD x 0:=by
 have hg:=h2.g_range h.pos;have hle:=h.le;have hnew:∀k,k<s.1.length->d0.getD (s.1.getD k 0) 0<=0:=by
  intro k;induction k using Nat.strongRecOn with
  |_ k ih =>
   intro hk;by_cases hk0:k=0;·subst hk0;rw[h.hd];exact hz
   ·obtain⟨k',a1,a2,a3⟩:=h.src k (by omega) hk;have b1:=ih k' a1 (by omega);rw[<-a2]at b1;rcases Int.lt_or_le 0 (d0.getD (s.1.getD k 0) 0)with hc|hc;·have hlk:=h.lt _ (aX 0 hk);have hfk:=rU h (show 1<=k by omega) hk;obtain⟨L,c1,c2,c3,_⟩:=(h0 _ hlk).2.2 hc;have b4:0<d0.getD (s.2.getD k 0) 0:=(c2 _ (c3 _ hfk (λe=>a3 ((uN hs hlk hfk).1 e)))).2;have b2:d0.getD (s.2.getD k 0) 0<=0:=b1;omega
    ·exact hc
 have hin:∀x∈s.1,d.getD x 0*g=d2.getD x 0/\0<d.getD x 0/\d.getD x 0<=9227446944279201:=by
  intro x hx;obtain⟨k,hk,rfl⟩:=nF hx;have a1:=h3.val k hk;obtain⟨b1,b2,_⟩:=h2.val k hk;have b3:g∣d2.getD (s.1.getD k 0) 0:=by rw[h2.gcd];exact uI (List.mem_map.2 ⟨k,List.mem_range.2 hk,rfl⟩)
  have b4:d.getD (s.1.getD k 0) 0*g=d2.getD (s.1.getD k 0) 0:=by rw[a1];exact Int.tdiv_mul_cancel b3
  have b5:=rT (k:=4+k) (by omega);have b6:0<d.getD (s.1.getD k 0) 0:=by
   rcases Int.lt_or_le 0 (d.getD (s.1.getD k 0) 0)with hc|hc;·exact hc
   ·have:=Int.mul_nonpos_of_nonpos_of_nonneg hc (Int.le_of_lt hg.1);omega
  refine⟨b4,b6, ?_⟩;have:=Int.mul_le_mul_of_nonneg_left (show(1:Int)<=g by omega) (Int.le_of_lt b6);omega
 have hout:∀x,x<m.1.toNat->x∉s.1->d.getD x 0=d0.getD x 0:=by intro x hx hni;have hne:∀k',k'<s.1.length->x≠s.1.getD k' 0:=λk' hk' e=>hni (by rw[e];exact aX 0 hk');rw[h3.out x hx hne,h2.out x hx hne]
 have himem:i∈s.1:=by rw[<-h.hd];exact aX 0 h.pos
 refine⟨?_,(hin i himem).2.1, ?_⟩
 ·intro j hj;by_cases hm:j∈s.1
  ·obtain⟨a1,a2,a3⟩:=hin j hm;refine⟨Int.le_of_lt a2,a3,λ_=>⟨s.1,hm,λk hk=>⟨h.lt k hk,(hin k hk).2.1⟩,λk hk ha=>hcl j hm k hk ha, ?_, ?_⟩⟩
   ·have e1:s.1.map (λx=>g*d.getD x 0)=s.1.map (λx=>d2.getD x 0):=List.map_congr_left (λx hx=>by rw[Int.mul_comm];exact(hin x hx).1);have e2:=uH g (s.1.map (λx=>d.getD x 0));rw[List.map_map]at e2;have e3:cu (s.1.map (λx=>d2.getD x 0))=g.natAbs*cu (s.1.map (λx=>d.getD x 0)):=by rw[<-e1];exact e2
    have e4:g=((cu (s.1.map (λx=>d2.getD x 0)):Nat):Int):=by rw[<-Ej s.1 (λx=>d2.getD x 0)];exact h2.gcd
    have e5:cu (s.1.map (λx=>d2.getD x 0))=g.natAbs:=by have:=congrArg Int.natAbs e4;simpa using this.symm
    rw[e5]at e3;exact Nat.eq_of_mul_eq_mul_left (show 0<g.natAbs by omega) (by rw[Nat.mul_one];exact e3.symm)
   ·intro e he k hk;have key:∀x∈s.1,d.getD i 0*e x=d.getD x 0*e i:=by
     intro x hx;obtain⟨kx,hkx,rfl⟩:=nF hx;have c1:=OE hs h h2 he kx hkx;rw[<-(hin i himem).1,<-(hin _ hx).1]at c1;have c2:g*(d.getD i 0*e (s.1.getD kx 0))=g*(d.getD (s.1.getD kx 0) 0*e i):=by rw[<-Int.mul_assoc,<-Int.mul_assoc,Int.mul_comm g,Int.mul_comm g];exact c1
     exact Int.eq_of_mul_eq_mul_left (by omega) c2
    have:=(he i hi).1;exact Eg (b:=d.getD i 0) (f:=e i) (by omega) (key j hm).symm (key k hk)
  ·have e:=hout j hj hm;obtain⟨a1,a2,a3⟩:=h0 j hj;show 0<=d.getD j 0/\d.getD j 0<=_/\(0<d.getD j 0->_);rw[e];refine⟨a1,a2,λhpos=>?_⟩;obtain⟨L,b1,b2,b3,b4,b5⟩:=a3 hpos;have hL:∀k∈L,d.getD k 0=d0.getD k 0:=λk hk=>hout k (b2 k hk).1 (λhc=>by obtain⟨kx,hkx,e'⟩:=nF hc;have:=hnew kx hkx;rw[e']at this;have b6:0<d0.getD k 0:=(b2 k hk).2;omega);refine⟨L,b1,λk hk=>⟨(b2 k hk).1,by show 0<d.getD k 0;rw[hL k hk];exact(b2 k hk).2⟩,b3, ?_, ?_⟩;·rw[show L.map (λx=>d.getD x 0)=L.map (λx=>d0.getD x 0)from List.map_congr_left hL];exact b4
   ·intro e' he' k hk;show d.getD j 0*e' k=d.getD k 0*e' j;rw[hL k hk,e];exact b5 e' he' k hk
 ·intro x hx hp;by_cases hm:x∈s.1;·exact(hin x hm).2.1
  ·rw[hout x hx hm];exact hp
def Em{m:Int×Int×List Int}{d:List Int}(hl:d.length=m.1.toNat)(h:ka m.1.toNat (ae m) (λx=>d.getD x 0))(hp:∀x,x<m.1.toNat->0<d.getD x 0)
  (hc:∀i,i<m.1.toNat->∀j,j<m.1.toNat->d.getD i 0*ae m i j=-(d.getD j 0*ae m j i)):bj m=d:=by
 refine zq hl (λi hi=>⟨hp i hi,hc i hi⟩) (λi hi=>?_);obtain⟨L,a1,a2,a3,a4,a5⟩:=(h i hi).2.2 (hp i hi);exact⟨L,λk hk=>(a2 k hk).1,a4,a5⟩
def OG{m:Int×Int×List Int}{d:List Int}(hs:aT m=true)(h:ka m.1.toNat (ae m) (λx=>d.getD x 0))(hp:∀x,x<m.1.toNat->0<d.getD x 0){e:Nat->Int}(he:cY m.1.toNat (ae m) e)
  {i j:Nat} (hi:i<m.1.toNat) (hj:j<m.1.toNat):d.getD i 0*ae m i j=-(d.getD j 0*ae m j i):=by
 by_cases ha:ae m i j=0;·rw[ha,(uN hs hi hj).1 ha];simp
 ·obtain⟨L,a1,a2,a3,a4,a5⟩:=(h i hi).2.2 (hp i hi);exact Ef (he i hi).1 (he j hj).1 (a5 e he j (a3 j hj ha)) ((he i hi).2 j hj)
def OH{m:Int×Int×List Int}{d:List Int}(hs:aT m=true)(h:ka m.1.toNat (ae m) (λx=>d.getD x 0))(hp:∀x,x<m.1.toNat->0<d.getD x 0)
  {i j:Nat} (hi:i<m.1.toNat) (hj:j<m.1.toNat) (hc:d.getD i 0*ae m i j≠-(d.getD j 0*ae m j i)):bj m=[]:=by
 refine Eh (λ⟨e,he⟩=>hc ?_);by_cases ha:ae m i j=0;·rw[ha,(uN hs hi hj).1 ha];simp
 ·obtain⟨L,a1,a2,a3,a4,a5⟩:=(h i hi).2.2 (hp i hi);exact Ef (he i hi).1 (he j hj).1 (a5 e he j (a3 j hj ha)) ((he i hi).2 j hj)
def iX(m:Int×Int×List Int):Int×Int×List Int:=(m.1,m.1,m.2.2.take (m.1*m.1).toNat)
def En{m:Int×Int×List Int}(hd:aY m=true):ah (m.1*m.1)=m.1*m.1/\0<=m.1*m.1/\m.1*m.1<=25/\m.1*m.1<=(m.2.2.length:Int):=by
 obtain⟨n,r,hn,hr,hn1,hn5,hnr,hr8,hl⟩:=aQ hd;have h1:n*n<=r*n:=Nat.mul_le_mul_right n hnr;have h2:n*n<=5*5:=Nat.mul_le_mul hn5 hn5;rw[hn,hl];have e:(n:Int)*(n:Int)=((n*n:Nat):Int):=by rw[Int.natCast_mul]
 rw[e];rw[bh (by omega) (by omega)];exact⟨rfl,by omega,by omega,by omega⟩
end Go.Fw
set_option linter.unusedSectionVars false
namespace Go.Fw
def rW(l:List Int)(n:Int)(i:Nat):Bool:=b7 (l.getD i 0) 0 (n-1)&&!((l.take i).any λx=>decide (x=l.getD i 0))
def eD(l:List Int)(n:Int):Bool:=decide ((l.length:Int)=n)&&(List.range l.length).all (rW l n)
def lT{l:List Int}{n:Int}(h:eD l n=true):∃L:List Nat,l=ak L/\L.Nodup/\(∀x∈L,x<n.toNat)/\L.length=n.toNat:=by
 simp only[eD,Bool.and_eq_true,decide_eq_true_eq,List.all_eq_true,List.mem_range,rW,eK]at h;obtain⟨h1,h2⟩:=h;have e:l=ak (l.map Int.toNat):=by
  apply List.ext_getElem?;intro i;by_cases hi:i<l.length;·have:=(h2 i hi).1;rw[List.getD_eq_getElem?_getD,List.getElem?_eq_getElem hi,Option.getD_some]at this;simp only[ak,List.map_map,List.getElem?_map,List.getElem?_eq_getElem hi,Option.map_some,Function.comp];congr 1;omega
  ·rw[List.getElem?_eq_none (by omega),List.getElem?_eq_none (by rw[aU];simp;omega)]
 refine⟨l.map Int.toNat,e, ?_, ?_,by simp;omega⟩
 ·refine List.pairwise_iff_getElem.2 (λi j hi hj hij=>?_);have hi':i<l.length:=by simpa using hi
  have hj':j<l.length:=by simpa using hj
  have h3:=h2 j hj';have h4:=h2 i hi';rw[List.getD_eq_getElem?_getD,List.getElem?_eq_getElem hj',Option.getD_some]at h3;rw[List.getD_eq_getElem?_getD,List.getElem?_eq_getElem hi',Option.getD_some]at h4;simp only[List.getElem_map];intro hc;have hne:l[i]=l[j]:=by omega
  have h5:=h3.2;rw[Bool.not_eq_true',List.any_eq_false]at h5;have:=h5 l[i] (by rw[List.mem_iff_getElem];exact⟨i,by rw[List.length_take];omega,by rw[List.getElem_take]⟩);simp[hne]at this
 ·intro x hx;obtain⟨y,hy,rfl⟩:=List.mem_map.1 hx;obtain⟨i,hi,rfl⟩:=List.getElem_of_mem hy;have:=(h2 i hi).1;rw[List.getD_eq_getElem?_getD,List.getElem?_eq_getElem hi,Option.getD_some]at this;omega
def c7:List Nat->Nat->Nat
 |[],_=>0
 |x::xs,b=>if x=b then 0 else c7 xs b+1
def fa:∀{L:List Nat}{b:Nat},b∈L->c7 L b<L.length/\L.getD (c7 L b) 0=b
 |[],b,h=>by cases h
 |x::xs,b,h=>by
  rw[c7];by_cases e:x=b;·rw[if_pos e];exact⟨by simp,by simpa using e⟩
  ·rw[if_neg e];rcases List.mem_cons.1 h with h|h;·exact absurd h.symm e
   ·obtain⟨h1,h2⟩:=fa h;exact⟨by simp;omega,by simpa[List.getD_cons_succ]using h2⟩
def fU{L:List Nat}{n:Nat}(h1:L.Nodup)(h2:∀x∈L,x<n)(h3:L.length=n){b:Nat}(hb:b<n):b∈L:=by
 refine Classical.byContradiction λhc=>?_;have:=ph n (b::L) (List.nodup_cons.2 ⟨hc,h1⟩) (λx hx=>by
  rcases List.mem_cons.1 hx with e|e;·omega
  ·exact h2 x e)
 simp at this;omega
def gl{L:List Nat}(h:L.Nodup){j:Nat}(hj:j<L.length):c7 L (L.getD j 0)=j:=by obtain⟨h1,h2⟩:=fa (aX (l:=L) 0 hj);exact lS h h1 hj h2
def cy(n:Nat)(L:List Nat)(i:Nat):Nat:=if i<n then L.getD i 0 else i
def eE(n:Nat)(L:List Nat)(p:Nat):Nat:=if p<n then c7 L p else p
def fb(n:Nat)(L:List Nat)(p:Nat):Nat:=eE n L (p / n)*n+c7 L (p%n)
def ci(m:Int×Int×List Int)(aC:List Int):Int×Int×List Int:=(m.1,m.2.1,(List.range m.2.2.length).map λp=>m.2.2.getD (fb m.1.toNat (aC.map Int.toNat) p) 0)
def fc(L:List Nat):(ak L).map Int.toNat=L:=by
 simp only[ak,List.map_map];conv=>rhs;rw[<-List.map_id L]
 apply List.map_congr_left;intro x _;simp
def iY(total t:Nat)(back:Nat->Nat)(F G:Nat->Int):List Int:=(List.range total).map λp=>if back p<t then F p else G p
def rX{total t:Nat}{back:Nat->Nat}{F G:Nat->Int}:(iY total t back F G).length=total:=by simp[iY]
def Eo{total t p:Nat}{back:Nat->Nat}{F G:Nat->Int}(hp:p<total)(hb:back p=t)(hinj:∀q,q<total->back q=t->q=p):(iY total t back F G).set p (F p)=iY total (t+1) back F G:=by
 apply List.ext_getElem?;intro q;by_cases hq:q<total
 ·by_cases e:p=q;·subst e;rw[List.getElem?_set_self (by rw[rX];exact hp)];simp only[iY,List.getElem?_map,List.getElem?_range hp,Option.map_some];rw[if_pos (by omega)]
  ·rw[List.getElem?_set_ne e];simp only[iY,List.getElem?_map,List.getElem?_range hq,Option.map_some];have hne:back q≠t:=λh=>e (hinj q hq h).symm;by_cases h1:back q<t;·rw[if_pos h1,if_pos (by omega)]
   ·rw[if_neg h1,if_neg (by omega)]
 ·rw[List.getElem?_eq_none (by rw[List.length_set,rX];omega),List.getElem?_eq_none (by rw[rX];omega)]
def Ep{total:Nat}{back:Nat->Nat}{F G:Nat->Int}:iY total 0 back F G=(List.range total).map G:=by simp[iY]
def Er{total:Nat}{back:Nat->Nat}{F G:Nat->Int}(h:∀p,p<total->back p<total):iY total total back F G=(List.range total).map F:=by unfold iY;apply List.map_congr_left;intro i hi;rw[if_pos (h i (List.mem_range.1 hi))]
section
variable {n r : Nat} {L : List Nat} (h1 : L.Nodup) (h2 : ∀ x ∈ L, x < n) (h3 : L.length = n) (hnr : n ≤ r)
include h1 h2 h3
theorem Es{i:Nat}:eE n L (cy n L i)=i:=by
 unfold cy eE;by_cases h:i<n;·have:=h2 _ (aX (l:=L) (j:=i) 0 (by omega));rw[if_pos h,if_pos this,gl h1 (by omega)]
 ·rw[if_neg h,if_neg h]
theorem Et{p:Nat}:cy n L (eE n L p)=p:=by
 unfold cy eE;by_cases h:p<n;·obtain⟨a,b⟩:=fa (fU h1 h2 h3 h);rw[if_pos h,if_pos (by omega),b]
 ·rw[if_neg h,if_neg h]
include hnr
theorem zt{i:Nat}(h:i<r):cy n L i<r:=by
 unfold cy;split;·rename_i h';have:=h2 _ (aX (l:=L) (j:=i) 0 (by omega));omega
 ·exact h
theorem zu{p:Nat}(h:p<r):eE n L p<r:=by
 unfold eE;split;·rename_i h';have:=(fa (fU h1 h2 h3 h')).1;omega
 ·exact h
theorem uP{i j:Nat}(hj:j<n):fb n L (cy n L i*n+L.getD j 0)=i*n+j:=by have:=h2 _ (aX (l:=L) (j:=j) 0 (by omega));unfold fb;rw[Nat.add_comm (cy n L i*n),Nat.add_mul_div_right _ _ (by omega),Nat.div_eq_of_lt this,Nat.zero_add,Nat.add_mul_mod_self_right,Nat.mod_eq_of_lt this,Es h1 h2 h3,gl h1 (by omega)]
theorem Eu{i j q:Nat}(hj:j<n)(h:fb n L q=i*n+j):q=cy n L i*n+L.getD j 0:=by
 have hn:0<n:=by omega
 obtain⟨a,b⟩:=fa (fU h1 h2 h3 (Nat.mod_lt q hn));unfold fb at h;have e1:eE n L (q / n)=i:=by
  have:(eE n L (q / n)*n+c7 L (q%n)) / n=(i*n+j) / n:=by rw[h]
  rw[Nat.add_comm,Nat.add_mul_div_right _ _ hn,Nat.div_eq_of_lt (by omega),Nat.zero_add,Nat.add_comm (i*n),Nat.add_mul_div_right _ _ hn,Nat.div_eq_of_lt hj,Nat.zero_add]at this;exact this
 have e2:c7 L (q%n)=j:=by rw[e1]at h;omega
 have e3:cy n L i=q / n:=by rw[<-e1,Et h1 h2 h3]
 rw[e3,<-e2,b,Nat.mul_comm];exact(Nat.div_add_mod q n).symm
theorem Ev{q:Nat}(hn:0<n)(h:q<r*n):fb n L q<r*n:=by obtain⟨a,b⟩:=fa (fU h1 h2 h3 (Nat.mod_lt q hn));have h4:q / n<r:=(Nat.div_lt_iff_lt_mul hn).2 h;exact j9 (zu h1 h2 h3 hnr h4) (by omega)
end
def Ew(k:Int)(l:List Int):List (List Int):=(List.range (l.length+1)).map λi=>gT l ((i:Nat):Int) [k]
def eL:Nat->List (List Int)
 |0=>[[]]
 |k+1=>(eL k).flatMap (Ew (k:Nat))
def dA(n:Nat):Nat->List Int->List (List Int)
 |0,f=>[f]
 |k+1,f=>(List.range n).flatMap λx=>cond (f.any λy=>decide (y=((x:Nat):Int))) [] (dA n k (f++[((x:Nat):Int)]))
def zw(n:Nat)(hn:n<=5):∀(k:Nat) (f:List Int),(dA n k f).length<=5 ^ k
 |0,f=>Nat.le_refl _
 |k+1,f=>by
  rw[dA,List.length_flatMap];have:∀(l:List Nat),((l.map λx=>(cond (f.any λy=>decide (y=((x:Nat):Int))) [] (dA n k (f++[((x:Nat):Int)]))).length).sum)<=l.length*5 ^ k:=by
   intro l;induction l with
   |nil=>exact Nat.zero_le _
   |cons x l ih =>
    rw[List.map_cons,List.sum_cons,List.length_cons,Nat.succ_mul];have h:(cond (f.any λy=>decide (y=((x:Nat):Int))) [] (dA n k (f++[((x:Nat):Int)]))).length<=5 ^ k:=by
     cases f.any λy=>decide (y=((x:Nat):Int));·exact zw n hn k _
     ·exact Nat.zero_le _
    omega
  refine Nat.le_trans (this (List.range n)) ?_;rw[List.length_range,Nat.pow_succ,Nat.mul_comm];exact Nat.mul_le_mul_left _ hn
set_option maxRecDepth 100000 in
def zx:((List.range 6).all λn=>(eL n).all (λo=>(dA n n []).contains o&&eD o n)&&(dA n n []).all (λo=>(eL n).contains o)&&(eL n).contains ((List.range n).map Int.ofNat))=true:=by decide +kernel
def rY{n:Nat}(hn:n<=5)(o:List Int):o∈eL n↔o∈dA n n []:=by have h:=List.all_eq_true.1 zx n (List.mem_range.2 (by omega));simp only[Bool.and_eq_true,List.all_eq_true]at h;obtain⟨⟨h1,h2⟩,h3⟩:=h;exact⟨λho=>List.contains_iff_mem.1 (h1 o ho).1,λho=>List.contains_iff_mem.1 (h2 o ho)⟩
def pn{n:Nat}(hn:n<=5){o:List Int}(ho:o∈eL n):eD o n=true:=by have h:=List.all_eq_true.1 zx n (List.mem_range.2 (by omega));simp only[Bool.and_eq_true,List.all_eq_true]at h;exact(h.1.1 o ho).2
def uQ{n:Nat}(hn:n<=5):(List.range n).map Int.ofNat∈eL n:=by have h:=List.all_eq_true.1 zx n (List.mem_range.2 (by omega));simp only[Bool.and_eq_true,List.all_eq_true]at h;exact List.contains_iff_mem.1 h.2
def OI:((List.range 6).all λn=>(List.range (n*n)).all λp=>decide (fb n (((List.range n).map Int.ofNat).map Int.toNat) p=p))=true:=by decide +kernel
def uR{m:Int×Int×List Int}(h:aY m=true)(hr:m.2.1=m.1):ci m ((List.range m.1.toNat).map Int.ofNat)=m:=by
 obtain⟨n,r,hn,hr',hn1,hn5,hnr,hr8,hl⟩:=aQ h;have e:r=n:=by omega
 subst e;have hb:=List.all_eq_true.1 OI r (List.mem_range.2 (by omega));rw[List.all_eq_true]at hb;have e1:m.1.toNat=r:=by omega
 unfold ci;rw[e1];refine congrArg (λz=>(m.1,m.2.1,z)) ?_;apply List.ext_getElem?;intro p;by_cases hp:p<m.2.2.length;·rw[List.getElem?_map,List.getElem?_range hp,Option.map_some];have:=of_decide_eq_true (hb p (List.mem_range.2 (by omega)));rw[this,List.getD_eq_getElem?_getD,List.getElem?_eq_getElem hp,Option.getD_some]
 ·rw[List.getElem?_eq_none (by simp;omega),List.getElem?_eq_none (Nat.le_of_not_lt hp)]
def OJ:∀{n:Nat},n<=5->∀o∈eL n,o.length=n:=λ{n} hn o ho=>by have:=pn hn ho;simp only[eD,Bool.and_eq_true,decide_eq_true_eq]at this;omega
def uS:∀a:List Int,bT a a=false
 |[]=>rfl
 |x::xs=>by rw[bT,if_pos rfl];exact uS xs
def po:∀{a b c:List Int},bT a b=true->bT b c=true->bT a c=true
 |[],[],_,h,_=>by cases h
 |[],_::_,[],_,h=>by cases h
 |[],_::_,_::_,_,_=>rfl
 |_::_,[],_,h,_=>by cases h
 |_::_,_::_,[],_,h=>by cases h
 |x::xs,y::ys,z::zs,h1,h2=>by
  rw[bT]at h1 h2 ⊢;by_cases e1:x=y
  ·subst e1;rw[if_pos rfl]at h1;by_cases e2:x=z;·rw[if_pos e2]at h2 ⊢;exact po h1 h2
   ·rw[if_neg e2]at h2 ⊢;exact h2
  ·rw[if_neg e1]at h1;have h1:=of_decide_eq_true h1;by_cases e2:y=z;·subst e2;rw[if_neg e1];exact decide_eq_true h1
   ·rw[if_neg e2]at h2;have h2:=of_decide_eq_true h2;rw[if_neg (by omega)];exact decide_eq_true (by omega)
def pr:∀{a b:List Int},bT a b=false->bT b a=false->a=b
 |[],[],_,_=>rfl
 |[],_::_,h,_=>by cases h
 |_::_,[],_,h=>by cases h
 |x::xs,y::ys,h1,h2=>by
  rw[bT]at h1 h2;by_cases e:x=y;·subst e;rw[if_pos rfl]at h1 h2;rw[pr h1 h2]
  ·rw[if_neg e]at h1;rw[if_neg (Ne.symm e)]at h2;have h1:=of_decide_eq_false h1;have h2:=of_decide_eq_false h2;omega
def cW(f:List Int->List Int)(b:List Int)(os:List (List Int)):List Int:=os.foldl (λb o=>if bT (f o) b=true then f o else b) b
def rZ(f:List Int->List Int):∀(os:List (List Int)) (b:List Int),cW f b os=b\/∃o∈os,cW f b os=f o
 |[],b=>.inl rfl
 |o::os,b=>by
  have e:cW f b (o::os)=cW f (if bT (f o) b=true then f o else b) os:=rfl;rw[e];rcases rZ f os (if bT (f o) b=true then f o else b)with h|⟨o',h1,h2⟩
  ·rw[h];split;·exact .inr ⟨o,List.mem_cons_self ..,rfl⟩
   ·exact .inl rfl
  ·exact .inr ⟨o',List.mem_cons_of_mem _ h1,h2⟩
def uT(f:List Int->List Int):∀(os:List (List Int)) (b:List Int),bT b (cW f b os)=false/\∀o∈os,bT (f o) (cW f b os)=false
 |[],b=>⟨uS b,λo ho=>by cases ho⟩
 |o::os,b=>by
  have e:cW f b (o::os)=cW f (if bT (f o) b=true then f o else b) os:=rfl;rw[e];obtain⟨h1,h2⟩:=uT f os (if bT (f o) b=true then f o else b);generalize cW f (if bT (f o) b=true then f o else b) os=r at h1 h2;have fin:bT b r=false/\bT (f o) r=false:=by
   by_cases h:bT (f o) b=true
   ·rw[if_pos h]at h1;refine⟨?_,h1⟩;cases hc:bT b r;·rfl
    ·rw[po h hc]at h1;cases h1
   ·rw[if_neg h]at h1;refine⟨h1, ?_⟩;cases hc:bT (f o) r;·rfl
    ·cases hd:bT b (f o);·have:=pr hd (by simpa using h);rw[this]at h1;rw[h1]at hc;cases hc
     ·rw[po hd hc]at h1;cases h1
  exact⟨fin.1,λo' ho'=>by
   rcases List.mem_cons.1 ho' with rfl|ho';·exact fin.2
   ·exact h2 o' ho'⟩
def OK{f:List Int->List Int}{os os':List (List Int)}{b b':List Int}(hm:∀o∈os,o∈os')(hm':∀o∈os',o∈os)(hb:∃o∈os,b=f o)(hb':∃o∈os',b'=f o):cW f b os=cW f b' os':=by
 have key:∀{os os':List (List Int)}{b b':List Int},(∀o∈os,o∈os')->(∃o∈os,b=f o)->bT (cW f b os) (cW f b' os')=false:=by
  intro os os' b b' hm hb;have hx:∃o∈os,cW f b os=f o:=by
   rcases rZ f os b with h|h;·rw[h];exact hb
   ·exact h
  obtain⟨o,ho,e⟩:=hx;rw[e];exact(uT f os' b').2 o (hm o ho)
 exact pr (key hm hb) (key hm' hb')
def b9(m:Int×Int×List Int)(o:List Int):List Int:=(ci m o).2.2
def cR(m:Int×Int×List Int):Int×Int×List Int:=(m.1,m.2.1,cW (b9 m) m.2.2 (dA m.1.toNat m.1.toNat []))
def zy(f:List Int->List Int):List (List Int)->List Int
 |[]=>[]
 |o::os=>cW f (f o) os
def nG(m:Int×Int×List Int):Int×Int×List Int:=(m.1,m.2.1,zy (b9 m) (eL m.1.toNat))
def Ey{m:Int×Int×List Int}(h:aY m=true)(hr:m.2.1=m.1):nG m=cR m:=by
 obtain⟨n,r,hn,hr',hn1,hn5,hnr,hr8,hl⟩:=aQ h;have e1:m.1.toNat=n:=by omega
 unfold nG cR;have hid:=uR h hr;rw[e1]at hid ⊢;refine congrArg (λz=>(m.1,m.2.1,z)) ?_;have hm:=rY hn5;have hi:=uQ hn5;have hi':b9 m ((List.range n).map Int.ofNat)=m.2.2:=by unfold b9;rw[hid]
 generalize dA n n []=S at hm;generalize hN:eL n=O at hm hi;cases O with
 |nil=>cases hi
 |cons o os =>
  rw[zy];have e:cW (b9 m) (b9 m o) os=cW (b9 m) (b9 m o) (o::os):=by show _=cW (b9 m) (if bT (b9 m o) (b9 m o)=true then b9 m o else b9 m o) os;rw[ite_self]
  rw[e];exact OK (λo' ho'=>(hm o').1 ho') (λo' ho'=>(hm o').2 ho') ⟨o,List.mem_cons_self ..,rfl⟩ ⟨_,(hm _).1 hi,hi'.symm⟩
def ON:((List.range 6).all λn=>decide ((eL n).length<=120))=true:=by decide +kernel
def Ez{n:Nat}(hn:n<=5):(eL n).length<=120:=of_decide_eq_true (List.all_eq_true.1 ON n (List.mem_range.2 (by omega)))
def d7(f:Bool)(a b c:Int):Int:=if f=true then -a else if 0<b/\0<c then a+b*c else if b<0/\c<0 then a-b*c else a
def kb(m:Int×Int×List Int)(k p:Nat):Int:=d7 (decide (p / m.1.toNat=k)||decide (p%m.1.toNat=k)) (m.2.2.getD p 0) (ae m (p / m.1.toNat) k) (ae m k (p%m.1.toNat))
def bB(m:Int×Int×List Int)(k:Nat):Int×Int×List Int:=(m.1,m.2.1,(List.range m.2.2.length).map (kb m k))
def EA{i j n:Nat}(h:j<n):(i*n+j) / n=i:=by rw[Nat.add_comm,Nat.add_mul_div_right _ _ (by omega),Nat.div_eq_of_lt h,Nat.zero_add]
def EB{i j n:Nat}(h:j<n):(i*n+j)%n=j:=by rw[Nat.add_comm,Nat.add_mul_mod_self_right,Nat.mod_eq_of_lt h]
def zz{m:Int×Int×List Int}{k i j:Nat}(hj:j<m.1.toNat):kb m k (i*m.1.toNat+j)=d7 (decide (i=k)||decide (j=k)) (ae m i j) (ae m i k) (ae m k j):=by unfold kb;rw[EA hj,EB hj];rfl
def kR{m:Int×Int×List Int}(hd:aY m=true){k i j:Nat}(hi:i<m.2.1.toNat)(hj:j<m.1.toNat):ae (bB m k) i j=d7 (decide (i=k)||decide (j=k)) (ae m i j) (ae m i k) (ae m k j):=by obtain⟨n,r,hn,hr,hn1,hn5,hnr,hr8,hl⟩:=aQ hd;rw[<-zz hj];show((List.range m.2.2.length).map (kb m k)).getD (i*m.1.toNat+j) 0=_;refine rP ?_ 0;have:=j9 (n:=n) (r:=r) (i:=i) (j:=j) (by omega) (by omega);rw[hl,hn];exact this
def EC{f:Bool}{a b c:Int}(ha:-99<=a/\a<=99)(hb:-99<=b/\b<=99)(hc:-99<=c/\c<=99):-9801<=b*c/\b*c<=9801:=by
 have h1:(b*c).natAbs<=99*99:=by rw[Int.natAbs_mul];exact Nat.mul_le_mul (by omega) (by omega)
 omega
def uU{m:Int×Int×List Int}(hd:aY m=true){k:Nat}(hk:k<m.1.toNat){d:Nat->Int}(h:cY m.1.toNat (ae m) d):cY (bB m k).1.toNat (ae (bB m k)) d:=by
 obtain⟨n,r,hn,hr,hn1,hn5,hnr,hr8,hl⟩:=aQ hd;show cY m.1.toNat _ d;intro i hi;refine⟨(h i hi).1,λj hj=>?_⟩;rw[kR hd (by omega) hj,kR hd (by omega) hi];have e1:=(h i hi).2 j hj;have e2:=(h i hi).2 k hk;have e3:=(h k hk).2 j hj;have p1:=(h i hi).1;have p2:=(h j hj).1;have p3:=(h k hk).1;have s1:=pg h hi hk;have s2:=pg h hk hj;simp only[dz,Bool.and_eq_true,beq_iff_eq,decide_eq_decide]at s1 s2;generalize ae m i j=a at *
 generalize ae m j i=a' at *
 generalize ae m i k=b at *
 generalize ae m k j=c at *
 generalize ae m j k=b' at *
 generalize ae m k i=c' at *
 rw[Bool.or_comm (decide (j=k))];cases(decide (i=k)||decide (j=k))
 ·unfold d7;simp only[Bool.false_eq_true,if_false];by_cases h1:0<b/\0<c;·rw[if_pos h1,if_neg (by omega),if_pos (by omega)];grind
  ·rw[if_neg h1];by_cases h2:b<0/\c<0;·rw[if_pos h2,if_pos (by omega)];grind
   ·rw[if_neg h2,if_neg (by omega),if_neg (by omega)];exact e1
 ·unfold d7;simp only[if_true];grind
def ED{α:Type}{n p:Nat}{F G:Nat->α}(h:F p=G p):gk n (p+1) F G=gk n p F G:=by
 unfold gk;apply List.map_congr_left;intro i hi;by_cases h1:i<p;·rw[if_pos h1,if_pos (by omega)]
 ·rw[if_neg h1];by_cases h2:i=p;·subst h2;rw[if_pos (by omega)];exact h
  ·rw[if_neg (by omega)]
end Go.Fw
set_option linter.defProp false
set_option linter.unusedSimpArgs false
set_option maxRecDepth 100000
namespace Go.Fw
section
variable {J : Type}
namespace aR
def P(m:Int×Int×List Int)(i j:Int):Bool:=o9 m i j
def g(m:Int×Int×List Int)(i j:Int):Int:=pc m i j
def Z0{J:Type}(N:Nat)(a:MT)(b c:Int)(kr:Int->Option J):Option J :=
 cond (lk N (ax (ah ((ah (b*a.1))+c)) a.2.2.length)) (
  kr (a.2.2.getD (ah ((ah (b*a.1))+c)).toNat 0)) none
def Spec:Prop:=∀ (v0:MT) (v1 v2:Int),Ty.bd (.pair (.int .i64) (.pair (.int .i64) (.sl 0 (.int .i64)))) v0->P v0 v1 v2=true->∃N0,∀N,N0<=N->Z0 N v0 v1 v2 (λv6=>some ((),(v6,())))=some ((),((g v0 v1 v2),()))
def ok:Spec:=λm i j hb hp=>⟨0,λN hN=>by obtain⟨h1,h2,h3⟩:=Ed hb.2.2.1 hp;simp only[Z0,g,pc,h1];rw[ct (DS h2 h3)]⟩
end aR
namespace dv
def g(l:List Int)(n:Int):Bool:=l.any λx=>decide (x=n)
def Z1{J:Type}(N:Nat)(a:LI)(b:Int)(kn:LI->Int->Option J):Option J :=
 kn a b
def Z4{J:Type}(N:Nat)(a:LI)(b:Int)(kn:LI->I2 (Option J)):Option J :=
 kn a b 0
def Z7{J:Type}(N:Nat)(a:LI)(c b:Int)(kn:LI->I2 (Option J))(k0:Option J)(kr:Bool->Option J):Option J :=
 cond (lk N (decide (b<(a.length:Int))))
 (
  cond (lk N (ax b a.length)) (
   cond (lk N (decide ((a.getD b.toNat 0)=c)))
   (
    kr true)
   (
    kn a c (ah (b+1)))) none)
 (
  k0)
def Z6L{J:Type}(N:Nat)(k0:Option J)(kr:Bool->Option J):Nat->LI->Int->Int->Option J
 |0,_,_,_=>none
 |M+1,a,b,c=>Z7 N a b c (λa b c=>Z6L N k0 kr M a b c) k0 kr
def Z6 N a b c k0 kr:=(Z6L N k0 kr N a b c:Option J)
def Z5 N a b c kn kr:=(Z6 N a b c kn kr:Option J)
def Z3 N a b kn kr:=(Z4 N a b (λa b c=>Z5 N a b c kn kr):Option J)
def Z8{J:Type}(N:Nat) (kr:Bool->Option J):Option J :=
 kr false
def Z2 N a b kr:=(Z3 N a b (Z8 N kr) kr:Option J)
def Z0 N a b kr:=(Z1 N a b (λa b=>Z2 N a b kr):Option J)
def Spec:Prop:=∀ (v0:LI) (v1:Int),Ty.bd (.sl 0 (.int .i64)) v0->∃N0,∀N,N0<=N->Z0 N v0 v1 (λv4=>some ((),(v4,())))=some ((),((g v0 v1),()))
def loop{J:Type}(N:Nat)(kr:Bool->Option J)(n:Int)(a:List Int)(ha:a.length<=maxLen):∀(M j:Nat),j<=a.length->a.length-j<M ->
  Z6L N (kr false) kr M a n (j:Int)=kr (g (a.drop j) n):=by
 intro M;induction M with
 |zero=>intro j _ h;omega
 |succ M ih =>
  intro j hj hM;simp only[Z6L,Z7];by_cases h:j<a.length;·rw[ct (dt (by omega)),ct (aG h),Int.toNat_natCast,aN (by omega),ih (j+1) h (by omega),cK 0 h];simp only[g,List.any_cons,aL];cases decide (a.getD j 0=n)<;>rfl
  ·rw[cf (df (by omega)),List.drop_of_length_le (by omega)];rfl
def ok:Spec:=λa n ha=>⟨a.length+1,λN hN=>by simp only[Z1,Z4,Z7,Z6,Z5,Z3,Z8,Z2,Z0];exact(loop N (λt=>some ((),(t,()))) n a ha.1 N 0 (by omega) (by omega)).trans rfl⟩
def g_iff{l:List Int}{n:Int}:g l n=true↔n∈l:=by simp[g]
end dv
namespace cg
def P(m:Int×Int×List Int)(i:Int):Bool:=aY m&&(decide (0<=i)&&decide (i<m.1))
def g(m:Int×Int×List Int)(i:Int):List Int×List Int:=(ak (bf m i.toNat).1,ak (bf m i.toNat).2)
def Z1{J:Type}(N:Nat)(a:MT)(b:Int)(kn:I3 (LI->Option J)):Option J :=
 kn b a.1 a.2.1 a.2.2
def Z3{J:Type}(N:Nat)(a b c:Int)(d:LI)(kn:LI->I3 (LI->Option J)):Option J :=
 kn ([a]:List Int) a b c d
def Z5{J:Type}(N:Nat)(a:LI)(b c d:Int)(e:LI)(kn:LI->LI->I2 (LI->Option J)):Option J :=
 kn a ([b]:List Int) c d e
def Z8{J:Type}(N:Nat)(a b:LI)(c d:Int)(e:LI)(kn:LI->LI->I3 (LI->Option J)):Option J :=
 kn a b 0 c d e
def Z12{J:Type}(N:Nat)(a b:LI)(c d e:Int)(f:LI)(kn:LI->LI->I3 (LI->Option J))(k0:LI->LI->Option J):Option J :=
 cond (lk N (decide (c<(a.length:Int))))
 (
  kn a b c d e f)
 (
  k0 a b)
def Z16{J:Type}(N:Nat)(a b:LI)(c d e:Int)(f:LI)(kn:LI->LI->I4 (LI->Option J)):Option J :=
 kn a b c 0 d e f
def Z19{J:Type}(N:Nat)(a h:LI)(c b d e:Int)(f:LI)(kn:LI->LI->I4 (LI->Option J))(k2:LI->LI->I3 (LI->Option J)):Option J :=
 cond (lk N (decide (b<d)))
 (
  cond (lk N (ax c a.length)) (
   cond (lk N (aR.P (d,(e,f)) (a.getD c.toNat 0) b)) (
    cond (lk N (!(decide ((aR.g (d,(e,f)) (a.getD c.toNat 0) b)=0))))
    (
     cond (!(lk N ((dv.g a b))))
     (
      cond (lk N (Nat.blt (a.length+([b]:List Int).length) 1099511627776)) (
       cond (lk N (ax c (a++([b]:List Int)).length)) (
        cond (lk N (Nat.blt (h.length+([((a++([b]:List Int)).getD c.toNat 0)]:List Int).length) 1099511627776)) (
         kn (a++([b]:List Int)) (h++([((a++([b]:List Int)).getD c.toNat 0)]:List Int)) c (ah (b+1)) d e f) none) none) none)
     (
      kn a h c (ah (b+1)) d e f))
    (
     kn a h c (ah (b+1)) d e f)) none) none)
 (
  k2 a h c d e f)
def Z18L{J:Type}(N:Nat)(k2:LI->LI->I3 (LI->Option J)):Nat->LI->LI->Int->Int->Int->Int->LI->Option J
 |0,_,_,_,_,_,_,_=>none
 |M+1,a,b,c,d,e,f,g=>Z19 N a b c d e f g (λa b c d e f g=>Z18L N k2 M a b c d e f g) k2
def Z18 N a b c d e f g k2:=(Z18L N k2 N a b c d e f g:Option J)
def Z17 N a b c d e f g kn:=(Z18 N a b c d e f g kn:Option J)
def Z15 N a b c d e f kn:=(Z16 N a b c d e f (λa b c g d e f=>Z17 N a b c g d e f kn):Option J)
def Z14 N a b c d e f kn:=(Z15 N a b c d e f kn:Option J)
def Z20{J:Type}(N:Nat)(a b:LI)(c d e:Int)(f:LI)(kn:LI->LI->I3 (LI->Option J)):Option J :=
 kn a b (ah (c+1)) d e f
def Z13 N a b c d e f kn:=(Z14 N a b c d e f (λa b c d e f=>Z20 N a b c d e f kn):Option J)
def Z11 N a b c d e f kn k0:=(Z12 N a b c d e f (λa b c d e f=>Z13 N a b c d e f kn) k0:Option J)
def Z10L{J:Type}(N:Nat)(k0:LI->LI->Option J):Nat->LI->LI->Int->Int->Int->LI->Option J
 |0,_,_,_,_,_,_=>none
 |M+1,a,b,c,d,e,f=>Z11 N a b c d e f (λa b c d e f=>Z10L N k0 M a b c d e f) k0
def Z10 N a b c d e f k0:=(Z10L N k0 N a b c d e f:Option J)
def Z9 N a b c d e f kn:=(Z10 N a b c d e f kn:Option J)
def Z7 N a b c d e kn:=(Z8 N a b c d e (λa b f c d e=>Z9 N a b f c d e kn):Option J)
def Z21{J:Type}(N:Nat)(a b:LI)(kr:LI->LI->Option J):Option J :=
 kr a b
def Z6 N a b c d e kr:=(Z7 N a b c d e (λa b=>Z21 N a b kr):Option J)
def Z4 N a e b c d kr:=(Z5 N a e b c d (λa f b c d=>Z6 N a f b c d kr):Option J)
def Z2 N a b c d kr:=(Z3 N a b c d (λe a b c d=>Z4 N e a b c d kr):Option J)
def Z0 N b a kr:=(Z1 N b a (λa c d e=>Z2 N a c d e kr):Option J)
def Spec:Prop:=∀ (v0:MT) (v1:Int),Ty.bd (.pair (.int .i64) (.pair (.int .i64) (.sl 0 (.int .i64)))) v0->P v0 v1=true->∃N0,∀N,N0<=N->Z0 N v0 v1 (λv4 v5=>some ((),(v4,(v5,()))))=some ((),((g v0 v1).1,((g v0 v1).2,())))
def inner{J:Type}(N:Nat)(k2:List Int->List Int->Int->Int->Int->List Int->Option J)(m:Int×Int×List Int)(hd:aY m=true)(i p:Nat):∀(M j:Nat) (s:List Nat×List Nat),dN m.1.toNat (ae m) i s->p<s.1.length->j<=m.1.toNat->m.1.toNat-j<M ->
  Z18L N k2 M (ak s.1) (ak s.2) (p:Int) (j:Int) m.1 m.2.1 m.2.2 =
   k2 (ak (gV (ae m) (s.1.getD p 0) ((List.range m.1.toNat).drop j) s).1) (ak (gV (ae m) (s.1.getD p 0) ((List.range m.1.toNat).drop j) s).2) (p:Int) m.1 m.2.1 m.2.2:=by
 obtain⟨n,r,hn,hr,hn1,hn5,hnr,hr8,hl⟩:=aQ hd;intro M;induction M with
 |zero=>intro j s _ _ _ h;omega
 |succ M ih =>
  intro j s hs hp hj hM;have hle:=hs.le;have hlen:=hs.len;simp only[Z18L,Z19];by_cases h:j<m.1.toNat
  ·have hx:s.1.getD p 0<m.1.toNat:=hs.lt _ (aX 0 hp);have h1:Nat.blt ((ak s.1).length+([(j:Int)]).length) 1099511627776=true:=by simp[aU,Nat.blt_eq];omega
   have h2:Nat.blt ((ak s.2).length+([((ak (s.1++[j])).getD (p:Int).toNat 0)]).length) 1099511627776=true:=by simp[aU,Nat.blt_eq];omega
   rw[ct (dt (by omega)),ct (aG (by rw[aU];exact hp)),pf h,gV];simp only[Int.toNat_natCast,d6];rw[ct (show aR.P (m.1,(m.2.1,m.2.2)) _ _=true from fG hd (by omega) h),aN (by rw[aS];omega)];have hA:aR.g (m.1,(m.2.1,m.2.2)) ((s.1.getD p 0:Nat):Int) (j:Int)=ae m (s.1.getD p 0) j:=fF (by omega) _ _;by_cases ha:ae m (s.1.getD p 0) j=0;·rw[cf (nf (hA.trans ha)),if_neg (λhc=>hc.1 ha)];exact ih (j+1) s hs hp h (by omega)
   ·rw[ct (nt (λhc=>ha (hA.symm.trans hc)))];by_cases hm:j∈s.1;·rw[eY (by rw[aL,dv.g_iff.2 (uL.2 hm)];rfl),if_neg (λhc=>hc.2 hm)];exact ih (j+1) s hs hp h (by omega)
    ·have hf:dv.g (ak s.1) (j:Int)=false:=by
      cases hc:dv.g (ak s.1) (j:Int);·rfl
      ·exact absurd (uL.1 (dv.g_iff.1 hc)) hm
     rw[dZ (by rw[aL,hf];rfl),ct h1,rR,ct (aG (by rw[aU];simp;omega)),if_pos ⟨ha,hm⟩];have e:(s.1++[j]).getD p 0=s.1.getD p 0:=iy hp;rw[d6,e,rR];rw[d6,Int.toNat_natCast,e]at h2;rw[ct h2];have:=ih (j+1) (s.1++[j],s.2++[s.1.getD p 0]) (hs.step hp h ⟨ha,hm⟩) (by simp;omega) h (by omega);simp only[e]at this;exact this
  ·rw[cf (df (by omega)),List.drop_of_length_le (by simp;omega),gV]
def loop{J:Type}(N:Nat)(hN:10<=N)(k0:List Int->List Int->Option J)(m:Int×Int×List Int)(hd:aY m=true)(i:Nat):∀(M p:Nat) (s:List Nat×List Nat),dN m.1.toNat (ae m) i s->p<=m.1.toNat->m.1.toNat-p<M ->
  Z10L N k0 M (ak s.1) (ak s.2) (p:Int) m.1 m.2.1 m.2.2=k0 (ak (iW (ae m) m.1.toNat (m.1.toNat-p) p s).1) (ak (iW (ae m) m.1.toNat (m.1.toNat-p) p s).2):=by
 obtain⟨n,r,hn,hr,hn1,hn5,hnr,hr8,hl⟩:=aQ hd;intro M;induction M with
 |zero=>intro p s _ _ h;omega
 |succ M ih =>
  intro p s hs hp hM;have hle:=hs.le;simp only[Z10L,Z11,Z12];by_cases h:p<s.1.length;·rw[ct (dt (by rw[aU];omega))];simp only[Z13,Z14,Z15,Z16,Z17,Z18,Z20];have hin:=inner (J:=J) N (λa b c d e f=>Z10L N k0 M a b (ah (c+1)) d e f) m hd i p N 0 s hs h (by omega) (by omega);rw[show((0:Nat):Int)=0 from rfl]at hin;rw[hin,aN (by rw[aS];omega),List.drop_zero];obtain⟨h1,h2,h3⟩:=uM (p:=p) (List.range m.1.toNat) s hs h (λx hx=>List.mem_range.1 hx);rw[ih (p+1) _ h1 (by omega) (by omega),show m.1.toNat-p=(m.1.toNat-(p+1))+1 by omega,iW,if_pos h]
  ·rw[cf (df (by rw[aU];omega))];cases hc:m.1.toNat-p with
   |zero=>rfl
   |succ f=>rw[iW,if_neg h]
def ok:Spec:=λm i hb hp=>⟨10,λN hN=>by simp only[P,Bool.and_eq_true,decide_eq_true_eq]at hp;obtain⟨hd,h0,h1⟩:=hp;obtain⟨x,rfl⟩:=Int.eq_ofNat_of_zero_le h0;obtain⟨n,r,hn,hr,hn1,hn5,hnr,hr8,hl⟩:=aQ hd;simp only[Z0,Z1,Z2,Z3,Z4,Z5,Z6,Z7,Z8,Z9,Z10,Z21];have:=loop (J:=Unit×List Int×List Int×Unit) N hN (λa b=>some ((),(a,(b,())))) m hd x N 0 ([x],[x]) (dN.first (by omega)) (by omega) (by omega);exact this⟩
end cg
namespace dP
def g(n:Int):Int:=mx n (ah (0-n))
def Z0{J:Type}(N:Nat)(a:Int)(kr:Int->Option J):Option J :=
 kr (mx a (ah (0-a)))
def Spec:Prop:=∀ (v0:Int),∃N0,∀N,N0<=N->Z0 N v0 (λv2=>some ((),(v2,())))=some ((),((g v0),()))
def ok:Spec:=λn=>⟨0,λN hN=>by simp only[Z0,g]⟩
end dP
namespace fp
def P(a b:Int):Bool:=decide (0<=a)&&(decide (a<9223372036854775808)&&(decide (0<=b)&&decide (b<9223372036854775808)))
def g(a b:Int):Int:=(Int.gcd a b:Int)
def Z1{J:Type}(N:Nat)(a b:Int)(kn:I2 (Option J)):Option J :=
 kn a b
def Z5{J:Type}(N:Nat)(b a:Int)(kn:I2 (Option J))(k0:Int->Option J):Option J :=
 cond (lk N (!(decide (a=0))))
 (
  cond (lk N (!(decide (a=0)))) (
   kn a (Int.tmod b a)) none)
 (
  k0 b)
def Z4L{J:Type}(N:Nat)(k0:Int->Option J):Nat->Int->Int->Option J
 |0,_,_=>none
 |M+1,a,b=>Z5 N a b (λa b=>Z4L N k0 M a b) k0
def Z4 N a b k0:=(Z4L N k0 N a b:Option J)
def Z3 N a b kn:=(Z4 N a b kn:Option J)
def Z6{J:Type}(N:Nat)(a:Int)(kr:Int->Option J):Option J :=
 kr a
def Z2 N a b kr:=(Z3 N a b (λa=>Z6 N a kr):Option J)
def Z0 N a b kr:=(Z1 N a b (λa b=>Z2 N a b kr):Option J)
def Spec:Prop:=∀ (v0 v1:Int),P v0 v1=true->∃N0,∀N,N0<=N->Z0 N v0 v1 (λv4=>some ((),(v4,())))=some ((),((g v0 v1),()))
def loop{J:Type}(N:Nat)(k0:Int->Option J):∀(M:Nat) (a b:Nat),b<M->Z4L N k0 M (a:Int) (b:Int)=k0 (Nat.gcd b a:Nat):=by
 intro M;induction M with
 |zero=>intro a b h;omega
 |succ M ih =>
  intro a b hM;simp only[Z4L,Z5];by_cases h:b=0;·subst h;rw[cf (by simp),Nat.gcd_zero_left]
  ·rw[ct (nt (by omega)),ct (nt (by omega)),show Int.tmod (a:Int) (b:Int)=((a%b:Nat):Int)from rfl,ih _ _ (by have:=Nat.mod_lt a (Nat.pos_of_ne_zero h);omega),<-Nat.gcd_rec]
def ok:Spec:=λa b hp=>⟨b.toNat+1,λN hN=>by simp only[P,Bool.and_eq_true,decide_eq_true_eq]at hp;obtain⟨h1,h2,h3,h4⟩:=hp;obtain⟨x,rfl⟩:=Int.eq_ofNat_of_zero_le h1;obtain⟨y,rfl⟩:=Int.eq_ofNat_of_zero_le h3;simp only[Z1,Z5,Z4,Z3,Z6,Z2,Z0,g];rw[loop N _ N x y (by omega),Nat.gcd_comm];rfl⟩
end fp
namespace aV
def P(m:Int×Int×List Int):Bool:=aT m
def g(m:Int×Int×List Int):List Int×Bool:=(bj m,!decide (bj m=[]))
def Z1{J:Type}(N:Nat)(a:MT)(kn:I2 (LI->Option J)):Option J :=
 kn a.1 a.2.1 a.2.2
def Z3{J:Type}(N:Nat)(a b:Int)(c:LI)(kn:LI->I2 (LI->Option J)):Option J :=
 cond (lk N (bF 0 a&&decide (a<1099511627776))) (
  kn (List.replicate a.toNat (0:Int)) a b c) none
def Z6{J:Type}(N:Nat)(a:LI)(b c:Int)(d:LI)(kn:LI->I3 (LI->Option J)):Option J :=
 kn a 0 b c d
def Z10{J:Type}(N:Nat)(b:LI)(c a d:Int)(e:LI)(kn:LI->I3 (LI->Option J))(k0:LI->I2 (LI->Option J)):Option J :=
 cond (lk N (decide (c<a)))
 (
  kn b c a d e)
 (
  k0 b a d e)
def Z14{J:Type}(N:Nat)(a:LI)(b c d:Int)(e:LI)(kn k1:LI->I3 (LI->Option J)):Option J :=
 cond (lk N (ax b a.length)) (
  cond (lk N (decide (0<(a.getD b.toNat 0))))
  (
   k1 a b c d e)
  (
   kn a b c d e)) none
def Z16{J:Type}(N:Nat)(e:LI)(a b c:Int)(d:LI)(kn:LI->LI->LI->I3 (LI->Option J)):Option J :=
 cond (lk N (cg.P (b,(c,d)) a)) (
  kn e (cg.g (b,(c,d)) a).1 (cg.g (b,(c,d)) a).2 a b c d) none
def Z18{J:Type}(N:Nat)(b c d:LI)(a e f:Int)(g:LI)(kn:LI->LI->LI->I3 (LI->Option J)):Option J :=
 cond (lk N (ax a b.length)) (
  kn (b.set a.toNat 1) c d a e f g) none
def Z21{J:Type}(N:Nat)(a b c:LI)(d e f:Int)(g:LI)(kn:LI->LI->LI->I4 (LI->Option J)):Option J :=
 kn a b c d 1 e f g
def Z24{J:Type}(N:Nat)(d b e:LI)(c a f h:Int)(i:LI)(kn:LI->LI->LI->I4 (LI->Option J))(k2:LI->LI->LI->I3 (LI->Option J)):Option J :=
 cond (lk N (decide (a<(b.length:Int))))
 (
  cond (lk N (ax c d.length)) (
   cond (lk N (ax a b.length)) (
    cond (lk N (ax a e.length)) (
     cond (lk N (aR.P (f,(h,i)) (b.getD a.toNat 0) (e.getD a.toNat 0))) (
      cond (lk N (ax c d.length)) (
       kn (d.set c.toNat (ah ((d.getD c.toNat 0)*(dP.g (aR.g (f,(h,i)) (b.getD a.toNat 0) (e.getD a.toNat 0)))))) b e c (ah (a+1)) f h i) none) none) none) none) none)
 (
  k2 d b e c f h i)
def Z23L{J:Type}(N:Nat)(k2:LI->LI->LI->I3 (LI->Option J)):Nat->LI->LI->LI->Int->Int->Int->Int->LI->Option J
 |0,_,_,_,_,_,_,_,_=>none
 |M+1,a,b,c,d,e,f,g,h=>Z24 N a b c d e f g h (λa b c d e f g h=>Z23L N k2 M a b c d e f g h) k2
def Z23 N a b c d e f g h k2:=(Z23L N k2 N a b c d e f g h:Option J)
def Z22 N a b c d e f g h kn:=(Z23 N a b c d e f g h kn:Option J)
def Z20 N a b c d e f g kn:=(Z21 N a b c d e f g (λa b c d h e f g=>Z22 N a b c d h e f g kn):Option J)
def Z26{J:Type}(N:Nat)(a c d:LI)(b e f:Int)(g:LI)(kn:LI->LI->LI->I4 (LI->Option J)):Option J :=
 cond (lk N (ax b a.length)) (
  kn a c d b (a.getD b.toNat 0) e f g) none
def Z29{J:Type}(N:Nat)(a b c:LI)(d e f g:Int)(h:LI)(kn:LI->LI->LI->I5 (LI->Option J)):Option J :=
 kn a b c d e 1 f g h
def Z32{J:Type}(N:Nat)(h b c:LI)(j i a d e:Int)(f:LI)(kn:LI->LI->LI->I5 (LI->Option J))(k4:LI->LI->I4 (LI->Option J)):Option J :=
 let x1_:=(dP.g (aR.g (d,(e,f)) (b.getD a.toNat 0) (c.getD a.toNat 0)));let x2_:=(lk N (ax a b.length));let x0_:=(h.set (b.getD a.toNat 0).toNat (ah (Int.tdiv (ah ((h.getD (c.getD a.toNat 0).toNat 0)*(dP.g (aR.g (d,(e,f)) (c.getD a.toNat 0) (b.getD a.toNat 0))))) x1_)));cond (lk N (decide (a<(b.length:Int))))
 (
 cond x2_ (
 cond (lk N (ax a c.length)) (
 cond (lk N (ax (c.getD a.toNat 0) h.length)) (
 cond (lk N (ax a c.length)) (
 cond x2_ (
 cond x2_ (
 cond (lk N (ax a c.length)) (
 cond (lk N (aR.P (d,(e,f)) (c.getD a.toNat 0) (b.getD a.toNat 0))) (
 cond (lk N (aR.P (d,(e,f)) (b.getD a.toNat 0) (c.getD a.toNat 0))) (
 cond (lk N (!(decide (x1_=0)))) (
 cond (lk N (ax (b.getD a.toNat 0) h.length)) (
 cond x2_ (
 cond (lk N (ax (b.getD a.toNat 0) x0_.length)) (
 cond (lk N (fp.P i (x0_.getD (b.getD a.toNat 0).toNat 0))) (
 kn x0_ b c j (fp.g i (x0_.getD (b.getD a.toNat 0).toNat 0)) (ah (a+1)) d e f) none) none) none) none) none) none) none) none) none) none) none) none) none) none)
 (
 k4 h b j i d e f)
def Z31L{J:Type}(N:Nat)(k4:LI->LI->I4 (LI->Option J)):Nat->LI->LI->LI->Int->Int->Int->Int->Int->LI->Option J
 |0,_,_,_,_,_,_,_,_,_=>none
 |M+1,a,b,c,d,e,f,g,h,i=>Z32 N a b c d e f g h i (λa b c d e f g h i=>Z31L N k4 M a b c d e f g h i) k4
def Z31 N a b c d e f g h i k4:=(Z31L N k4 N a b c d e f g h i:Option J)
def Z30 N a b c d e f g h i kn:=(Z31 N a b c d e f g h i kn:Option J)
def Z28 N a b c d e f g h kn:=(Z29 N a b c d e f g h (λa b c d e i f g h=>Z30 N a b c d e i f g h kn):Option J)
def Z34{J:Type}(N:Nat)(a b:LI)(c d e f:Int)(g:LI)(kn:LI->LI->I5 (LI->Option J)):Option J :=
 kn a b c d 0 e f g
def Z37{J:Type}(N:Nat)(c a:LI)(e d b f g:Int)(h:LI)(kn:LI->LI->I5 (LI->Option J))(k6:LI->I3 (LI->Option J)):Option J :=
 cond (lk N (decide (b<(a.length:Int))))
 (
  cond (lk N (ax b a.length)) (
   cond (lk N (ax b a.length)) (
    cond (lk N (ax (a.getD b.toNat 0) c.length)) (
     cond (lk N (!(decide (d=0)))) (
      cond (lk N (ax (a.getD b.toNat 0) c.length)) (
       kn (c.set (a.getD b.toNat 0).toNat (ah (Int.tdiv (c.getD (a.getD b.toNat 0).toNat 0) d))) a e d (ah (b+1)) f g h) none) none) none) none) none)
 (
  k6 c e f g h)
def Z36L{J:Type}(N:Nat)(k6:LI->I3 (LI->Option J)):Nat->LI->LI->Int->Int->Int->Int->Int->LI->Option J
 |0,_,_,_,_,_,_,_,_=>none
 |M+1,a,b,c,d,e,f,g,h=>Z37 N a b c d e f g h (λa b c d e f g h=>Z36L N k6 M a b c d e f g h) k6
def Z36 N a b c d e f g h k6:=(Z36L N k6 N a b c d e f g h:Option J)
def Z35 N a b c d e f g h kn:=(Z36 N a b c d e f g h kn:Option J)
def Z33 N a b c d e f g kn:=(Z34 N a b c d e f g (λa b c d h e f g=>Z35 N a b c d h e f g kn):Option J)
def Z27 N a b h c d e f g kn:=(Z28 N a b h c d e f g (λa b c d e f g=>Z33 N a b c d e f g kn):Option J)
def Z25 N a b c d e f g kn:=(Z26 N a b c d e f g (λa b c d h e f g=>Z27 N a b c d h e f g kn):Option J)
def Z19 N a b c d e f g kn:=(Z20 N a b c d e f g (λa b c d e f g=>Z25 N a b c d e f g kn):Option J)
def Z17 N a b c d e f g kn:=(Z18 N a b c d e f g (λa b c d e f g=>Z19 N a b c d e f g kn):Option J)
def Z15 N a b c d e kn:=(Z16 N a b c d e (λa f g b c d e=>Z17 N a f g b c d e kn):Option J)
def Z13 N a b c d e kn k1:=(Z14 N a b c d e (λa b c d e=>Z15 N a b c d e kn) k1:Option J)
def Z12 N a b c d e kn:=(Z13 N a b c d e kn kn:Option J)
def Z38{J:Type}(N:Nat)(a:LI)(b c d:Int)(e:LI)(kn:LI->I3 (LI->Option J)):Option J :=
 kn a (ah (b+1)) c d e
def Z11 N a b c d e kn:=(Z12 N a b c d e (λa b c d e=>Z38 N a b c d e kn):Option J)
def Z9 N a b c d e kn k0:=(Z10 N a b c d e (λa b c d e=>Z11 N a b c d e kn) k0:Option J)
def Z8L{J:Type}(N:Nat)(k0:LI->I2 (LI->Option J)):Nat->LI->Int->Int->Int->LI->Option J
 |0,_,_,_,_,_=>none
 |M+1,a,b,c,d,e=>Z9 N a b c d e (λa b c d e=>Z8L N k0 M a b c d e) k0
def Z8 N a b c d e k0:=(Z8L N k0 N a b c d e:Option J)
def Z7 N a b c d e kn:=(Z8 N a b c d e kn:Option J)
def Z5 N a b c d kn:=(Z6 N a b c d (λa e b c d=>Z7 N a e b c d kn):Option J)
def Z41{J:Type}(N:Nat)(a:LI)(b c:Int)(d:LI)(kn:LI->I3 (LI->Option J)):Option J :=
 kn a 0 b c d
def Z45{J:Type}(N:Nat)(a:LI)(b c d:Int)(e:LI)(kn:LI->I3 (LI->Option J))(k8:LI->Option J):Option J :=
 cond (lk N (decide (b<c)))
 (
  kn a b c d e)
 (
  k8 a)
def Z49{J:Type}(N:Nat)(a:LI)(b c d:Int)(e:LI)(kn:LI->I4 (LI->Option J)):Option J :=
 kn a b 0 c d e
def Z52{J:Type}(N:Nat)(d:LI)(a b c e:Int)(f:LI)(kn:LI->I4 (LI->Option J))(k10:LI->I3 (LI->Option J))(kr:LI->Bool->Option J):Option J :=
 cond (lk N (decide (b<c)))
 (
  cond (lk N (ax a d.length)) (
   cond (lk N (ax b d.length)) (
    cond (lk N (aR.P (c,(e,f)) a b)) (
     cond (lk N (aR.P (c,(e,f)) b a)) (
      cond (lk N (!(decide ((ah ((d.getD a.toNat 0)*(aR.g (c,(e,f)) a b)))=(ah (0-(ah ((d.getD b.toNat 0)*(aR.g (c,(e,f)) b a)))))))))
      (
       kr ([]:List Int) false)
      (
       kn d a (ah (b+1)) c e f)) none) none) none) none)
 (
  k10 d a c e f)
def Z51L{J:Type}(N:Nat)(k10:LI->I3 (LI->Option J))(kr:LI->Bool->Option J):Nat->LI->Int->Int->Int->Int->LI->Option J
 |0,_,_,_,_,_,_=>none
 |M+1,a,b,c,d,e,f=>Z52 N a b c d e f (λa b c d e f=>Z51L N k10 kr M a b c d e f) k10 kr
def Z51 N a b c d e f k10 kr:=(Z51L N k10 kr N a b c d e f:Option J)
def Z50 N a b c d e f kn kr:=(Z51 N a b c d e f kn kr:Option J)
def Z48 N a b c d e kn kr:=(Z49 N a b c d e (λa b f c d e=>Z50 N a b f c d e kn kr):Option J)
def Z47 N a b c d e kn kr:=(Z48 N a b c d e kn kr:Option J)
def Z53{J:Type}(N:Nat)(a:LI)(b c d:Int)(e:LI)(kn:LI->I3 (LI->Option J)):Option J :=
 kn a (ah (b+1)) c d e
def Z46 N a b c d e kn kr:=(Z47 N a b c d e (λa b c d e=>Z53 N a b c d e kn) kr:Option J)
def Z44 N a b c d e kn k8 kr:=(Z45 N a b c d e (λa b c d e=>Z46 N a b c d e kn kr) k8:Option J)
def Z43L{J:Type}(N:Nat)(k8:LI->Option J)(kr:LI->Bool->Option J):Nat->LI->Int->Int->Int->LI->Option J
 |0,_,_,_,_,_=>none
 |M+1,a,b,c,d,e=>Z44 N a b c d e (λa b c d e=>Z43L N k8 kr M a b c d e) k8 kr
def Z43 N a b c d e k8 kr:=(Z43L N k8 kr N a b c d e:Option J)
def Z42 N a b c d e kn kr:=(Z43 N a b c d e kn kr:Option J)
def Z40 N a b c d kn kr:=(Z41 N a b c d (λa e b c d=>Z42 N a e b c d kn kr):Option J)
def Z54{J:Type}(N:Nat)(a:LI)(kr:LI->Bool->Option J):Option J :=
 kr a true
def Z39 N a b c d kr:=(Z40 N a b c d (λa=>Z54 N a kr) kr:Option J)
def Z4 N a b c d kr:=(Z5 N a b c d (λa b c d=>Z39 N a b c d kr):Option J)
def Z2 N a b c kr:=(Z3 N a b c (λd a b c=>Z4 N d a b c kr):Option J)
def Z0 N a kr:=(Z1 N a (λb c d=>Z2 N b c d kr):Option J)
def Spec:Prop:=∀ (v0:MT),Ty.bd (.pair (.int .i64) (.pair (.int .i64) (.sl 0 (.int .i64)))) v0->P v0=true->∃N0,∀N,N0<=N->Z0 N v0 (λv2 v3=>some ((),(v2,(v3,()))))=some ((),((g v0).1,((g v0).2,())))
def abs_eq{a:Int}(h:-99<=a/\a<=99):dP.g a=aI a:=by unfold dP.g;rw[bh (by omega) (by omega),o5];unfold aI;omega
section
variable {J : Type} {N : Nat} {m : Int × Int × List Int} {s : List Nat × List Nat} {i : Nat}
def at_g(hd:0<=m.1)(a b:Nat):aR.g (m.1,(m.2.1,m.2.2)) (a:Int) (b:Int)=ae m a b:=fF hd a b
def at_p(hd:aY m=true){a b:Nat}(ha:a<m.1.toNat)(hb:b<m.1.toNat):aR.P (m.1,(m.2.1,m.2.2)) (a:Int) (b:Int)=true:=by obtain⟨n,r,hn,hr,hn1,hn5,hnr,hr8,hl⟩:=aQ hd;exact fG hd (by omega) hb
def loop1(hs:aT m=true)(h:dN m.1.toNat (ae m) i s)(hi:i<m.1.toNat)(k2:List Int->List Int->List Int->Int->Int->Int->List Int->Option J)(d0:List Int)(hd0:d0.length=m.1.toNat):∀(M k:Nat),1<=k->k<=s.1.length->s.1.length-k<M ->
  Z23L N k2 M (d0.set i (dJ (qK m s) k)) (ak s.1) (ak s.2) (i:Int) (k:Int) m.1 m.2.1 m.2.2=k2 (d0.set i (dJ (qK m s) s.1.length)) (ak s.1) (ak s.2) (i:Int) m.1 m.2.1 m.2.2:=by
 have hdim:=cn (cV hs);obtain⟨n,r,hn,hr,hn1,hn5,hnr,hr8,hl⟩:=aQ hdim;have hle:=h.le;intro M;induction M with
 |zero=>intro k _ _ hM;omega
 |succ M ih =>
  intro k h1 hk hM;simp only[Z23L,Z24];by_cases hlt:k<s.1.length
  ·have hb:=rS (rV hs h) (k+1) (by omega);have hp9:=rT (k:=k+1) (by omega);have e:qK m s k=dP.g (ae m (s.1.getD k 0) (s.2.getD k 0)):=by rw[abs_eq (eZ (cV hs) _ _),qK,if_neg (by omega)]
   rw[ct (dt (by rw[aU];omega)),ct (aG (by rw[List.length_set];omega)),ct (aG (by rw[aU];omega)),ct (aG (by rw[aU,h.len];omega))];simp only[Int.toNat_natCast,d6];rw[ct (at_p hdim (h.lt _ (aX 0 hlt)) (rU h h1 hlt)),ct (aG (by rw[List.length_set];omega)),List.set_set,cL (by omega),if_pos rfl,at_g (by omega),<-e,
    show dJ (qK m s) k*qK m s k=dJ (qK m s) (k+1)from rfl,bh (by omega) (by omega),aN (by rw[aS];omega)]
   exact ih (k+1) (by omega) (by omega) (by omega)
  ·rw[cf (df (by rw[aU];omega)),show k=s.1.length by omega]
def loop2(hs:aT m=true)(h:dN m.1.toNat (ae m) i s)(k4:List Int->List Int->Int->Int->Int->Int->List Int->Option J)(d0:List Int):∀(M k:Nat) (d:List Int) (g:Int),1<=k->k<=s.1.length->s.1.length-k<M->T2 m s d0 k d g ->
  ∃d' g',T2 m s d0 s.1.length d' g'/\Z31L N k4 M d (ak s.1) (ak s.2) (i:Int) g (k:Int) m.1 m.2.1 m.2.2=k4 d' (ak s.1) (i:Int) g' m.1 m.2.1 m.2.2:=by
 have hdim:=cn (cV hs);obtain⟨n,r,hn,hr,hn1,hn5,hnr,hr8,hl⟩:=aQ hdim;have hle:=h.le;intro M;induction M with
 |zero=>intro k _ _ _ _ hM;omega
 |succ M ih =>
  intro k d g h1 hk hM ht;simp only[Z31L,Z32];by_cases hlt:k<s.1.length
  ·obtain⟨⟨a1,a2⟩,⟨b1,b2⟩,hst⟩:=ht.step hs h (by omega) h1 hlt;obtain⟨⟨hq,_⟩,hp,_⟩:=uO hs h h1 hlt;have hg:=ht.g_range h1;have hx:=h.lt _ (aX 0 hlt);have hf:=rU h h1 hlt;have e1:dP.g (ae m (s.1.getD k 0) (s.2.getD k 0))=qK m s k:=by rw[abs_eq (eZ (cV hs) _ _),qK,if_neg (by omega)]
   have e2:dP.g (ae m (s.2.getD k 0) (s.1.getD k 0))=pK m s k:=by rw[abs_eq (eZ (cV hs) _ _),pK]
   have c1:ax (k:Int) (ak s.1).length=true:=aG (by rw[aU];omega);have c2:ax (k:Int) (ak s.2).length=true:=aG (by rw[aU,h.len];omega);rw[ct (dt (by rw[aU];omega)),ct c1,ct c2];simp only[Int.toNat_natCast,d6];rw[ct (aG (by rw[ht.len];exact hf)),ct c2,ct c1,ct c1,ct c2,ct (at_p hdim hf hx),ct (at_p hdim hx hf)];simp only[at_g (show 0<=m.1 by omega),e1,e2];rw[ct (nt (by omega)),ct (aG (by rw[ht.len];exact hx)),ct c1];simp only[bh (show -9223372036854775808<=d.getD (s.2.getD k 0) 0*pK m s k by omega) (by omega)];simp only[bh (show -9223372036854775808<=Int.tdiv (d.getD (s.2.getD k 0) 0*pK m s k) (qK m s k) by omega) (by omega)];rw[ct (aG (by rw[List.length_set,ht.len];exact hx)),cL (by rw[ht.len];exact hx),if_pos rfl];rw[ct (show fp.P g _=true by simp only[fp.P,Bool.and_eq_true,decide_eq_true_eq];exact⟨by omega,by omega,by omega,by omega⟩),aN (by rw[aS];omega)];exact ih (k+1) _ _ (by omega) (by omega) (by omega) hst
  ·have e:k=s.1.length:=by omega
   subst e;exact⟨d,g,ht,by rw[cf (df (by rw[aU];omega))]⟩
def loop3(hs:aT m=true)(h:dN m.1.toNat (ae m) i s)(k6:List Int->Int->Int->Int->List Int->Option J)(d0 d2:List Int)(g:Int)(h2:T2 m s d0 s.1.length d2 g):∀(M k:Nat) (d:List Int),k<=s.1.length->s.1.length-k<M->T3 m s d2 g k d ->
  ∃d',T3 m s d2 g s.1.length d'/\Z36L N k6 M d (ak s.1) (i:Int) g (k:Int) m.1 m.2.1 m.2.2=k6 d' (i:Int) m.1 m.2.1 m.2.2:=by
 have hle:=h.le;have hdim:=cn (cV hs);obtain⟨n,r,hn,hr,hn1,hn5,hnr,hr8,hl⟩:=aQ hdim;have hg:=h2.g_range h.pos;intro M;induction M with
 |zero=>intro k _ _ hM;omega
 |succ M ih =>
  intro k d hk hM ht;simp only[Z36L,Z37];by_cases hlt:k<s.1.length
  ·have hx:=h.lt _ (aX 0 hlt);have c1:ax (k:Int) (ak s.1).length=true:=aG (by rw[aU];omega);have hv:=h2.val k hlt;have hp8:=rT (k:=4+k) (by omega);have hdv:0<=Int.tdiv (d2.getD (s.1.getD k 0) 0) g/\Int.tdiv (d2.getD (s.1.getD k 0) 0) g<=9227446944279201:=by rw[Int.tdiv_eq_ediv_of_nonneg (by omega)];refine⟨Int.ediv_nonneg (by omega) (by omega), ?_⟩;have:=Int.ediv_le_self (a:=d2.getD (s.1.getD k 0) 0) g (by omega);omega
   rw[ct (dt (by rw[aU];omega)),ct c1,ct c1];simp only[Int.toNat_natCast,d6];rw[ct (aG (by rw[ht.len];exact hx)),ct (nt (by omega)),ct (aG (by rw[ht.len];exact hx)),ht.cur h.nd h.lt hlt,bh (by omega) (by omega),aN (by rw[aS];omega)];exact ih (k+1) _ (by omega) (by omega) (ht.step h.nd h.lt hlt)
  ·have e:k=s.1.length:=by omega
   subst e;exact⟨d,ht,by rw[cf (df (by rw[aU];omega))]⟩
def outer(hN:10<=N)(hs:aT m=true)(k0:List Int->Int->Int->List Int->Option J):∀(M i:Nat) (d:List Int),i<=m.1.toNat->m.1.toNat-i<M->d.length=m.1.toNat->ka m.1.toNat (ae m) (λx=>d.getD x 0)->(∀x,x<i->0<d.getD x 0) ->
  ∃d',(d'.length=m.1.toNat/\ka m.1.toNat (ae m) (λx=>d'.getD x 0)/\∀x,x<m.1.toNat->0<d'.getD x 0)/\Z8L N k0 M d (i:Int) m.1 m.2.1 m.2.2=k0 d' m.1 m.2.1 m.2.2:=by
 have hdim:=cn (cV hs);obtain⟨n,r,hn,hr,hn1,hn5,hnr,hr8,hl⟩:=aQ hdim;intro M;induction M with
 |zero=>intro i _ _ hM;omega
 |succ M ih =>
  intro i d hi hM hdl hpt hpos;simp only[Z8L,Z9,Z10];by_cases hlt:i<m.1.toNat
  ·rw[ct (dt (by omega))];simp only[Z11,Z12,Z13,Z14];rw[ct (aG (by omega)),Int.toNat_natCast];by_cases hd:0<d.getD i 0
   ·rw[ct (dt hd)];simp only[Z38];rw[aN (by rw[aS];omega)];exact ih (i+1) d hlt (by omega) hdl hpt (λx hx=>by
     by_cases e:x=i;·subst e;exact hd
     ·exact hpos x (by omega))
   ·rw[cf (df hd)];obtain⟨h,hcl⟩:=pi hlt;simp only[Z15,Z16];rw[ct (show cg.P (m.1,(m.2.1,m.2.2)) (i:Int)=true by simp only[cg.P,Bool.and_eq_true,decide_eq_true_eq];exact⟨hdim,by omega,by omega⟩)];simp only[Z17,Z18];rw[ct (aG (by omega)),Int.toNat_natCast];have eP:cg.g (m.1,(m.2.1,m.2.2)) (i:Int)=(ak (bf m i).1,ak (bf m i).2):=rfl;rw[eP];generalize bf m i=s at h hcl;have hle:=h.le;simp only[Z19,Z20,Z21,Z22,Z23];have l1:=loop1 (J:=J) (N:=N) hs h hlt (λa b c d e f g=>Z25 N a b c d e f g (λa b c d e=>Z38 N a b c d e (λa b c d e=>Z8L N k0 M a b c d e))) d hdl N 1 (by omega) h.pos (by omega);rw[show dJ (qK m s) 1=1 by simp[dJ,qK]]at l1;rw[show(((1:Nat):Int))=1 from rfl]at l1;rw[l1];simp only[Z25,Z26];have hset:∀v,(d.set i v).length=m.1.toNat:=λv=>by rw[List.length_set];exact hdl
    rw[ct (aG (by rw[hset];exact hlt)),Int.toNat_natCast,cL (by omega),if_pos rfl];simp only[Z27,Z28,Z29,Z30,Z31];have hH:=rS (rV hs h) s.1.length (by omega);have hHp:(99:Int) ^ s.1.length<=99 ^ (4+0)\/s.1.length=5:=by
     by_cases e:s.1.length=5;·exact Or.inr e
     ·left;have:99 ^ s.1.length<=99 ^ (4+0):=Nat.pow_le_pow_right (by omega) (by omega);exact_mod_cast this
    have hH4:dJ (qK m s) s.1.length<=99 ^ (4+0):=by
     rcases hHp with hc|hc;·omega
     ·rw[hc];have q1:dJ (qK m s) 1=1:=by simp[dJ,qK]
      have b:∀k,1<=k->k<=s.1.length->dJ (qK m s) k<=99 ^ (k-1):=by
       intro k;induction k with
       |zero=>intro h _;omega
       |succ k ihk =>
        intro _ hk;by_cases e:k=0;·subst e;rw[q1];decide
        ·have c1:=ihk (by omega) (by omega);have c2:=rV hs h k (by omega);have c3:=rS (rV hs h) k (by omega);have:dJ (qK m s) k*qK m s k<=99 ^ (k-1)*99:=Int.mul_le_mul c1 c2.2 (by omega) (Int.pow_nonneg (by omega));rw[<-Int.pow_succ,show(k-1).succ=k by omega]at this;exact this
      exact b 5 (by omega) (by omega)
    have t0:T2 m s d 1 (d.set i (dJ (qK m s) s.1.length)) (dJ (qK m s) s.1.length):=by
     refine⟨hset _, ?_, ?_,λk h1 h2=>by omega, ?_⟩;·intro x hx hall;rw[cL (by omega),if_neg (λe=>hall 0 (by omega) (by rw[h.hd];exact e.symm))]
     ·intro k hk;have e:k=0:=by omega
      subst e;rw[h.hd,cL (by omega),if_pos rfl];refine⟨hH.1,hH4,⟨dJ (qK m s) 1,rfl⟩⟩
     ·show _=((cu [(d.set i (dJ (qK m s) s.1.length)).getD (s.1.getD 0 0) 0]:Nat):Int);rw[h.hd,cL (by omega),if_pos rfl,cu,cu,Nat.gcd_zero_right];omega
    obtain⟨d2,g2,ht2,l2⟩:=loop2 (J:=J) (N:=N) hs h (λa b c d e f g=>Z33 N a b c d e f g (λa b c d e=>Z38 N a b c d e (λa b c d e=>Z8L N k0 M a b c d e))) d N 1 _ _ (by omega) h.pos (by omega) t0;rw[show(((1:Nat):Int))=1 from rfl]at l2;rw[l2];simp only[Z33,Z34,Z35,Z36];obtain⟨d3,ht3,l3⟩:=loop3 (J:=J) (N:=N) hs h (λa b c d e=>Z38 N a b c d e (λa b c d e=>Z8L N k0 M a b c d e)) d d2 g2 ht2 N 0 d2 (by omega) (by omega) ⟨ht2.len,λ_ _ _=>rfl,λk hk=>by omega⟩;rw[show(((0:Nat):Int))=0 from rfl]at l3;rw[l3];obtain⟨p1,p2,p3⟩:=OF hs hlt h (by omega) hcl hpt (by omega) ht2 ht3;simp only[Z38];rw[aN (by rw[aS];omega)];exact ih (i+1) d3 hlt (by omega) ht3.len p1 (λx hx=>by
     by_cases e:x=i;·subst e;exact p2
     ·exact p3 x (by omega) (hpos x (by omega)))
  ·rw[cf (df (by omega))];exact⟨d,⟨hdl,hpt,λx hx=>hpos x (by omega)⟩,rfl⟩
def pt(m:Int×Int×List Int)(d:List Int)(i j:Nat):Prop:=d.getD i 0*ae m i j=-(d.getD j 0*ae m j i)
def EE(hs:ba m=true){d:List Int}(hd:ka m.1.toNat (ae m) (λx=>d.getD x 0)){i j:Nat}(hi:i<m.1.toNat)(hj:j<m.1.toNat) :
  (ah (d.getD i 0*ae m i j)=ah (0-ah (d.getD j 0*ae m j i)))↔pt m d i j:=by
 have key:∀a b:Nat,a<m.1.toNat->-913517247483640899<=d.getD a 0*ae m a b/\d.getD a 0*ae m a b<=913517247483640899:=by intro a b ha;obtain⟨h1,h2,_⟩:=hd a ha;have h3:=eZ hs a b;have h1':0<=d.getD a 0:=h1;have h2':d.getD a 0<=9227446944279201:=h2;have c1:d.getD a 0*ae m a b<=d.getD a 0*99:=Int.mul_le_mul_of_nonneg_left h3.2 h1';have c2:d.getD a 0*(-99)<=d.getD a 0*ae m a b:=Int.mul_le_mul_of_nonneg_left h3.1 h1';omega
 have k1:=key i j hi;have k2:=key j i hj;rw[bh (by omega) (by omega),bh (n:=d.getD j 0*ae m j i) (by omega) (by omega),bh (by omega) (by omega),Int.zero_sub];rfl
def OO(hs:aT m=true){d:List Int}(hdl:d.length=m.1.toNat)(hd:ka m.1.toNat (ae m) (λx=>d.getD x 0))(k10:List Int->Int->Int->Int->List Int->Option J)(kr:List Int->Bool->Option J){i:Nat}(hi:i<m.1.toNat):∀(M j:Nat),j<=m.1.toNat->m.1.toNat-j<M ->
  (Z51L N k10 kr M d (i:Int) (j:Int) m.1 m.2.1 m.2.2=kr [] false/\∃j',j'<m.1.toNat/\¬ pt m d i j') \/
  (Z51L N k10 kr M d (i:Int) (j:Int) m.1 m.2.1 m.2.2=k10 d (i:Int) m.1 m.2.1 m.2.2/\∀j',j<=j'->j'<m.1.toNat->pt m d i j'):=by
 have hdim:=cn (cV hs);obtain⟨n,r,hn,hr,hn1,hn5,hnr,hr8,hl⟩:=aQ hdim;intro M;induction M with
 |zero=>intro j _ hM;omega
 |succ M ih =>
  intro j hj hM;simp only[Z51L,Z52];by_cases hlt:j<m.1.toNat
  ·rw[ct (dt (by omega)),ct (aG (by omega)),ct (aG (by omega)),ct (at_p hdim hi hlt),ct (at_p hdim hlt hi)];have hA:aR.g (m.1,(m.2.1,m.2.2)) (i:Int) (j:Int)=ae m i j:=at_g (by omega) _ _;have hB:aR.g (m.1,(m.2.1,m.2.2)) (j:Int) (i:Int)=ae m j i:=at_g (by omega) _ _;simp only[Int.toNat_natCast,hA,hB];by_cases he:pt m d i j
   ·rw[cf (nf ((EE (cV hs) hd hi hlt).2 he)),aN (by rw[aS];omega)];rcases ih (j+1) hlt (by omega)with hc|hc;·exact Or.inl hc
    ·refine Or.inr ⟨hc.1,λj' h1 h2=>?_⟩;by_cases e:j'=j;·subst e;exact he
     ·exact hc.2 j' (by omega) h2
   ·rw[ct (nt (λhc=>he ((EE (cV hs) hd hi hlt).1 hc)))];exact Or.inl ⟨rfl,j,hlt,he⟩
  ·rw[cf (df (by omega))];exact Or.inr ⟨rfl,λj' h1 h2=>by omega⟩
def OP(hN:10<=N)(hs:aT m=true){d:List Int}(hdl:d.length=m.1.toNat)(hd:ka m.1.toNat (ae m) (λx=>d.getD x 0))(k8:List Int->Option J)(kr:List Int->Bool->Option J):∀(M i:Nat),i<=m.1.toNat->m.1.toNat-i<M ->
  (Z43L N k8 kr M d (i:Int) m.1 m.2.1 m.2.2=kr [] false/\∃i' j',i'<m.1.toNat/\j'<m.1.toNat/\¬ pt m d i' j') \/
  (Z43L N k8 kr M d (i:Int) m.1 m.2.1 m.2.2=k8 d/\∀i',i<=i'->i'<m.1.toNat->∀j',j'<m.1.toNat->pt m d i' j'):=by
 have hdim:=cn (cV hs);obtain⟨n,r,hn,hr,hn1,hn5,hnr,hr8,hl⟩:=aQ hdim;intro M;induction M with
 |zero=>intro i _ hM;omega
 |succ M ih =>
  intro i hi hM;simp only[Z43L,Z44,Z45];by_cases hlt:i<m.1.toNat
  ·rw[ct (dt (by omega))];simp only[Z46,Z47,Z48,Z49,Z50,Z51];have hc:=OO (J:=J) (N:=N) hs hdl hd (λa b c d e=>Z53 N a b c d e (λa b c d e=>Z43L N k8 kr M a b c d e)) kr hlt N 0 (by omega) (by omega);rw[show((0:Nat):Int)=0 from rfl]at hc;rcases hc with⟨hc,j',h1,h2⟩|⟨hc,h1⟩;·exact Or.inl ⟨hc,i,j',hlt,h1,h2⟩
   ·rw[hc];simp only[Z53];rw[aN (by rw[aS];omega)];rcases ih (i+1) hlt (by omega)with h2|h2;·exact Or.inl h2
    ·refine Or.inr ⟨h2.1,λi' h3 h4=>?_⟩;by_cases e:i'=i;·subst e;exact λj' hj'=>h1 j' (by omega) hj'
     ·exact h2.2 i' (by omega) h4
  ·rw[cf (df (by omega))];exact Or.inr ⟨rfl,λi' h1 h2=>by omega⟩
end
def ok:Spec:=λm hb hp=>⟨10,λN hN=>by
 have hs:aT m=true:=hp;have hdim:=cn (cV hs);obtain⟨n,r,hn,hr,hn1,hn5,hnr,hr8,hl⟩:=aQ hdim;simp only[Z0,Z1,Z2,Z3];rw[ct (by rw[kQ (by omega),dt (by omega)];rfl)];simp only[Z4,Z5,Z6,Z7,Z8];have hz:∀x,(List.replicate m.1.toNat (0:Int)).getD x 0=0:=λx=>by rw[List.getD_eq_getElem?_getD,List.getElem?_replicate];split<;>rfl
 obtain⟨d,⟨h1,h2,h3⟩,h4⟩:=outer (J:=Unit×List Int×Bool×Unit) hN hs (λa b c d=>Z39 N a b c d (λt2 t3=>some ((),(t2,(t3,()))))) N 0 (List.replicate m.1.toNat 0) (by omega) (by omega) (by simp) (λj hj=>by show 0<=(List.replicate m.1.toNat (0:Int)).getD j 0/\(List.replicate m.1.toNat (0:Int)).getD j 0<=_/\(0<(List.replicate m.1.toNat (0:Int)).getD j 0->_);rw[hz];exact⟨by omega,by omega,λhc=>by omega⟩) (λx hx=>by omega);rw[show((0:Nat):Int)=0 from rfl]at h4;rw[h4];simp only[Z39,Z40,Z41,Z42,Z43];have hc:=OP (J:=Unit×List Int×Bool×Unit) hN hs h1 h2 (λd4=>Z54 N d4 (λt2 t3=>some ((),(t2,(t3,()))))) (λt2 t3=>some ((),(t2,(t3,())))) N 0 (by omega) (by omega);rw[show((0:Nat):Int)=0 from rfl]at hc;rcases hc with⟨hc,i',j',h5,h6,h7⟩|⟨hc,h5⟩;·rw[hc,g,OH hs h2 h3 h5 h6 h7];rfl
 ·have h6:=Em h1 h2 h3 (λi hi j hj=>h5 i (by omega) hi j hj);rw[hc,g,h6];simp only[Z54];rw[df (λe=>by rw[e]at h1;simp at h1;omega)];rfl⟩
def fac_ex{m:Int×Int×List Int}(hs:aT m=true)(h:∃e,cY m.1.toNat (ae m) e):bj m≠[]:=by
 have hdim:=cn (cV hs);obtain⟨n,r,hn,hr,hn1,hn5,hnr,hr8,hl⟩:=aQ hdim;have hz:∀x,(List.replicate m.1.toNat (0:Int)).getD x 0=0:=λx=>by rw[List.getD_eq_getElem?_getD,List.getElem?_replicate];split<;>rfl
 obtain⟨d,⟨h1,h2,h3⟩,h4⟩:=outer (J:=Unit) (N:=10) (Nat.le_refl _) hs (λ_ _ _ _=>none) 10 0 (List.replicate m.1.toNat 0) (by omega) (by omega) (by simp) (λj hj=>by show 0<=(List.replicate m.1.toNat (0:Int)).getD j 0/\(List.replicate m.1.toNat (0:Int)).getD j 0<=_/\(0<(List.replicate m.1.toNat (0:Int)).getD j 0->_);rw[hz];exact⟨by omega,by omega,λhc=>by omega⟩) (λx hx=>by omega);obtain⟨e,he⟩:=h;rw[Em h1 h2 h3 (λi hi j hj=>OG hs h2 h3 he hi hj)];intro hc;rw[hc]at h1;simp at h1;omega
end aV
end
end Go.Fw
namespace Go.Fw
def nH(m:Int×Int×List Int):(ba m&&!decide (bj m=[]))=(aT m&&!decide (bj m=[])):=by
 by_cases h:bj m=[];·rw[dt h];simp
 ·cases hs:ba m;·simp[aT,hs]
  ·rw[OB hs h]
def EF{m:Int×Int×List Int}{k:Nat}(h:(aT m&&!decide (bj m=[]))=true)(hk:k<m.1.toNat):(ba (bB m k)&&!decide (bj (bB m k)=[]))=aT (bB m k):=by
 simp only[Bool.and_eq_true,Bool.not_eq_true',decide_eq_false_iff_not]at h;cases hs:aT (bB m k);·rw[nH,hs];rfl
 ·have hd:=cn (cV h.1);have:=aV.fac_ex hs ⟨_,uU hd hk (uK h.2).2.1⟩;rw[nH,hs,df this];rfl
structure fe(m:Int×Int×List Int)(d:Nat->Int):Prop where
 shaped:ba m=true
 good:cY m.1.toNat (ae m) d
def fe.sizes{m:Int×Int×List Int}{d:Nat->Int}(h:fe m d):aT m=true:=by rw[aT,h.shaped,Bool.true_and,List.all_eq_true];intro i hi;rw[List.all_eq_true];intro j hj;exact pg h.good (List.mem_range.1 hi) (List.mem_range.1 hj)
def fe.fac{m:Int×Int×List Int}{d:Nat->Int}(h:fe m d):bj m≠[]:=aV.fac_ex h.sizes ⟨d,h.good⟩
def fe.ok{m:Int×Int×List Int}{d:Nat->Int}(h:fe m d):(aT m&&!decide (bj m=[]))=true:=by rw[h.sizes,df h.fac];rfl
def fe.dim{m:Int×Int×List Int}{d:Nat->Int}(h:fe m d):aY m=true:=cn h.shaped
def EG{m:Int×Int×List Int}(h:(aT m&&!decide (bj m=[]))=true):∃d,fe m d:=by simp only[Bool.and_eq_true,Bool.not_eq_true',decide_eq_false_iff_not]at h;exact⟨_,cV h.1,(uK h.2).2.1⟩
def nI{m:Int×Int×List Int}:ba m=true↔aY m=true/\∀x∈m.2.2,-99<=x/\x<=99:=by simp only[ba,lQ,Bool.and_eq_true,List.all_eq_true,eK]
def fe.mut{m:Int×Int×List Int}{d:Nat->Int}(h:fe m d){k:Nat}(hk:k<m.1.toNat)(hs:aT (bB m k)=true):fe (bB m k) d:=⟨cV hs,uU h.dim hk h.good⟩
def gW{m:Int×Int×List Int}(hd:aY m=true)(aC:List Int){p q:Nat}(hp:p<m.2.1.toNat)(hq:q<m.1.toNat) :
  ae (ci m aC) p q=ae m (eE m.1.toNat (aC.map Int.toNat) p) (c7 (aC.map Int.toNat) q):=by
 obtain⟨n,r,hn,hr,hn1,hn5,hnr,hr8,hl⟩:=aQ hd;have e0:m.1.toNat=n:=by omega
 have hlt:=j9 (n:=n) (r:=r) (i:=p) (j:=q) (by omega) (by omega);unfold ae ci;show((List.range m.2.2.length).map λp=>m.2.2.getD (fb m.1.toNat (aC.map Int.toNat) p) 0).getD (p*m.1.toNat+q) 0=_;rw[List.getD_eq_getElem?_getD,List.getElem?_map,List.getElem?_range (by rw[e0];omega)];show m.2.2.getD (fb m.1.toNat (aC.map Int.toNat) (p*m.1.toNat+q)) 0=_;unfold fb;rw[EA hq,EB hq]
def nJ{m:Int×Int×List Int}(aC:List Int)(h:aY m=true):aY (ci m aC)=true:=by simpa[aY,ci]using h
def fe.ren{m:Int×Int×List Int}{d:Nat->Int}(h:fe m d){aC:List Int}(hn:eD aC m.1=true):fe (ci m aC) λp=>d (c7 (aC.map Int.toNat) p):=by
 obtain⟨L,rfl,h1,h2,h3⟩:=lT hn;have hd:=h.dim;obtain⟨n,r,en,hr,hn1,hn5,hnr,hr8,hl⟩:=aQ hd;refine⟨nI.2 ⟨nJ _ hd,λx hx=>?_⟩,λu hu=>?_⟩
 ·have h0:=(nI.1 h.shaped).2;obtain⟨p,_,rfl⟩:=List.mem_map.1 hx;rw[List.getD_eq_getElem?_getD];cases hq:m.2.2[fb m.1.toNat ((ak L).map Int.toNat) p]? with
  |none=>exact⟨by decide,by decide⟩
  |some y=>exact h0 y (List.mem_of_getElem? hq)
 ·have hu:u<m.1.toNat:=hu;rw[fc];have pu:=(fa (fU h1 h2 h3 hu)).1;refine⟨(h.good _ (by omega)).1,λv hv=>?_⟩;have hv:v<m.1.toNat:=hv;have pv:=(fa (fU h1 h2 h3 hv)).1;rw[gW hd _ (by omega) hv,gW hd _ (by omega) hu,fc];unfold eE;rw[if_pos hu,if_pos hv];exact(h.good _ (by omega)).2 _ (by omega)
end Go.Fw
namespace Go.Fw
section
variable {m : Int × Int × List Int} {L : List Nat} (hd : aY m = true) (h1 : L.Nodup) (h2 : ∀ x ∈ L, x < m.1.toNat) (h3 : L.length = m.1.toNat)
include hd h1 h2 h3
end
end Go.Fw
namespace Go.Fw
abbrev z3:Int×Int×List Int:=(0,(0,[]))
def cS(x:Int×Int×List Int)(k:Nat):Int×Int×List Int:=cR (bB x k)
def eM(S:List (Int×Int×List Int))(d:List Int):Bool:=S.any λy=>decide (y.2.2=d)
def gX(S:List (Int×Int×List Int))(y:Int×Int×List Int):List (Int×Int×List Int):=if eM S y.2.2=true then S else S++[y]
def fg(x:Int×Int×List Int)(k:Nat)(S:List (Int×Int×List Int)):Option (List (Int×Int×List Int)) :=
 if aT (bB x k)=true then(if(gX S (cS x k)).length<=100 then some (gX S (cS x k))else none)else none
def eN(x:Int×Int×List Int):Nat->Nat->List (Int×Int×List Int)->Option (List (Int×Int×List Int))
 |_,0,S=>some S
 |k,r+1,S=>(fg x k S).bind (eN x (k+1) r)
def fV(n:Nat):Nat->Nat->List (Int×Int×List Int)->Option (List (Int×Int×List Int))
 |0,_,_=>none
 |F+1,a,S=>if a<S.length then(eN (S.getD a z3) 0 n S).bind (fV n F (a+1))else some S
def gY(m:Int×Int×List Int):Option (List (Int×Int×List Int)):=fV m.1.toNat 102 0 [cR m]
def bI(n:Int)(x:Int×Int×List Int):Prop:=(∃d,fe x d)/\x.1=n/\x.2.1=n
def dq(n:Int)(S:List (Int×Int×List Int)):Prop:=∀x∈S,bI n x
def r6{S:List (Int×Int×List Int)}{d:List Int}:eM S d=true↔∃y∈S,y.2.2=d:=by simp[eM]
def EJ{m:Int×Int×List Int}(hd:aY m=true)(hsq:m.2.1=m.1):∃o,eD o m.1=true/\cR m=ci m o:=by
 obtain⟨n,r,hn,hr',hn1,hn5,hnr,hr8,hl⟩:=aQ hd;have e1:m.1.toNat=n:=by omega
 have hx:∀o,ci m o=(m.1,m.2.1,b9 m o):=λo=>rfl;rcases rZ (b9 m) (dA n n []) m.2.2 with h|⟨o,ho,h⟩
 ·refine⟨(List.range n).map Int.ofNat, ?_, ?_⟩;·rw[hn];exact pn hn5 (uQ hn5)
  ·have:=uR hd hsq;rw[e1]at this;rw[this];unfold cR;rw[e1,h]
 ·refine⟨o, ?_, ?_⟩;·rw[hn];exact pn hn5 ((rY hn5 o).2 ho)
  ·rw[hx];unfold cR;rw[e1,h]
def bI.can{n:Int}{x:Int×Int×List Int}(h:bI n x):bI n (cR x):=by obtain⟨⟨d,hR⟩,h1,h2⟩:=h;obtain⟨o,ho,e⟩:=EJ hR.dim (h2.trans h1.symm);exact⟨⟨_,by rw[e];exact hR.ren ho⟩,h1,h2⟩
def bI.mut{n:Int}{x:Int×Int×List Int}(h:bI n x){k:Nat}(hk:k<n.toNat)(hs:aT (bB x k)=true):bI n (bB x k):=by obtain⟨⟨d,hR⟩,h1,h2⟩:=h;exact⟨⟨d,hR.mut (by rw[h1];exact hk) hs⟩,h1,h2⟩
def bI.nxt{n:Int}{x:Int×Int×List Int}(h:bI n x){k:Nat}(hk:k<n.toNat)(hs:aT (bB x k)=true):bI n (cS x k):=(h.mut hk hs).can
def bI.dim{n:Int}{x:Int×Int×List Int}(h:bI n x):aY x=true:=by obtain⟨⟨d,hR⟩,_⟩:=h;exact hR.dim
def bI.shaped{n:Int}{x:Int×Int×List Int}(h:bI n x):ba x=true:=by obtain⟨⟨d,hR⟩,_⟩:=h;exact hR.shaped
def bI.bound{n:Int}{x:Int×Int×List Int}(h:bI n x):1<=n/\n<=5/\(x.2.2.length:Int)=n*n:=by
 obtain⟨m,r,hn,hr',hn1,hn5,hnr,hr8,hl⟩:=aQ h.dim;obtain⟨_,h1,h2⟩:=h;have:r=m:=by omega
 subst this;exact⟨by omega,by omega,by rw[hl,<-h1,hn];exact Int.natCast_mul r r⟩
def OS{n:Int}{S:List (Int×Int×List Int)}{y:Int×Int×List Int}(h:dq n S)(hy:bI n y):dq n (gX S y):=by
 intro x hx;unfold gX at hx;split at hx;·exact h x hx
 ·rcases List.mem_append.1 hx with hx|hx;·exact h x hx
  ·rw[List.mem_singleton.1 hx];exact hy
def zC{S:List (Int×Int×List Int)}{y d:Int×Int×List Int}{a:Nat}(h:a<S.length):(gX S y).getD a d=S.getD a d:=by
 unfold gX;split;·rfl
 ·rw[List.getD_eq_getElem?_getD,List.getElem?_append_left h,List.getD_eq_getElem?_getD]
def OT{S:List (Int×Int×List Int)}{y:Int×Int×List Int}:S.length<=(gX S y).length:=by
 unfold gX;split;·exact Nat.le_refl _
 ·simp
def kS{n:Int}{S:List (Int×Int×List Int)}(h:dq n S){a:Nat}(ha:a<S.length):bI n (S.getD a z3):=h _ (aX _ ha)
def zD{n:Int}{x:Int×Int×List Int}{k:Nat}{S S':List (Int×Int×List Int)}(hS:dq n S)(hx:bI n x)(hk:k<n.toNat)(h:fg x k S=some S') :
  S'=gX S (cS x k)/\dq n S'/\S.length<=S'.length/\S'.length<=100:=by
 unfold fg at h;split at h
 ·rename_i hs;split at h;·rename_i hl;injection h with h;subst h;exact⟨rfl,OS hS (hx.nxt hk hs),OT,hl⟩
  ·cases h
 ·cases h
def r7{n:Int}{x:Int×Int×List Int}(hx:bI n x):∀(r k:Nat) {S S':List (Int×Int×List Int)},k+r=n.toNat->dq n S->S.length<=100->eN x k r S=some S' ->
  dq n S'/\S.length<=S'.length/\S'.length<=100/\∀a d,a<S.length->S'.getD a d=S.getD a d
 |0,k,S,S',_,hS,hl,h=>by injection h with h;subst h;exact⟨hS,Nat.le_refl _,hl,λ_ _ _=>rfl⟩
 |r+1,k,S,S',hk,hS,hl,h=>by obtain⟨S1,h1,h2⟩:=Option.bind_eq_some_iff.1 (show(fg x k S).bind (eN x (k+1) r)=some S' from h);obtain⟨e,f1,f2,f3⟩:=zD hS hx (by omega) h1;obtain⟨g1,g2,g3,g4⟩:=r7 hx r (k+1) (by omega) f1 f3 h2;refine⟨g1,Nat.le_trans f2 g2,g3,λa d ha=>?_⟩;rw[g4 a d (by omega),e,zC ha]
def dB(a b:List Int):Bool:=!bT b a
def gn(l:List (List Int)):Prop:=l.Pairwise λa b=>dB a b=true
def uX(a b c:List Int)(h1:dB a b=true)(h2:dB b c=true):dB a c=true:=by
 simp only[dB,Bool.not_eq_true']at *
 cases h:bT c a;·rfl
 cases h3:bT a b;·have:=pr h3 h1;subst this;rw[h2]at h;cases h
 ·rw[po h h3]at h2;cases h2
def EK(a b:List Int):(dB a b||dB b a)=true:=by
 simp only[dB];cases h:bT b a;·rfl
 cases h2:bT a b;·rfl
 ·have:=po h h2;rw[uS]at this;cases this
def OU{a b:List Int}(h1:dB a b=true)(h2:dB b a=true):a=b:=by simp only[dB,Bool.not_eq_true']at h1 h2;exact pr h2 h1
def EL:∀{l l':List (List Int)},l.Perm l'->gn l->gn l'->l=l'
 |[],l',h,_,_=>(List.Perm.nil_eq h)
 |a::l,[],h,_,_=>by simpa using h.length_eq
 |a::l,b::l',h,h1,h2=>by
  have e:a=b:=by
   rcases List.mem_cons.1 (h.mem_iff.1 List.mem_cons_self)with e|ha;·exact e
   rcases List.mem_cons.1 (h.mem_iff.2 List.mem_cons_self)with e|hb;·exact e.symm
   exact OU ((List.pairwise_cons.1 h1).1 b hb) ((List.pairwise_cons.1 h2).1 a ha)
  subst e;rw[EL (List.Perm.cons_inv h) (List.pairwise_cons.1 h1).2 (List.pairwise_cons.1 h2).2]
def lU(l:List (List Int)):List (List Int):=l.mergeSort dB
def r8(l:List (List Int)):(lU l).Perm l:=List.mergeSort_perm l dB
def OV(l:List (List Int)):gn (lU l):=List.pairwise_mergeSort uX EK l
def EM{l l':List (List Int)}(h:l'.Perm l)(hs:gn l'):l'=lU l:=EL (h.trans (r8 l).symm) hs (OV l)
def iZ(s:Nat):Nat->List (List Int)->List (List Int)
 |0,l=>l
 |F+1,l=>if l=[]then[]else(l.take s).merge ((l.drop s).take s) dB++iZ s F (l.drop (2*s))
def pz(s:Nat)(l:List (List Int)):Prop:=∀k,gn ((l.drop (s*k)).take s)
def EN(a b:List (List Int)):(a.merge b dB).length=a.length+b.length:=by simp
def EO{s:Nat}(hs:0<s):∀(F:Nat) (l:List (List Int)),l.length<=F->pz s l->(iZ s F l).Perm l/\pz (2*s) (iZ s F l)
 |0,l,h,hb=>by have:l=[]:=List.eq_nil_of_length_eq_zero (by omega);subst this;exact⟨List.Perm.refl _,λk=>by simp[iZ,gn]⟩
 |F+1,l,h,hb=>by
  unfold iZ;by_cases hl:l=[];·subst hl;rw[if_pos rfl];exact⟨List.Perm.refl _,λk=>by simp[gn]⟩
  rw[if_neg hl];have hpos:0<l.length:=List.length_pos_iff.2 hl;have hb2:pz s (l.drop (2*s)):=λk=>by have:=hb (k+2);rw[List.drop_drop,show 2*s+s*k=s*(k+2) by rw[Nat.mul_add,Nat.mul_comm s 2];omega];exact this
  obtain⟨p1,p2⟩:=EO hs F (l.drop (2*s)) (by simp;omega) hb2;have e1:gn (l.take s):=by simpa using hb 0
  have e2:gn ((l.drop s).take s):=by simpa using hb 1
  have hm:gn ((l.take s).merge ((l.drop s).take s) dB):=List.pairwise_merge uX EK _ _ e1 e2;have hml:((l.take s).merge ((l.drop s).take s) dB).length=min (2*s) l.length:=by rw[EN];simp;omega
  refine⟨?_,λk=>?_⟩
  ·have q1:=(List.merge_perm_append (xs:=l.take s) (ys:=(l.drop s).take s) (le:=dB)).append p1;refine q1.trans ?_;have:l.take s++(l.drop s).take s++l.drop (2*s)=l:=by rw[List.append_assoc,show l.drop (2*s)=(l.drop s).drop s by rw[List.drop_drop];congr 1;omega,List.take_append_drop,List.take_append_drop]
   rw[this]
  ·cases k with
   |zero =>
    rw[Nat.mul_zero,List.drop_zero];by_cases h2:2*s<=l.length;·rw[List.take_append_of_le_length (by omega),List.take_of_length_le (by omega)];exact hm
    ·have:l.drop (2*s)=[]:=List.drop_of_length_le (by omega);have e3:iZ s F (l.drop (2*s))=[]:=by rw[this]at p1 ⊢;exact List.Perm.eq_nil p1
     rw[e3,List.append_nil];exact hm.sublist (List.take_sublist _ _)
   |succ k =>
    by_cases h2:2*s<=l.length;·have:=p2 k;rw[show 2*s*(k+1)=2*s+2*s*k by rw[Nat.mul_add];omega,<-List.drop_drop,List.drop_append_of_le_length (by omega),List.drop_of_length_le (by omega:_<=2*s),List.nil_append];exact this
    ·have:l.drop (2*s)=[]:=List.drop_of_length_le (by omega);have e3:iZ s F (l.drop (2*s))=[]:=by rw[this]at p1 ⊢;exact List.Perm.eq_nil p1
     rw[e3,List.append_nil,List.drop_of_length_le (by rw[hml];have:2*s<=2*s*(k+1):=Nat.le_mul_of_pos_right _ (Nat.succ_pos k);omega)];simp[gn]
def OW(l:List (List Int)):pz 1 l:=λk=>by
 unfold gn;rcases h:l.drop (1*k)with _|⟨a,r⟩;·simp
 ·simp
def OX{s:Nat}{l:List (List Int)}(h:pz s l)(hs:l.length<=s):gn l:=by have:=h 0;rwa [Nat.mul_zero,List.drop_zero,List.take_of_length_le hs]at this
def iz(m:Int×Int×List Int):Bool:=(aT m&&!decide (bj m=[]))&&decide (m.2.1=m.1)
def jE(n:Int)(S:List (Int×Int×List Int)):List (Int×Int×List Int):=(lU (S.map (·.2.2))).map λd=>(n,(n,d))
def dC(m:Int×Int×List Int):List (Int×Int×List Int)×Bool :=
 if iz m=true then(match gY m with
  |some S=>(jE m.1 S,true)
  |none=>([],false))else([],false)
def zF{m:Int×Int×List Int}(hp:iz m=true):bI m.1 m:=by simp only[iz,Bool.and_eq_true,decide_eq_true_eq]at hp;obtain⟨d,hR⟩:=EG (m:=m) (by simpa using hp.1);exact⟨⟨d,hR⟩,rfl,hp.2⟩
def EP{n:Int}:∀(F a:Nat) {S S':List (Int×Int×List Int)},dq n S->S.length<=100->fV n.toNat F a S=some S'->dq n S'/\S.length<=S'.length/\S'.length<=100
 |0,a,S,S',_,_,h=>by cases h
 |F+1,a,S,S',hS,hl,h=>by
  have e1:fV n.toNat (F+1) a S=if a<S.length then(eN (S.getD a z3) 0 n.toNat S).bind (fV n.toNat F (a+1))else some S:=rfl
  rw[e1]at h;split at h;·rename_i ha;obtain⟨S1,h1,h2⟩:=Option.bind_eq_some_iff.1 h;obtain⟨f1,f2,f3,f4⟩:=r7 (kS hS ha) n.toNat 0 (by omega) hS hl h1;obtain⟨g1,g2,g3⟩:=EP F _ f1 f3 h2;exact⟨g1,Nat.le_trans f2 g2,g3⟩
  ·injection h with h;subst h;exact⟨hS,Nat.le_refl _,hl⟩
def r9{m:Int×Int×List Int}(hp:iz m=true){S:List (Int×Int×List Int)}(h:gY m=some S):dq m.1 S/\1<=S.length/\S.length<=100 :=
 EP _ _ (λx hx=>by rw[List.mem_singleton.1 hx];exact(zF hp).can) (by simp) h
def bI.len{n:Int}{x:Int×Int×List Int}(h:bI n x):1<=x.2.2.length/\x.2.2.length<=25:=by obtain⟨b1,b2,b3⟩:=h.bound;have h1:n*n<=5*5:=Int.mul_le_mul b2 b2 (by omega) (by omega);have h2:1*1<=n*n:=Int.mul_le_mul b1 b1 (by omega) (by omega);omega
def bI.ents{n:Int}{x:Int×Int×List Int}(h:bI n x):∀u∈x.2.2,-99<=u/\u<=99:=by obtain⟨⟨d,hR⟩,_⟩:=h;exact(nI.1 hR.shaped).2
def OY{n:Int}{S S':List (Int×Int×List Int)}(hS:dq n S)(hp:S'.Perm S)(hs:gn (S'.map (·.2.2))):S'=jE n S:=by unfold jE;rw[<-EM (hp.map _) hs,List.map_map];refine((List.map_congr_left λx hx=>?_).trans (List.map_id _)).symm;obtain⟨_,h1,h2⟩:=hS x (hp.mem_iff.1 hx);obtain⟨a,b,c⟩:=x;simp only at h1 h2;subst h1 h2;rfl
def cz(x:Int×Int×List Int)(i j:Nat):Int:=ae x i j*ae x j i
def iA(x:Int×Int×List Int):Bool:=(List.range' 0 x.1.toNat).all λi=>(List.range' 0 x.1.toNat).all λj=>!decide (cz x i j < -3)
def sa(x:Int×Int×List Int):Bool:=(List.range' 0 x.1.toNat).all λi=>(List.range' 0 i).all λj=>!decide (3<max (cz x i j) (-(cz x i j)))
def fh(m:Int×Int×List Int):Int×Int×List Int:=if(aT m&&!decide (bj m=[]))=true then iX m else(0,0,[])
def c8(m:Int×Int×List Int):List (Int×Int×List Int)×Bool :=
 if((dC (fh m)).2&&(dC (fh m)).1.all iA)=true then((dC (fh m)).1,true)else([],false)
def bI.skew{n:Int}{x:Int×Int×List Int}(h:bI n x){i j:Nat}(hi:i<n.toNat)(hj:j<n.toNat):dz (ae x i j) (ae x j i)=true:=by obtain⟨⟨d,hR⟩,h1,h2⟩:=h;exact pg hR.good (by rw[h1];exact hi) (by rw[h1];exact hj)
def zG{a b:Int}(h:dz a b=true):a*b<=0:=by
 simp only[dz,Bool.and_eq_true,beq_iff_eq,decide_eq_decide]at h;obtain⟨h1,h2⟩:=h;by_cases ha:0<a;·exact Int.mul_nonpos_of_nonneg_of_nonpos (by omega) (by have:=h1.1 ha;omega)
 ·by_cases h0:a=0;·rw[h0];simp
  ·have:0<b:=by
    by_cases hb:b<0;·exact absurd (h1.2 hb) ha
    ·by_cases hb0:b=0;·exact absurd (h2.2 hb0) h0
     ·omega
   exact Int.mul_nonpos_of_nonpos_of_nonneg (by omega) (by omega)
def OZ{n:Int}{x:Int×Int×List Int}(h:bI n x)(i j:Nat):-9801<=cz x i j/\cz x i j<=9801:=by
 have key:∀i j,-99<=ae x i j/\ae x i j<=99:=λi j=>by
  unfold ae;rw[List.getD_eq_getElem?_getD];cases hq:x.2.2[i*x.1.toNat+j]? with
  |none=>simp
  |some u=>exact h.ents u (List.mem_of_getElem? hq)
 have h1:=key i j;have h2:=key j i;unfold cz;generalize ae x i j=a at *
 generalize ae x j i=b at *
 have:(a*b).natAbs<=99*99:=by rw[Int.natAbs_mul];exact Nat.mul_le_mul (by omega) (by omega)
 omega
def O0{n:Int}{x:Int×Int×List Int}(h:bI n x):sa x=iA x:=by
 have h1:=h.2.1;have le0:∀i j,i<n.toNat->j<n.toNat->cz x i j<=0:=λi j hi hj=>zG (h.skew hi hj);have sym:∀i j,cz x i j=cz x j i:=λi j=>Int.mul_comm _ _;rw[Bool.eq_iff_iff];simp only[sa,iA,List.all_eq_true,Bool.not_eq_true',decide_eq_false_iff_not,List.mem_range'_1,Nat.zero_le,true_and,Nat.zero_add,h1];constructor
 ·intro H i' hi j' hj;by_cases e:j'<i';·have:=H i' hi j' e;have:=le0 i' j' hi hj;omega
  ·by_cases e2:i'<j'
   ·have:=H j' hj i' e2;have:=le0 i' j' hi hj;rw[sym j' i']at *
    omega
   ·have e3:i'=j':=by omega
    subst e3;have:=h.skew hi hi;have h0:ae x i' i'=0:=by simp only[dz,Bool.and_eq_true,beq_iff_eq,decide_eq_decide]at this;omega
    have:cz x i' i'=0:=by unfold cz;rw[h0];rfl
    omega
 ·intro H i' hi j' hj;have:=H i' hi j' (by omega);have:=le0 i' j' hi (by omega);omega
def EQ{n:Int}{S:List (Int×Int×List Int)}(hS:dq n S){x:Int×Int×List Int}(h:x∈jE n S):x∈S:=by obtain⟨d,hd,rfl⟩:=List.mem_map.1 h;obtain⟨y,hy,rfl⟩:=List.mem_map.1 ((r8 _).mem_iff.1 hd);obtain⟨_,h1,h2⟩:=hS y hy;obtain⟨a,b,c⟩:=y;simp only at h1 h2;subst h1 h2;exact hy
def ER{n:Int}{S:List (Int×Int×List Int)}:(jE n S).length=S.length:=by unfold jE;rw[List.length_map,(r8 _).length_eq,List.length_map]
def zH{m:Int×Int×List Int}(h:(dC m).2=true):iz m=true/\dq m.1 (dC m).1/\1<=(dC m).1.length/\(dC m).1.length<=100:=by
 unfold dC at h ⊢;cases hp:iz m;·rw[hp]at h;cases h
 rw[hp]at h;simp only[if_true]at h ⊢;cases hc:gY m with
 |none=>rw[hc]at h;cases h
 |some S =>
  obtain⟨f1,f2,f3⟩:=r9 hp hc;refine⟨trivial,λx hx=>f1 x (EQ f1 hx), ?_, ?_⟩;·show 1<=(jE m.1 S).length;rw[ER];exact f2
  ·show(jE m.1 S).length<=100;rw[ER];exact f3
def O1{n:Int}{x:Int×Int×List Int}(h:bI n x):∃L:List Nat,L.Nodup/\(∀y∈L,y<n.toNat)/\L.length=n.toNat/\∀i j,i<n.toNat->j<n.toNat->ae (cR x) (L.getD i 0) (L.getD j 0)=ae x i j:=by obtain⟨_,e1,e2⟩:=id h;obtain⟨o,ho,e⟩:=EJ h.dim (e2.trans e1.symm);obtain⟨L,rfl,h1,h2,h3⟩:=lT ho;rw[e1]at h2 h3;refine⟨L,h1,h2,h3,λi j hi hj=>?_⟩;have a1:=h2 _ (aX (l:=L) (j:=i) 0 (by omega));have a2:=h2 _ (aX (l:=L) (j:=j) 0 (by omega));rw[e,gW h.dim _ (by rw[e2];exact a1) (by rw[e1];exact a2),fc,gl h1 (by omega)];congr 1;unfold eE;rw[if_pos (by rw[e1];exact a1),gl h1 (by omega)]
def Cl(n:Int)(S:List (Int×Int×List Int)):Prop:=∀x∈S,∀k,k<n.toNat->aT (bB x k)=true/\∃y∈S,y=cS x k
def O3{S:List (Int×Int×List Int)}{y:Int×Int×List Int}:(∀x∈S,x∈gX S y)/\eM (gX S y) y.2.2=true:=by
 unfold gX;split;·exact⟨λx hx=>hx,by assumption⟩
 ·exact⟨λx hx=>List.mem_append_left _ hx,r6.2 ⟨y,by simp,rfl⟩⟩
def ES{S S':List (Int×Int×List Int)}(h:∀x∈S,x∈S'){d:List Int}(hd:eM S d=true):eM S' d=true:=by obtain⟨y,h1,h2⟩:=r6.1 hd;exact r6.2 ⟨y,h _ h1,h2⟩
def ET{x:Int×Int×List Int}:∀(r k:Nat) {S S':List (Int×Int×List Int)},eN x k r S=some S'->(∀y∈S,y∈S')/\∀k',k<=k'->k'<k+r->aT (bB x k')=true/\eM S' (cS x k').2.2=true
 |0,k,S,S',h=>by injection h with h;subst h;exact⟨λy hy=>hy,λk' h1 h2=>by omega⟩
 |r+1,k,S,S',h=>by
  obtain⟨S1,h1,h2⟩:=Option.bind_eq_some_iff.1 (show(fg x k S).bind (eN x (k+1) r)=some S' from h);obtain⟨g1,g2⟩:=ET r (k+1) h2;unfold fg at h1;split at h1
  ·rename_i hs;split at h1
   ·injection h1 with h1;subst h1;obtain⟨f1,f2⟩:=O3 (S:=S) (y:=cS x k);refine⟨λy hy=>g1 y (f1 y hy),λk' h3 h4=>?_⟩;by_cases e:k'=k;·subst e;exact⟨hs,ES g1 f2⟩
    ·exact g2 k' (by omega) (by omega)
   ·cases h1
  ·cases h1
def EU{n:Int}:∀(F a:Nat) {S S':List (Int×Int×List Int)},dq n S->S.length<=100->(∀i,i<a->i<S.length->∀k,k<n.toNat->aT (bB (S.getD i z3) k)=true/\eM S (cS (S.getD i z3) k).2.2=true)->fV n.toNat F a S=some S' ->
  (∀x∈S,x∈S')/\∀i,i<S'.length->∀k,k<n.toNat->aT (bB (S'.getD i z3) k)=true/\eM S' (cS (S'.getD i z3) k).2.2=true
 |0,a,S,S',_,_,_,h=>by cases h
 |F+1,a,S,S',hS,hl,hh,h=>by
  have e1:fV n.toNat (F+1) a S=if a<S.length then(eN (S.getD a z3) 0 n.toNat S).bind (fV n.toNat F (a+1))else some S:=rfl
  rw[e1]at h;by_cases ha:a<S.length
  ·rw[if_pos ha]at h;obtain⟨S1,h1,h2⟩:=Option.bind_eq_some_iff.1 h;obtain⟨f1,f2,f3,f4⟩:=r7 (kS hS ha) n.toNat 0 (by omega) hS hl h1;obtain⟨g1,g2⟩:=ET n.toNat 0 h1;obtain⟨k1,k2⟩:=EU F (a+1) f1 f3 (λi hi hi2 k hk=>by
    by_cases e:i=a;·subst e;rw[f4 i _ ha];exact g2 k (Nat.zero_le _) (by omega)
    ·rw[f4 i _ (by omega)];obtain⟨p1,p2⟩:=hh i (by omega) (by omega) k hk;exact⟨p1,ES g1 p2⟩) h2
   exact⟨λx hx=>k1 x (g1 x hx),k2⟩
  ·rw[if_neg ha]at h;injection h with h;subst h;exact⟨λx hx=>hx,λi hi k hk=>hh i (by omega) hi k hk⟩
def O4{n:Int}{x y:Int×Int×List Int}(hx:bI n x)(hy:bI n y)(h:x.2.2=y.2.2):x=y:=by
 obtain⟨_,a1,a2⟩:=hx;obtain⟨_,b1,b2⟩:=hy;obtain⟨p,q,d⟩:=x;obtain⟨p',q',d'⟩:=y;simp only at *
 rw[a1,a2,b1,b2,h]
def O5{m:Int×Int×List Int}(hp:iz m=true){S:List (Int×Int×List Int)}(h:gY m=some S):Cl m.1 S/\cR m∈S:=by
 have h0:dq m.1 [cR m]:=λx hx=>by rw[List.mem_singleton.1 hx];exact(zF hp).can
 obtain⟨h1,h2⟩:=EU 102 0 h0 (by simp) (λi hi=>by omega) h;have hS:=(r9 hp h).1;refine⟨λx hx k hk=>?_,h1 _ (by simp)⟩;obtain⟨i,hi,rfl⟩:=List.getElem_of_mem hx;have:=h2 i hi k hk;rw[List.getD_eq_getElem?_getD,List.getElem?_eq_getElem hi]at this;obtain⟨p1,p2⟩:=this;obtain⟨y,q1,q2⟩:=r6.1 p2;exact⟨p1,y,q1,O4 (hS y q1) ((hS _ hx).nxt hk p1) q2⟩
abbrev dD:=Nat->Nat->Int
def wt(A:dD)(u v:Nat):Int:=-(A u v*A v u)
def fi(A:dD)(n:Nat):List Nat->Prop
 |[]=>False
 |[u]=>u<n
 |u::v::r=>u<n/\A u v≠0/\(∀t∈r,t≠u/\A u t=0/\A t u=0)/\fi A n (v::r)
def Wt(A:dD):List Nat->Int
 |[]=>1
 |[_]=>1
 |u::v::r=>wt A u v*Wt A (v::r)
def gq(n:Nat)(A:dD):Prop:=∀i j,i<n->j<n->dz (A i j) (A j i)=true
def eF(A:dD)(k:Nat):dD:=λi j=>d7 (decide (i=k)||decide (j=k)) (A i j) (A i k) (A k j)
def fi.lt{A:dD}{n:Nat}:∀{f:List Nat},fi A n f->∀t∈f,t<n
 |[u],h,t,ht=>by rw[List.mem_singleton.1 ht];exact h
 |u::v::r,h,t,ht=>by
  rcases List.mem_cons.1 ht with rfl|ht;·exact h.1
  ·exact fi.lt h.2.2.2 t ht
def sb(A B:dD)(f:List Nat):Prop:=∀a∈f,∀b∈f,(B a b=A a b/\B b a=A b a)\/(B a b=-A a b/\B b a=-A b a)
def sb.pth{A B:dD}{n:Nat}:∀{f:List Nat},sb A B f->fi A n f->fi B n f/\Wt B f=Wt A f
 |[],_,h=>h.elim
 |[u],_,h=>⟨h,rfl⟩
 |u::v::r,hs,h=>by
  obtain⟨h1,h2,h3,h4⟩:=h;obtain⟨k1,k2⟩:=sb.pth (f:=v::r) (λa ha b hb=>hs a (List.mem_cons_of_mem _ ha) b (List.mem_cons_of_mem _ hb)) h4;refine⟨⟨h1, ?_,λt ht=>?_,k1⟩, ?_⟩
  ·rcases hs u (by simp) v (by simp)with⟨e,_⟩|⟨e,_⟩<;>rw[e]
   ·exact h2
   ·omega
  ·obtain⟨t1,t2,t3⟩:=h3 t ht;refine⟨t1, ?_⟩;rcases hs u (by simp) t (by simp[ht])with⟨e,e'⟩|⟨e,e'⟩<;>rw[e,e',t2,t3]<;>simp
  ·show wt B u v*_=wt A u v*_;rw[k2];congr 1;unfold wt;rcases hs u (by simp) v (by simp)with⟨e,e'⟩|⟨e,e'⟩<;>rw[e,e'];rw[Int.neg_mul_neg]
def zI{A B:dD}{n:Nat}{φ:Nat->Nat}(h1:∀i,i<n->φ i<n)(h2:∀i j,i<n->j<n->φ i=φ j->i=j)(h3:∀i j,i<n->j<n->B (φ i) (φ j)=A i j):∀{f:List Nat},fi A n f->fi B n (f.map φ)/\Wt B (f.map φ)=Wt A f
 |[],h=>h.elim
 |[u],h=>⟨h1 u h,rfl⟩
 |u::v::r,h=>by
  have hlt:=h.lt;obtain⟨p1,p2,p3,p4⟩:=h;obtain⟨k1,k2⟩:=zI h1 h2 h3 (f:=v::r) p4;have hv:=hlt v (by simp);refine⟨⟨h1 u p1,by rw[h3 u v p1 hv];exact p2,λt ht=>?_,k1⟩, ?_⟩;·obtain⟨s,hs,rfl⟩:=List.mem_map.1 ht;have hs':=hlt s (by simp[hs]);obtain⟨q1,q2,q3⟩:=p3 s hs;exact⟨λe=>q1 (h2 _ _ hs' p1 e),by rw[h3 u s p1 hs'];exact q2,by rw[h3 s u hs' p1];exact q3⟩
  ·show wt B (φ u) (φ v)*Wt B ((v::r).map φ)=_;rw[k2];unfold wt;rw[h3 u v p1 hv,h3 v u hv p1];rfl
def pA{a b c:Int}(h:b=0\/c=0):d7 false a b c=a:=by unfold d7;rw[if_neg (by decide),if_neg (by omega),if_neg (by omega)]
def EV{a b c:Int}(h:dz b c=true):d7 false a b c=a:=by simp only[dz,Bool.and_eq_true,beq_iff_eq,decide_eq_decide]at h;unfold d7;rw[if_neg (by decide),if_neg (by omega),if_neg (by omega)]
def EW{b c:Int}(h1:0<b)(h2:0<c):d7 false 0 b c=b*c:=by unfold d7;rw[if_neg (by decide),if_pos ⟨h1,h2⟩];omega
def EX{b c:Int}(h1:b<0)(h2:c<0):d7 false 0 b c=-(b*c):=by unfold d7;rw[if_neg (by decide),if_neg (by omega),if_pos ⟨h1,h2⟩];omega
def pB{A:dD}{k i j:Nat}(hi:i≠k)(hj:j≠k):eF A k i j=d7 false (A i j) (A i k) (A k j):=by unfold eF;rw[decide_eq_false hi,decide_eq_false hj];rfl
def gq.diag{n:Nat}{A:dD}(h:gq n A){i:Nat}(hi:i<n):A i i=0:=by have:=h i i hi hi;simp only[dz,Bool.and_eq_true,beq_iff_eq,decide_eq_decide]at this;omega
def gq.zero{n:Nat}{A:dD}(h:gq n A){i j:Nat}(hi:i<n)(hj:j<n):A i j=0↔A j i=0:=by have:=h i j hi hj;simp only[dz,Bool.and_eq_true,beq_iff_eq,decide_eq_decide]at this;exact this.2
section
variable {n : Nat} {A : dD} {u v w : Nat} {r : List Nat} (hs : gq n A) (hp : fi A n (u :: v :: w :: r))
include hs hp
theorem zJ:u<n/\v<n/\w<n/\u≠v/\v≠w/\u≠w/\(∀t∈r,t≠u/\t≠v/\t<n):=by have hlt:=hp.lt;obtain⟨p1,p2,p3,q1,q2,q3,q4⟩:=hp;have hv:=hlt v (by simp);have hw:=hlt w (by simp);exact⟨p1,hv,hw,λe=>p2 (by rw[e];exact hs.diag hv),λe=>q2 (by rw[e];exact hs.diag hw),λe=>(p3 w (by simp)).1 e.symm,λt ht=>⟨(p3 t (by simp[ht])).1,(q3 t ht).1,hlt t (by simp[ht])⟩⟩
theorem zK(ha:0<A u v/\0<A v w\/A u v<0/\A v w<0):fi (eF A v) n (u::w::r)/\Wt (eF A v) (u::w::r)=Wt A (u::v::w::r):=by
 obtain⟨hu,hv,hw,n1,n2,n3,n4⟩:=zJ hs hp;obtain⟨p1,p2,p3,q1,q2,q3,q4⟩:=hp;have hsim:sb A (eF A v) (w::r):=by
  have key:∀a∈w::r,∀b∈w::r,eF A v a b=A a b:=by
   intro a ha b hb;have hav:a≠v:=by
    rcases List.mem_cons.1 ha with rfl|h;·exact λe=>n2 e.symm
    ·exact(n4 a h).2.1
   have hbv:b≠v:=by
    rcases List.mem_cons.1 hb with rfl|h;·exact λe=>n2 e.symm
    ·exact(n4 b h).2.1
   rw[pB hav hbv];rcases List.mem_cons.1 ha with rfl|h
   ·rcases List.mem_cons.1 hb with rfl|h';·exact EV (hs _ _ hw hv)
    ·exact pA (.inr (q3 b h').2.1)
   ·exact pA (.inl (q3 a h).2.2)
  exact λa ha b hb=>.inl ⟨key a ha b hb,key b hb a ha⟩
 obtain⟨k1,k2⟩:=hsim.pth q4;have euw:eF A v u w=d7 false 0 (A u v) (A v w):=by rw[pB n1 (λe=>n2 e.symm),(p3 w (by simp)).2.1]
 have ewu:eF A v w u=d7 false 0 (A w v) (A v u):=by rw[pB (λe=>n2 e.symm) n1,(p3 w (by simp)).2.2]
 have s1:=hs u v hu hv;have s2:=hs v w hv hw;simp only[dz,Bool.and_eq_true,beq_iff_eq,decide_eq_decide]at s1 s2;have hkey:eF A v u w≠0/\wt (eF A v) u w=wt A u v*wt A v w:=by
  have e0:A u v*A v w*(A w v*A v u)=A u v*A v u*(A v w*A w v):=by rw[Int.mul_assoc,Int.mul_assoc];congr 1;rw[<-Int.mul_assoc,Int.mul_comm]
  unfold wt;rw[euw,ewu,Int.neg_mul_neg];rcases ha with⟨a1,a2⟩|⟨a1,a2⟩;·rw[EW a1 a2,EX (by omega) (by omega)];refine⟨by have:=Int.mul_pos a1 a2;omega, ?_⟩;rw[Int.mul_neg,Int.neg_neg,e0]
  ·rw[EX a1 a2,EW (by omega) (by omega)];refine⟨?_, ?_⟩;·have:=Int.mul_pos_of_neg_of_neg a1 a2;omega
   ·rw[Int.neg_mul,Int.neg_neg,e0]
 refine⟨⟨hu,hkey.1,λt ht=>?_,k1⟩, ?_⟩;·obtain⟨t1,t2,t3⟩:=n4 t ht;obtain⟨r1,r2,r3⟩:=p3 t (by simp[ht]);obtain⟨z1,z2,z3⟩:=q3 t ht;exact⟨t1,by rw[pB n1 t2,pA (.inr z2)];exact r2,by rw[pB t2 n1,pA (.inl z3)];exact r3⟩
 ·show wt (eF A v) u w*Wt (eF A v) (w::r)=wt A u v*(wt A v w*Wt A (w::r));rw[hkey.2,k2,Int.mul_assoc]
theorem O6:sb A (eF A u) (u::v::w::r)/\eF A u u v=-A u v/\eF A u v w=A v w:=by
 obtain⟨hu,hv,hw,n1,n2,n3,n4⟩:=zJ hs hp;obtain⟨p1,p2,p3,q1,q2,q3,q4⟩:=hp;have hne:∀a∈v::w::r,a≠u:=by
  intro a ha;rcases List.mem_cons.1 ha with rfl|ha;·exact λe=>n1 e.symm
  ·exact(p3 a ha).1
 have e1:∀a,eF A u u a=-A u a:=λa=>by unfold eF d7;simp
 have e2:∀a,eF A u a u=-A a u:=λa=>by unfold eF d7;simp
 have key:∀a∈v::w::r,∀b∈v::w::r,eF A u a b=A a b:=by
  intro a ha b hb;rw[pB (hne a ha) (hne b hb)];rcases List.mem_cons.1 ha with rfl|h
  ·rcases List.mem_cons.1 hb with rfl|h';·exact EV (hs _ _ hv hu)
   ·exact pA (.inr (p3 b h').2.1)
  ·exact pA (.inl (p3 a h).2.2)
 refine⟨λa ha b hb=>?_,e1 v,key v (by simp) w (by simp)⟩;rcases List.mem_cons.1 ha with rfl|ha;·exact .inr ⟨e1 b,e2 b⟩
 ·rcases List.mem_cons.1 hb with rfl|hb;·exact .inr ⟨e2 a,e1 a⟩
  ·exact .inl ⟨key a ha b hb,key b hb a ha⟩
end
def O7{n:Nat}{Q:dD->Prop}(hs:∀A,Q A->gq n A)(hw:∀A,Q A->∀i j,i<n->j<n->wt A i j<=3)
  (hc:∀A,Q A->∀k,k<n->∃B,Q B/\∃φ:Nat->Nat,(∀i,i<n->φ i<n)/\(∀i j,i<n->j<n->φ i=φ j->i=j)/\∀i j,i<n->j<n->B (φ i) (φ j)=eF A k i j) :
  ∀(r:List Nat) (u v:Nat) (A:dD),Q A->fi A n (u::v::r)->Wt A (u::v::r)<=3:=by
 have main:∀(k:Nat) (r:List Nat) (u v:Nat) (A:dD),r.length=k->Q A->fi A n (u::v::r)->Wt A (u::v::r)<=3:=by
  intro k;induction k with
  |zero =>intro r u v A hk hA hp;rw[List.length_eq_zero_iff]at hk;subst hk;have:=hw A hA u v hp.1 (hp.lt v (by simp));show wt A u v*1<=3;omega
  |succ k ih =>
   intro r u v A hk hA hp;cases r with
   |nil=>cases hk
   |cons w r =>
   have al:∀(u v w:Nat) (r:List Nat) (A:dD),r.length=k->Q A->fi A n (u::v::w::r)->(0<A u v/\0<A v w\/A u v<0/\A v w<0)->Wt A (u::v::w::r)<=3:=by intro u v w r A hk hA hp ha;obtain⟨c1,c2⟩:=zK (hs A hA) hp ha;obtain⟨B,hB,φ,f1,f2,f3⟩:=hc A hA v (hp.lt v (by simp));obtain⟨d1,d2⟩:=zI f1 f2 f3 c1;rw[<-c2,<-d2];exact ih (r.map φ) (φ u) (φ w) B (by simpa using hk) hB d1
   have hk:r.length=k:=by simpa using hk
   by_cases ha:0<A u v/\0<A v w\/A u v<0/\A v w<0;·exact al u v w r A hk hA hp ha
   ·obtain⟨t1,t2,t3⟩:=O6 (hs A hA) hp;obtain⟨s1,s2⟩:=t1.pth hp;obtain⟨B,hB,φ,f1,f2,f3⟩:=hc A hA u hp.1;obtain⟨d1,d2⟩:=zI f1 f2 f3 s1;rw[<-s2,<-d2];obtain⟨hu,hv,hw',n1,n2,n3,n4⟩:=zJ (hs A hA) hp;refine al (φ u) (φ v) (φ w) (r.map φ) B (by simpa using hk) hB d1 ?_;rw[f3 u v hu hv,f3 v w hv hw',t2,t3];have h1:=hp.2.1;have h2:=hp.2.2.2.2.1;omega
 exact λr u v A hA hp=>main r.length r u v A rfl hA hp
def a6(m:Int×Int×List Int)(i:Nat):List Nat:=(List.range m.1.toNat).filter λj=>!decide (ae m i j=0)
def gr(A:Nat->Nat->Int)(l:List Nat):Nat:=((List.range' 0 l.length).map λi=>(List.range' 0 i).countP λj=>!decide (A (l.getD i 0) (l.getD j 0)=0)).sum
def kc(m:Int×Int×List Int)(l:List Int):Bool:=l.all (λx=>decide (0<=x)&&decide (x<m.1))&&decide (l.length<=5)
def zL{m:Int×Int×List Int}{l:List Int}(h:kc m l=true):∃L:List Nat,l=ak L/\(∀x∈L,x<m.1.toNat)/\L.length<=5:=by
 simp only[kc,Bool.and_eq_true,List.all_eq_true,decide_eq_true_eq]at h;obtain⟨h1,h2⟩:=h;refine⟨l.map Int.toNat, ?_,λx hx=>?_,by simpa using h2⟩
 ·unfold ak;rw[List.map_map];conv=>lhs;rw[<-List.map_id l]
  refine List.map_congr_left λx hx=>?_;have:=h1 x hx;simp only[Function.comp,id];omega
 ·obtain⟨y,hy,rfl⟩:=List.mem_map.1 hx;have:=h1 y hy;omega
def zM{m:Int×Int×List Int}{L:List Nat}(h:∀x∈L,x<m.1.toNat)(hl:L.length<=5):kc m (ak L)=true:=by simp only[kc,Bool.and_eq_true,List.all_eq_true,decide_eq_true_eq,aU];refine⟨λx hx=>?_,hl⟩;obtain⟨y,hy,rfl⟩:=List.mem_map.1 hx;have:=h y hy;omega
def sc(m:Int×Int×List Int)(i:Nat):(a6 m i).length<=m.1.toNat:=by unfold a6;have:=List.length_filter_le (λj=>!decide (ae m i j=0)) (List.range m.1.toNat);simpa using this
def nK{m:Int×Int×List Int}{i j:Nat}:j∈a6 m i↔j<m.1.toNat/\ae m i j≠0:=by unfold a6;simp[List.mem_filter]
def bW(n:Int):ByteArray:=⟨(Lib.itoa n).toArray⟩
def fW(u:Nat):List Int:=(Lib.decDigits u).reverse.map λb=>(b.toNat:Int)
def EY{t:Nat}(h:t<10):((UInt8.ofNat (48+t)).toNat:Int)=48+(t:Int):=by rw[UInt8.toNat_ofNat'];omega
def EZ{u:Nat}(h:u<10):fW u=[48+(u:Int)]:=by rw[fW,Lib.decDigits,dif_pos h];simp only[List.reverse_cons,List.reverse_nil,List.nil_append,List.map_cons,List.map_nil];rw[EY h]
def E3{u:Nat}(h:¬ u<10):fW u=(48+((u%10:Nat):Int))::fW (u / 10):=by rw[fW,Lib.decDigits,dif_neg h,List.reverse_append];simp only[List.reverse_cons,List.reverse_nil,List.nil_append,List.singleton_append,List.map_cons];rw[EY (Nat.mod_lt _ (by omega))];rfl
def E4(l:List UInt8):strOfNums (l.map λb=>(b.toNat:Int))=⟨l.toArray⟩:=by
 unfold strOfNums;rw[List.map_map];congr 2;conv=>rhs;rw[<-List.map_id l]
 apply List.map_congr_left;intro b _;simp
def O8(u:Nat):strOfNums (fW u).reverse=⟨(Lib.decDigits u).toArray⟩:=by rw[fW,<-List.map_reverse,List.reverse_reverse,E4]
def O9(u:Nat):strOfNums (45::(fW u).reverse)=⟨(45::Lib.decDigits u).toArray⟩:=by rw[fW,<-List.map_reverse,List.reverse_reverse];exact E4 (45::Lib.decDigits u)
def E5(k:Int):Int.tmod k 10=if k<0 then -((k.natAbs%10:Nat):Int)else((k.natAbs%10:Nat):Int):=by
 split;·rename_i h;obtain⟨u,rfl⟩:∃u:Nat,k=-(u:Int):=⟨k.natAbs,by omega⟩;rw[Int.neg_tmod,Int.natAbs_neg,Int.natAbs_natCast];rfl
 ·rename_i h;obtain⟨u,rfl⟩:∃u:Nat,k=(u:Int):=⟨k.toNat,by omega⟩;rw[Int.natAbs_natCast];rfl
def Pa(k:Int):Int.tdiv k 10=if k<0 then -((k.natAbs / 10:Nat):Int)else((k.natAbs / 10:Nat):Int):=by
 split;·rename_i h;obtain⟨u,rfl⟩:∃u:Nat,k=-(u:Int):=⟨k.natAbs,by omega⟩;rw[Int.neg_tdiv,Int.natAbs_neg,Int.natAbs_natCast];rfl
 ·rename_i h;obtain⟨u,rfl⟩:∃u:Nat,k=(u:Int):=⟨k.toNat,by omega⟩;rw[Int.natAbs_natCast];rfl
def E6{n:Int}(h0:0<=n)(h1:n<256):w8 n=n:=by unfold w8;rw[IntKind.wrap_u8];omega
def Pb{k:Int}(h:¬ Int.tmod k 10<0):w8 (ah (48+Int.tmod k 10))=48+((k.natAbs%10:Nat):Int):=by
 have hm:k.natAbs%10<10:=Nat.mod_lt _ (by omega);have e:Int.tmod k 10=((k.natAbs%10:Nat):Int):=by
  rw[E5]at h ⊢;split;·rename_i hk;rw[if_pos hk]at h;omega
  ·rfl
 rw[e,bh (by omega) (by omega),E6 (by omega) (by omega)]
def Pc{k:Int}(h:Int.tmod k 10<0):w8 (ah (48+ah (0-Int.tmod k 10)))=48+((k.natAbs%10:Nat):Int):=by
 have hm:k.natAbs%10<10:=Nat.mod_lt _ (by omega);have e:Int.tmod k 10=-((k.natAbs%10:Nat):Int):=by
  rw[E5]at h ⊢;split;·rfl
  ·rename_i hk;rw[if_neg hk]at h;omega
 have e1:ah (0 - -((k.natAbs%10:Nat):Int))=((k.natAbs%10:Nat):Int):=by rw[bh (by omega) (by omega)];omega
 rw[e,e1,bh (by omega) (by omega),E6 (by omega) (by omega)]
def zN(k:Int):(Int.tdiv k 10).natAbs=k.natAbs / 10:=by rw[Pa];split<;>omega
def lV(m:Int×Int×List Int)(i j:Nat):Int:=if i=j then 2 else -(aI (ae m i j))
def gt(m:Int×Int×List Int)(i:Nat):List Int:=(List.range m.1.toNat).map (lV m i)
def ek(m:Int×Int×List Int):List (List Int):=(List.range m.1.toNat).map (gt m)
def E7{α:Type}(f:Nat->α){n j:Nat}(h:j<n):((List.range n).map f).take j++[f j]=((List.range n).map f).take (j+1):=by rw[List.take_add_one,List.getElem?_map,List.getElem?_range h];rfl
def Pd(a b:List UInt8):(⟨a.toArray⟩:ByteArray)++⟨b.toArray⟩=⟨(a++b).toArray⟩:=by apply ByteArray.ext;simp
def zO(n:Int):(bW n).data.toList=Lib.itoa n:=by simp[bW]
def uY{n:Int}(h:dI n=true):(bW n).size<=21:=by simp only[dI,Bool.and_eq_true,decide_eq_true_eq]at h;have:=Lib.itoa_length_le n h.1 h.2;show(Lib.itoa n).toArray.size<=21;simpa using this
def eG(l:List Int):List UInt8:=Lib.join (l.map Lib.itoa) [32]
def eO(l:List Int):ByteArray:=⟨(eG l).toArray⟩
def Pe{l:List Int}(h:l≠[])(n:Int):eG (l++[n])=eG l++[32]++Lib.itoa n:=by
 unfold eG Lib.join;cases l with
 |nil=>exact absurd rfl h
 |cons x xs =>
  rw[List.map_append,List.map_cons,List.map_cons,List.map_nil];induction xs generalizing x with
  |nil=>simp[List.intercalate,List.intersperse]
  |cons y ys ih =>have:=ih y (by simp);simp only[List.map_cons,List.cons_append,List.intercalate,List.intersperse,List.flatten_cons,List.append_assoc]at this ⊢;rw[this]
def Pf(n:Int):eG [n]=Lib.itoa n:=by simp[eG,Lib.join,List.intercalate]
def Pg:eG []=[]:=rfl
def E8{l:List Int}(h:l.all dI=true):(eG l).length<=22*l.length:=by
 have key:∀j,j<=l.length->(eG (l.take j)).length<=22*j:=by
  intro j;induction j with
  |zero=>intro _;simp[Pg]
  |succ j ih =>
   intro hj;have h2:dI (l.getD j 0)=true:=List.all_eq_true.1 h _ (aX 0 hj);have hn:(Lib.itoa (l.getD j 0)).length<=21:=by simp only[dI,Bool.and_eq_true,decide_eq_true_eq]at h2;exact Lib.itoa_length_le _ h2.1 h2.2
   have:=ih (by omega);rw[<-lP 0 hj];by_cases he:l.take j=[];·rw[he,List.nil_append,Pf];omega
   ·rw[Pe he];simp only[List.length_append,List.length_cons,List.length_nil];omega
 have:=key l.length (Nat.le_refl _);rwa [List.take_length]at this
def lW(l:List Int):Bool:=decide (l.length<=2097152)&&l.all dI
abbrev dg(m:Int×Int×List Int)(i:Nat):Nat:=(a6 m i).length
abbrev bN(c:UInt8):ByteArray:=⟨#[c]⟩
def c9(m:Int×Int×List Int)(len:Nat)(c:UInt8)(i j:Nat):UInt8 :=
 if wt (ae m) i j=3 then 71 else if wt (ae m) i j=2 then(if len=2 then 66 else if 1<dg m i/\1<dg m j then 70 else if dg m i=1 then(if aI (ae m j i)=2 then 66 else 67)else c)else c
def lX(m:Int×Int×List Int)(len:Nat)(c:UInt8)(i:Nat):UInt8:=(a6 m i).foldl (λc j=>c9 m len c i j) c
def sd(m:Int×Int×List Int)(L:List Nat):UInt8:=if(L.any λi=>decide (dg m i=3))=true then 68 else L.foldl (λc i=>lX m L.length c i) 65
def eH(m:Int×Int×List Int)(L:List Nat):ByteArray:=bN (sd m L)++bW (L.length:Int)
def jF(m:Int×Int×List Int)(s:Int×UInt8)(e f:Nat):Int×UInt8 :=
 if wt (ae m) e f<=1 then s else
  (wt (ae m) e f,if dg m e=1/\aI (ae m e f)=2/\(if dg m e=1/\aI (ae m f e)=2 then(66:UInt8)else s.2)≠66 then 67 else if dg m e=1/\aI (ae m f e)=2 then 66 else s.2)
def lY(m:Int×Int×List Int)(L:List Nat)(s:Int×UInt8)(e:Nat):Int×UInt8:=L.foldl (λs f=>jF m s e f) s
def fX(m:Int×Int×List Int)(L:List Nat):Int×UInt8:=L.foldl (λs e=>lY m L s e) (1,65)
def se(m:Int×Int×List Int)(L:List Nat):UInt8 :=
 if(L.any λi=>decide (dg m i=3))=true then 68 else if(fX m L).1=3 then 71 else if(fX m L).1=2 then(if L.length=2 then 66 else if(fX m L).2=65 then 70 else(fX m L).2)else(fX m L).2
def fj(m:Int×Int×List Int)(L:List Nat):ByteArray:=bN (se m L)++bW (L.length:Int)
def sf{c d:UInt8}:dE (bN c) (bN d)=decide (c=d):=by
 rw[Bool.eq_iff_iff,decide_eq_true_eq];have e:∀c,(bN c).toList=[c]:=λc=>by unfold bN;simp[ByteArray.toList,ByteArray.toList.loop,ByteArray.size,ByteArray.get!]
 unfold dE;rw[e,e];simp
def E9{m:Int×Int×List Int}(h:aT m=true){i j:Nat}(hi:i<m.1.toNat)(hj:j<m.1.toNat):dz (ae m i j) (ae m j i)=true:=by simp only[aT,Bool.and_eq_true,List.all_eq_true,List.mem_range]at h;exact h.2 i hi j hj
def zP{m:Int×Int×List Int}(h:aT m=true){i j:Nat}(hi:i<m.1.toNat)(hj:j<m.1.toNat):wt (ae m) i j=max (cz m i j) (-(cz m i j))/\wt (ae m) i j=-(aI (ae m i j)) * -(aI (ae m j i))/\0<=wt (ae m) i j:=by
 have hs:=E9 h hi hj;have h0:=zG hs;refine⟨?_, ?_, ?_⟩;·unfold wt cz;omega
 ·unfold wt aI;rw[Int.neg_mul_neg,<-Int.natCast_mul,<-Int.natAbs_mul];omega
 ·unfold wt;omega
def fH(m:Int×Int×List Int):List Nat->List (List Nat)->List (List Nat)
 |[],out=>out
 |k::ks,out=>fH m ks (if k∈out.flatten then out else out++[(bf m k).1])
def dK(m:Int×Int×List Int):List (List Nat):=fH m (List.range m.1.toNat) []
def gu(m:Int×Int×List Int)(p:List Nat):Bool:=decide (gr (ae m) p+1=p.length)
def gZ(m:Int×Int×List Int):Bool:=(dK m).all (gu m)
def Ph(m:Int×Int×List Int):Prop:=∀i j,i<m.1.toNat->j<m.1.toNat->(ae m i j=0↔ae m j i=0)
def zQ{m:Int×Int×List Int}(h:aT m=true):Ph m:=λi j hi hj=>by simp only[aT,Bool.and_eq_true,List.all_eq_true,List.mem_range]at h;have:=h.2 i hi j hj;simp only[dz,Bool.and_eq_true,beq_iff_eq,decide_eq_decide]at this;exact this.2
def nL(m:Int×Int×List Int)(F:List Nat):Prop:=∀x∈F,x<m.1.toNat/\∀j,j<m.1.toNat->ae m x j≠0->j∈F
structure gH(m:Int×Int×List Int)(k:Nat)(out:List (List Nat)):Prop where
 src:∀p∈out,∃i,i<m.1.toNat/\p=(bf m i).1
 len:out.length<=k
def uZ{m:Int×Int×List Int}{i:Nat}(h:i<m.1.toNat):nL m (bf m i).1:=by obtain⟨h1,h2⟩:=pi h;exact λx hx=>⟨h1.lt x hx,h2 x hx⟩
def gH.shut{m:Int×Int×List Int}{k:Nat}{out:List (List Nat)}(h:gH m k out):nL m out.flatten:=by intro x hx;obtain⟨p,hp,hx⟩:=List.mem_flatten.1 hx;obtain⟨i,hi,rfl⟩:=h.src p hp;obtain⟨h1,h2⟩:=uZ hi x hx;exact⟨h1,λj hj ha=>List.mem_flatten.2 ⟨_,hp,h2 j hj ha⟩⟩
def gH.step{m:Int×Int×List Int}{k:Nat}{out:List (List Nat)}(h:gH m k out)(hk:k<m.1.toNat):gH m (k+1) (out++[(bf m k).1]) :=
 ⟨λp hp=>by
  rcases List.mem_append.1 hp with hp|hp;·exact h.src p hp
  ·exact⟨k,hk,List.mem_singleton.1 hp⟩,by have:=h.len;simp;omega⟩
def gH.up{m:Int×Int×List Int}{k:Nat}{out:List (List Nat)}(h:gH m k out):gH m (k+1) out:=⟨h.src,by have:=h.len;omega⟩
def Fa{m:Int×Int×List Int}:∀(r k:Nat) (out:List (List Nat)),k+r=m.1.toNat->gH m k out->gH m m.1.toNat (fH m (List.range' k r) out)
 |0,k,out,hk,h=>by
  have:k=m.1.toNat:=by omega
  subst this;exact h
 |r+1,k,out,hk,h=>by
  rw[List.range'_succ];show gH m _ (fH m (List.range' (k+1) r) (if k∈out.flatten then out else out++[(bf m k).1]));refine Fa r (k+1) _ (by omega) ?_;split;·exact h.up
  ·exact h.step (by omega)
def zR(m:Int×Int×List Int):gH m m.1.toNat (dK m):=by unfold dK;rw[List.range_eq_range'];exact Fa m.1.toNat 0 [] (by omega) ⟨(λp hp=>by cases hp),by simp⟩
def zS{m:Int×Int×List Int}:∀(ks:List Nat) (out:List (List Nat)),∃t,fH m ks out=out++t
 |[],out=>⟨[],by simp[fH]⟩
 |k::ks,out=>by
  obtain⟨t,h⟩:=zS ks (if k∈out.flatten then out else out++[(bf m k).1]);rw[fH,h];split;·exact⟨t,rfl⟩
  ·exact⟨[(bf m k).1]++t,by simp⟩
def fI(p:List Nat)(j:Nat):List Nat:=if j∈p then p else p++[j]
def ja(m:Int×Int×List Int):Nat->Nat->List Nat->List Nat
 |0,_,p=>p
 |f+1,a,p=>if a<p.length then ja m f (a+1) ((a6 m (p.getD a 0)).foldl fI p)else p
def Fb(A:Nat->Nat->Int)(x:Nat):∀(js:List Nat) (s:List Nat×List Nat),(gV A x js s).1=(js.filter λj=>!decide (A x j=0)).foldl fI s.1
 |[],s=>rfl
 |j::js,s=>by
  rw[gV,Fb A x js,List.filter_cons];by_cases h:A x j=0;·rw[if_neg (c:=(!decide (A x j=0))=true) (by rw[decide_eq_true h];decide),if_neg (λhc=>hc.1 h)]
  ·rw[if_pos (c:=(!decide (A x j=0))=true) (by rw[decide_eq_false h];rfl),List.foldl_cons];congr 1;unfold fI;by_cases hj:j∈s.1;·rw[if_pos hj,if_neg (λhc=>hc.2 hj)]
   ·rw[if_neg hj,if_pos ⟨h,hj⟩]
def Fc{m:Int×Int×List Int}:∀(f a:Nat) (s:List Nat×List Nat),(iW (ae m) m.1.toNat f a s).1=ja m f a s.1
 |0,a,s=>rfl
 |f+1,a,s=>by
  rw[iW,ja];by_cases h:a<s.1.length;·rw[if_pos h,if_pos h,Fc f (a+1),Fb];rfl
  ·rw[if_neg h,if_neg h]
def Pi(m:Int×Int×List Int)(i:Nat):(bf m i).1=ja m m.1.toNat 0 [i]:=Fc _ _ _
def Pj(p:List Nat)(j:Nat):∃t,fI p j=p++t:=by
 unfold fI;split;·exact⟨[],by simp⟩
 ·exact⟨[j],rfl⟩
def Fd:∀(js p:List Nat),∃t,js.foldl fI p=p++t
 |[],p=>⟨[],by simp⟩
 |j::js,p=>by obtain⟨t,h⟩:=Pj p j;obtain⟨u,h'⟩:=Fd js (fI p j);exact⟨t++u,by rw[List.foldl_cons,h',h,List.append_assoc]⟩
def Fe:∀(js p:List Nat) {x:Nat},x∈js.foldl fI p->x∈p\/x∈js
 |[],p,x,h=>.inl h
 |j::js,p,x,h=>by
  rcases Fe js _ h with h|h
  ·unfold fI at h;split at h;·exact .inl h
   ·rcases List.mem_append.1 h with h|h;·exact .inl h
    ·exact .inr (by rw[List.mem_singleton.1 h];simp)
  ·exact .inr (List.mem_cons_of_mem _ h)
def Ff:∀(js:List Nat) {p:List Nat},p.Nodup->(js.foldl fI p).Nodup
 |[],p,h=>h
 |j::js,p,h=>by
  refine Ff js ?_;unfold fI;split;·exact h
  ·rename_i hj;exact List.nodup_append.2 ⟨h,by simp,λa ha b hb e=>by rw[List.mem_singleton]at hb;subst hb;subst e;exact hj ha⟩
def Fg{b:Nat->Nat->Bool}(hb:∀i j,b i j=b j i)(h0:∀i,b i i=false):∀L:Nat,((List.range' 0 L).map λi=>(List.range' 0 L).countP (b i)).sum=2*((List.range' 0 L).map λi=>(List.range' 0 i).countP (b i)).sum
 |0=>rfl
 |L+1=>by
  have ih:=Fg hb h0 L;have e:List.range' 0 (L+1)=List.range' 0 L++[L]:=by rw[<-List.range_eq_range',<-List.range_eq_range',List.range_succ]
  have cnt:∀i,(List.range' 0 (L+1)).countP (b i)=(List.range' 0 L).countP (b i)+(if b i L=true then 1 else 0):=λi=>by rw[e,List.countP_append,List.countP_cons,List.countP_nil];omega
  have tot:∀l:List Nat,(l.map λi=>(List.range' 0 (L+1)).countP (b i)).sum=(l.map λi=>(List.range' 0 L).countP (b i)).sum+l.countP (b L):=by
   intro l;induction l with
   |nil=>rfl
   |cons i l ihl =>rw[List.map_cons,List.sum_cons,ihl,cnt,List.map_cons,List.sum_cons,List.countP_cons,hb L i];omega
  rw[tot,e,List.map_append,List.sum_append,ih,List.map_append,List.sum_append,List.countP_append,List.countP_cons,List.countP_nil];simp only[List.map_cons,List.map_nil,List.sum_cons,List.sum_nil,h0,Bool.false_eq_true,if_false];omega
def Pk(p:Nat->Bool)(l:List Nat):l.countP p=(List.range' 0 l.length).countP λi=>p (l.getD i 0):=by
 have:l=(List.range' 0 l.length).map λi=>l.getD i 0:=by
  apply List.ext_getElem?;intro i;rw[<-List.range_eq_range',List.getElem?_map];by_cases h:i<l.length;·rw[List.getElem?_range h,List.getElem?_eq_getElem h,Option.map_some,List.getD_eq_getElem?_getD,List.getElem?_eq_getElem h];rfl
  ·rw[List.getElem?_eq_none (by omega),List.getElem?_eq_none (by simp;omega)];rfl
 conv=>lhs;rw[this]
 rw[List.countP_map];rfl
def Pl{m:Int×Int×List Int}{p:List Nat}(hn:p.Nodup)(hs:nL m p){x:Nat}(hx:x∈p):(a6 m x).length=p.countP λj=>!decide (ae m x j=0):=by
 rw[List.countP_eq_length_filter];unfold a6;have n1:((List.range m.1.toNat).filter λj=>!decide (ae m x j=0)).Nodup:=List.Pairwise.filter _ List.nodup_range;have n2:(p.filter λj=>!decide (ae m x j=0)).Nodup:=List.Pairwise.filter _ hn;refine List.Perm.length_eq ((List.perm_ext_iff_of_nodup n1 n2).2 λj=>?_);rw[List.mem_filter,List.mem_filter,List.mem_range];obtain⟨h1,h2⟩:=hs x hx;constructor
 ·rintro ⟨a,b⟩
  exact⟨h2 j a (by simpa using b),b⟩
 ·rintro ⟨a,b⟩
  exact⟨(hs j a).1,b⟩
def Pm{m:Int×Int×List Int}(hsz:aT m=true){p:List Nat}(hn:p.Nodup)(hs:nL m p):(p.map λx=>(a6 m x).length).sum=2*gr (ae m) p:=by
 have hsym:=zQ hsz;have e1:(p.map λx=>(a6 m x).length)=(List.range' 0 p.length).map λi=>(List.range' 0 p.length).countP λj=>!decide (ae m (p.getD i 0) (p.getD j 0)=0):=by
  apply List.ext_getElem?;intro i;rw[<-List.range_eq_range',List.getElem?_map,List.getElem?_map];by_cases h:i<p.length;·rw[List.getElem?_range h,List.getElem?_eq_getElem h,Option.map_some,Option.map_some,Pl hn hs (List.getElem_mem h),Pk,List.range_eq_range',List.getD_eq_getElem?_getD (l:=p) (i:=i),List.getElem?_eq_getElem h];rfl
  ·rw[List.getElem?_eq_none (by omega),List.getElem?_eq_none (by simp;omega)];rfl
 have lt:∀i,p.getD i 0<m.1.toNat\/p.length<=i:=λi=>by
  by_cases h:i<p.length;·exact .inl (hs _ (aX 0 h)).1
  ·exact .inr (by omega)
 let b:Nat->Nat->Bool:=λi j=>decide (i<p.length)&&(decide (j<p.length)&&!decide (ae m (p.getD i 0) (p.getD j 0)=0));have hb:∀i j,b i j=b j i:=λi j=>by
  show(decide (i<p.length)&&(decide (j<p.length)&&!decide (ae m (p.getD i 0) (p.getD j 0)=0)))=(decide (j<p.length)&&(decide (i<p.length)&&!decide (ae m (p.getD j 0) (p.getD i 0)=0)));by_cases h1:i<p.length
  ·by_cases h2:j<p.length;·rw[decide_eq_true h1,decide_eq_true h2];have:=hsym _ _ (hs _ (aX (l:=p) (j:=i) 0 h1)).1 (hs _ (aX (l:=p) (j:=j) 0 h2)).1;rw[decide_eq_decide.2 this]
   ·rw[decide_eq_false h2,Bool.false_and,Bool.and_false,Bool.false_and]
  ·rw[decide_eq_false h1,Bool.false_and,Bool.false_and,Bool.and_false]
 have h0:∀i,b i i=false:=λi=>by
  show(decide (i<p.length)&&(decide (i<p.length)&&!decide (ae m (p.getD i 0) (p.getD i 0)=0)))=false;by_cases h1:i<p.length
  ·have h2:=(hs _ (aX (l:=p) (j:=i) 0 h1)).1;have h3:ae m (p.getD i 0) (p.getD i 0)=0:=by simp only[aT,Bool.and_eq_true,List.all_eq_true,List.mem_range]at hsz;have:=hsz.2 _ h2 _ h2;simp only[dz,Bool.and_eq_true,beq_iff_eq,decide_eq_decide]at this;omega
   rw[decide_eq_true h3,Bool.not_true,Bool.and_false,Bool.and_false]
  ·rw[decide_eq_false h1,Bool.false_and]
 have e2:∀i k,i<p.length->k<=p.length->(List.range' 0 k).countP (λj=>!decide (ae m (p.getD i 0) (p.getD j 0)=0))=(List.range' 0 k).countP (b i):=λi k hi hk=>by
  refine List.countP_congr λj hj=>?_;have:j<p.length:=by have:=(List.mem_range'_1.1 hj).2;omega
  show _↔(decide (i<p.length)&&(decide (j<p.length)&&!decide (ae m (p.getD i 0) (p.getD j 0)=0)))=true;rw[decide_eq_true hi,decide_eq_true this,Bool.true_and,Bool.true_and]
 rw[e1];unfold gr;have m1:∀(k:Nat->Nat),(∀i,i<p.length->k i<=p.length)->((List.range' 0 p.length).map λi=>(List.range' 0 (k i)).countP λj=>!decide (ae m (p.getD i 0) (p.getD j 0)=0))=(List.range' 0 p.length).map λi=>(List.range' 0 (k i)).countP (b i):=λk hk=>by
  refine List.map_congr_left λi hi=>?_;have hi:i<p.length:=by have:=(List.mem_range'_1.1 hi).2;omega
  exact e2 i (k i) hi (hk i hi)
 rw[m1 (λ_=>p.length) (λ_ _=>Nat.le_refl _),m1 (λi=>i) (λi hi=>by omega)];exact Fg hb h0 p.length
def fY(n:Nat)(S:List Nat):List Bool:=(List.range n).map λx=>decide (x∈S)
def Fh{n:Nat}{S:List Nat}{x:Nat}(h:x<n):(fY n S).getD x false=decide (x∈S):=by unfold fY;exact(rP (by simpa using h) false)
def u0(n:Nat)(S:List Nat):(fY n S).length=n:=by simp[fY]
def Fi{n:Nat}{S:List Nat}{x:Nat}(h:x<n):(fY n S).set x true=fY n (S++[x]):=by
 apply List.ext_getElem?;intro i;unfold fY;rw[List.getElem?_set,List.getElem?_map,List.getElem?_map];by_cases e:x=i;·subst e;rw[if_pos rfl,if_pos (by simpa using h),List.getElem?_range h];simp
 ·rw[if_neg e];by_cases hi:i<n;·rw[List.getElem?_range hi];simp[Ne.symm e]
  ·rw[List.getElem?_eq_none (by simp;omega)];rfl
def Pn(n:Nat):List.replicate n false=fY n []:=by
 unfold fY;apply List.ext_getElem?;intro i;rw[List.getElem?_replicate,List.getElem?_map];by_cases hi:i<n;·rw[if_pos hi,List.getElem?_range hi];rfl
 ·rw[if_neg hi,List.getElem?_eq_none (by simp;omega)];rfl
def Po{xs:List (List UInt8)}(h:xs≠[])(x sep:List UInt8):Lib.join (xs++[x]) sep=Lib.join xs sep++sep++x:=by
 cases xs with
 |nil=>exact absurd rfl h
 |cons y ys =>rw[List.cons_append,Lib.join_cons,Lib.join_cons];simp[Lib.joinTail,List.append_assoc]
def zT{B:Nat}{sep:List UInt8}:∀{xs:List (List UInt8)},(∀x∈xs,x.length<=B)->(Lib.join xs sep).length<=(B+sep.length)*xs.length
 |[],_=>by simp[Lib.join_nil]
 |y::ys,h=>by
  have hy:=h y (List.mem_cons_self ..);have ht:∀(zs:List (List UInt8)),(∀z∈zs,z.length<=B)->(Lib.joinTail sep zs).length<=(B+sep.length)*zs.length:=by
   intro zs;induction zs with
   |nil=>intro _;simp[Lib.joinTail]
   |cons z zs ih =>
    intro hz;have h1:=hz z (List.mem_cons_self ..);have h2:=ih λx hx=>hz x (List.mem_cons_of_mem _ hx);have e:(Lib.joinTail sep (z::zs)).length=sep.length+z.length+(Lib.joinTail sep zs).length:=by simp[Lib.joinTail,List.length_append];omega
    rw[e,List.length_cons,Nat.mul_succ];omega
  have:=ht ys λx hx=>h x (List.mem_cons_of_mem _ hx);rw[Lib.join_cons,List.length_append,List.length_cons,Nat.mul_succ];omega
def du(l:List UInt8):ByteArray:=⟨l.toArray⟩
def zV(a b:List UInt8):du a++du b=du (a++b):=Pd a b
def bU(a b:ByteArray):Bool:=decide (a.data.toList<=b.data.toList)
def Pp(a b:ByteArray):(mL a b||dE a b)=bU a b:=by unfold mL dE bU;rw[Go.Proofs.bytesLess_eq,Lib.toList_data,Lib.toList_data,Bool.eq_iff_iff,Bool.or_eq_true,decide_eq_true_eq,decide_eq_true_eq,beq_iff_eq];exact List.le_iff_lt_or_eq.symm
def Pq(a b:ByteArray):(bU a b||bU b a)=true:=by unfold bU;rw[Bool.or_eq_true,decide_eq_true_eq,decide_eq_true_eq];exact List.le_total _ _
def Pr(a b c:ByteArray)(h1:bU a b=true)(h2:bU b c=true):bU a c=true:=by
 unfold bU at *
 rw[decide_eq_true_eq]at *
 exact List.le_trans h1 h2
def Ps(a b:ByteArray)(h1:bU a b=true)(h2:bU b a=true):a=b:=by
 unfold bU at *
 rw[decide_eq_true_eq]at *
 have:=List.le_antisymm h1 h2;cases a;cases b;congr 1;exact Array.toList_inj.1 this
def g0(l:List ByteArray)(x:ByteArray):List ByteArray:=(l.takeWhile λy=>bU y x)++x::l.dropWhile λy=>bU y x
def zW(l:List ByteArray)(x:ByteArray):(g0 l x).Perm (x::l):=by unfold g0;refine List.perm_middle.trans ?_;rw[List.takeWhile_append_dropWhile]
abbrev nM(l:List ByteArray):Prop:=l.Pairwise λa b=>bU a b=true
def Fj:∀{l:List ByteArray} (x:ByteArray),nM l->nM (g0 l x)
 |[],x,h=>by unfold g0;simp[nM]
 |y::l,x,h=>by
  obtain⟨h1,h2⟩:=List.pairwise_cons.1 h;unfold g0;by_cases hy:bU y x=true
  ·rw[List.takeWhile_cons_of_pos (p:=λy=>bU y x) hy,List.dropWhile_cons_of_pos (p:=λy=>bU y x) hy];refine List.pairwise_cons.2 ⟨λz hz=>?_,Fj x h2⟩;rcases List.mem_cons.1 ((zW l x).mem_iff.1 hz)with rfl|hz;·exact hy
   ·exact h1 z hz
  ·rw[List.takeWhile_cons_of_neg (p:=λy=>bU y x) hy,List.dropWhile_cons_of_neg (p:=λy=>bU y x) hy,List.nil_append];have hxy:bU x y=true:=by have:=Pq x y;rw[Bool.or_eq_true]at this;exact this.resolve_right hy
   refine List.pairwise_cons.2 ⟨λz hz=>?_,h⟩;rcases List.mem_cons.1 hz with rfl|hz;·exact hxy
   ·exact Pr _ _ _ hxy (h1 z hz)
def sh(l:List ByteArray):(dy l).Perm l:=by
 unfold dy;refine((List.mergeSort_perm _ _).map _).trans ?_;rw[List.map_map];refine List.Perm.of_eq ?_;conv=>rhs;rw[<-List.map_id l]
 exact List.map_congr_left λx _=>rfl
def Pt(l:List ByteArray):nM (dy l):=by
 unfold dy nM;rw[List.pairwise_map];refine(List.pairwise_mergeSort ?_ ?_ _).imp ?_
 ·intro a b c h1 h2;rw[decide_eq_true_eq]at *
  exact List.le_trans h1 h2
 ·intro a b;rw[Bool.or_eq_true,decide_eq_true_eq,decide_eq_true_eq];exact List.le_total _ _
 ·intro a b h;exact h
def gv:List ByteArray->List ByteArray->List ByteArray
 |l,[]=>l
 |l,x::xs=>gv (g0 l x) xs
def Fk:∀(xs l:List ByteArray),nM l->nM (gv l xs)/\(gv l xs).Perm (xs++l)
 |[],l,h=>⟨h,List.Perm.refl _⟩
 |x::xs,l,h=>by obtain⟨h1,h2⟩:=Fk xs (g0 l x) (Fj x h);refine⟨h1,h2.trans ?_⟩;exact((zW l x).append_left xs).trans List.perm_middle
def zX(xs:List ByteArray):gv [] xs=dy xs:=by obtain⟨h1,h2⟩:=Fk xs [] List.Pairwise.nil;rw[List.append_nil]at h2;exact List.Perm.eq_of_pairwise (λa b _ _=>Ps a b) h1 (Pt xs) (h2.trans (sh xs).symm)
def Fl:∀(xs l:List ByteArray) (x:ByteArray),gv l (xs++[x])=g0 (gv l xs) x
 |[],l,x=>rfl
 |y::xs,l,x=>Fl xs (g0 l y) x
def Pu{xs:List ByteArray}{x:ByteArray}:x∈gv [] xs↔x∈xs:=by rw[zX];exact(sh xs).mem_iff
def zY(xs:List ByteArray):(gv [] xs).length=xs.length:=by rw[zX];exact(sh xs).length_eq
def fJ(xs:List ByteArray):ByteArray:=⟨(Lib.join (xs.map (·.data.toList)) [32]).toArray⟩
def nN(nm:Int×Int×List Int->List Nat->ByteArray)(l:List (Int×Int×List Int)):ByteArray :=
 match l.find? gZ with
 |none=>ByteArray.empty
 |some x=>fJ (dy ((dK x).map (nm x)))
def Fm{m:Int×Int×List Int}(h:iz (fh m)=true):(fh m).1=m.1/\(aT m&&!decide (bj m=[]))=true:=by
 unfold fh at *
 split;·rename_i hc;exact⟨rfl,hc⟩
 ·rename_i hc;rw[if_neg hc]at h;cases(show(false:Bool)=true from h)
def Fn{m:Int×Int×List Int}(h:(c8 m).2=true):(dC (fh m)).2=true/\(∀x∈(dC (fh m)).1,iA x=true)/\(c8 m).1=(dC (fh m)).1:=by
 unfold c8 at *
 split;·rename_i hc;rw[Bool.and_eq_true,List.all_eq_true]at hc;exact⟨hc.1,hc.2,rfl⟩
 ·rename_i hc;rw[if_neg hc]at h;cases h
def Fo{m:Int×Int×List Int}(h:(c8 m).2=true):dq m.1 (c8 m).1/\(c8 m).1.length<=100:=by obtain⟨h1,h2,h3⟩:=Fn h;obtain⟨k1,k2,k3,k4⟩:=zH h1;rw[h3,<-(Fm k1).1];exact⟨k2,k4⟩
def bI.sizes{n:Int}{x:Int×Int×List Int}(h:bI n x):aT x=true:=by obtain⟨⟨d,hR⟩,_⟩:=h;exact hR.sizes
def bI.ok{n:Int}{x:Int×Int×List Int}(h:bI n x):(aT x&&!decide (bj x=[]))=true:=by obtain⟨⟨d,hR⟩,_⟩:=h;exact hR.ok
def pC{n:Int}{x:Int×Int×List Int}(h:bI n x){k:Nat}{out:List (List Nat)}(hC:gH x k out){p:List Nat}(hp:p∈out):p.Nodup/\(∀y∈p,y<x.1.toNat)/\p.length<=5/\0<p.length/\nL x p:=by obtain⟨i,hi,rfl⟩:=hC.src p hp;obtain⟨h1,_⟩:=pi hi;have:=h1.le;have hb:=h.bound;have:=h.2.1;exact⟨h1.nd,h1.lt,by omega,h1.pos,uZ hi⟩
def Fp{c:UInt8}{n:Nat}(h:n<=5):(bN c++bW (n:Int)).size<=22:=by
 have hp1:dI (n:Int)=true:=by unfold dI;rw[dt (by omega),dt (by omega)];rfl
 have hz:=uY hp1;have:(bN c).size=1:=rfl;rw[ByteArray.size_append];omega
def Pv{out:List (List Nat)}(h:∀p∈out,p.length<=5):out.flatten.length<=5*out.length:=by
 induction out with
 |nil=>simp
 |cons p out ih =>have h1:=h p List.mem_cons_self;have h2:=ih λq hq=>h q (List.mem_cons_of_mem _ hq);rw[List.flatten_cons,List.length_append,List.length_cons];omega
def gw(A:Nat->Nat->Int)(L:List Nat)(num den:List Int)(x k:Nat):Prop:=(A x k=0/\A k x=0)\/(k∈L/\num.getD x 0*A x k*den.getD k 0=-(num.getD k 0*A k x*den.getD x 0))
structure fK(n:Nat)(A:Nat->Nat->Int)(s:Nat)(num0:List Int)(L:List Nat)(num den:List Int):Prop where
 nl:num.length=n
 dl:den.length=n
 nd:L.Nodup
 lt:∀x∈L,x<n
 hd:L.getD 0 0=s
 pos:0<L.length
 out:∀x,x<n->x∉L->num.getD x 0=num0.getD x 0
 new:∀x∈L,num0.getD x 0=0
 frac:∃Q:Int,0<Q/\Q<=99 ^ (L.length-1)/\∀x∈L,0<num.getD x 0/\num.getD x 0<=99 ^ (L.length-1)/\0<den.getD x 0/\den.getD x 0∣Q/\Int.gcd (num.getD x 0) (den.getD x 0)=1
 good:∀e,cY n A e->∀x∈L,num.getD x 0*e s=den.getD x 0*e x
def fK.le{n:Nat}{A:Nat->Nat->Int}{s:Nat}{num0 num den:List Int}{L:List Nat}(h:fK n A s num0 L num den):L.length<=n:=ph n L h.nd h.lt
def u4(n:Nat)(A:Nat->Nat->Int)(num0:List Int):Prop:=∀y,y<n->num0.getD y 0≠0->∀k,k<n->(A y k≠0\/A k y≠0)->num0.getD k 0≠0
def Pw{a b c d:Int}(ha:0<a)(hb:0<b)(hc:0<c)(hd:0<d)(h1:Int.gcd a b=1)(h2:Int.gcd c d=1)(h:a*d=c*b):a=c/\b=d:=by
 obtain⟨a,rfl⟩:=Int.eq_ofNat_of_zero_le (Int.le_of_lt ha);obtain⟨b,rfl⟩:=Int.eq_ofNat_of_zero_le (Int.le_of_lt hb);obtain⟨c,rfl⟩:=Int.eq_ofNat_of_zero_le (Int.le_of_lt hc);obtain⟨d,rfl⟩:=Int.eq_ofNat_of_zero_le (Int.le_of_lt hd);have h3:a*d=c*b:=by exact_mod_cast h
 have e1:a∣c:=Nat.Coprime.dvd_of_dvd_mul_right (k:=a) (n:=b) h1 ⟨d,h3.symm⟩;have e2:c∣a:=Nat.Coprime.dvd_of_dvd_mul_right (k:=c) (n:=d) h2 ⟨b,h3⟩;have e3:=Nat.dvd_antisymm e1 e2;subst e3;exact⟨rfl,by rw[Nat.eq_of_mul_eq_mul_left (by omega) h3]⟩
section
variable {n : Nat} {A : Nat → Nat → Int} {s p j : Nat} {num0 num den : List Int} {L : List Nat}
structure u5(A:Nat->Nat->Int)(x j:Nat)(num den:List Int)(a0 b0 g a b:Int):Prop where
 ea0:a0=num.getD x 0*aI (A x j)
 eb0:b0=den.getD x 0*aI (A j x)
 eg:g=(Int.gcd a0 b0:Int)
 gp:0<g
 a0p:0<a0
 b0p:0<b0
 ea:a*g=a0
 eb:b*g=b0
 ap:0<a
 bp:0<b
 co:Int.gcd a b=1
def Px(x j:Nat)(hx:0<num.getD x 0)(hd:0<den.getD x 0)(h1:A x j≠0)(h2:A j x≠0) :
  u5 A x j num den (num.getD x 0*aI (A x j)) (den.getD x 0*aI (A j x)) (Int.gcd (num.getD x 0*aI (A x j)) (den.getD x 0*aI (A j x)))
   (Int.tdiv (num.getD x 0*aI (A x j)) (Int.gcd (num.getD x 0*aI (A x j)) (den.getD x 0*aI (A j x)))) (Int.tdiv (den.getD x 0*aI (A j x)) (Int.gcd (num.getD x 0*aI (A x j)) (den.getD x 0*aI (A j x)))):=by
 have a0p:0<num.getD x 0*aI (A x j):=Int.mul_pos hx (pk h1);have b0p:0<den.getD x 0*aI (A j x):=Int.mul_pos hd (pk h2);generalize ha0:num.getD x 0*aI (A x j)=a0 at a0p ⊢;generalize hb0:den.getD x 0*aI (A j x)=b0 at b0p ⊢;have gp:0<(Int.gcd a0 b0:Int):=by have:=Int.gcd_pos_of_ne_zero_left b0 (show a0≠0 by omega);omega
 have ea:Int.tdiv a0 (Int.gcd a0 b0)*(Int.gcd a0 b0:Int)=a0:=Int.tdiv_mul_cancel (Int.gcd_dvd_left ..);have eb:Int.tdiv b0 (Int.gcd a0 b0)*(Int.gcd a0 b0:Int)=b0:=Int.tdiv_mul_cancel (Int.gcd_dvd_right ..);have pos:∀c d:Int,0<d->0<c*d->0<c:=λc d hd h=>by
  rcases Int.lt_or_le 0 c with h'|h';·exact h'
  ·have:=Int.mul_nonpos_of_nonpos_of_nonneg h' (Int.le_of_lt hd);omega
 refine⟨ha0.symm,hb0.symm,rfl,gp,a0p,b0p,ea,eb,pos _ _ gp (by rw[ea];exact a0p),pos _ _ gp (by rw[eb];exact b0p), ?_⟩;have h3:Int.gcd (Int.tdiv a0 (Int.gcd a0 b0)*(Int.gcd a0 b0:Int)) (Int.tdiv b0 (Int.gcd a0 b0)*(Int.gcd a0 b0:Int))=Int.gcd a0 b0:=by rw[ea,eb]
 rw[Int.gcd_mul_right,Int.natAbs_natCast]at h3;have gp':0<Int.gcd a0 b0:=by omega
 exact Nat.eq_of_mul_eq_mul_right gp' (by rw[h3,Nat.one_mul])
def zZ(A:Nat->Nat->Int)(x j:Nat):Prop:=∃u:Int,(u=1\/u=-1)/\A x j=u*aI (A x j)/\A j x=-(u*aI (A j x))
def Py{x j:Nat}(h1:A x j≠0)(h2:A j x≠0)(h:(0<A x j)↔(0 < -A j x)):zZ A x j:=by
 unfold zZ aI;by_cases hp:0<A x j;·have:=h.1 hp;exact⟨1,Or.inl rfl,by omega,by omega⟩
 ·have:¬ 0 < -A j x:=λhc=>hp (h.2 hc);exact⟨-1,Or.inr rfl,by omega,by omega⟩
def Fq{x:Nat}{a0 b0 g a b:Int}(st:u5 A x j num den a0 b0 g a b)(hx:x<n)(hj:j<n){e:Nat->Int}(he:cY n A e)(hg:num.getD x 0*e s=den.getD x 0*e x):a*e s=b*e j:=by
 have h1:=Ek (he x hx).1 (he j hj).1 ((he x hx).2 j hj);have h2:=st.ea0;have h3:=st.eb0;have h4:=st.ea;have h5:=st.eb;have h6:g*(a*e s)=g*(b*e j):=by grind
 exact Int.eq_of_mul_eq_mul_left (by have:=st.gp;omega) h6
def Fr{x:Nat}{a0 b0 g a b:Int}(st:u5 A x j num den a0 b0 g a b)(sk:zZ A x j):num.getD x 0*A x j*b=-(a*A j x*den.getD x 0):=by obtain⟨u,hu,h1,h2⟩:=sk;have h3:=st.ea0;have h4:=st.eb0;have h5:=st.ea;have h6:=st.eb;rw[h1,h2];grind
def fK.grow{a0 b0 g a b:Int}(h:fK n A s num0 L num den)(hp:p<L.length)(hj:j<n)(hz:num.getD j 0=0)(st:u5 A (L.getD p 0) j num den a0 b0 g a b)(hb:∀x y,aI (A x y)<=99) :
  fK n A s num0 (L++[j]) (num.set j a) (den.set j b)/\j∉L:=by
 obtain⟨Q,q1,q2,q3⟩:=h.frac;have hxm:L.getD p 0∈L:=aX 0 hp;have hnj:j∉L:=λhc=>by have:=(q3 j hc).1;omega
 have hxj:∀x∈L,j≠x:=λx hx e=>hnj (e▸hx);have hnl:j<num.length:=by rw[h.nl];exact hj
 have hdl:j<den.length:=by rw[h.dl];exact hj
 have e1:∀x∈L,(num.set j a).getD x 0=num.getD x 0:=λx hx=>by rw[cL hnl,if_neg (hxj x hx)]
 have e2:∀x∈L,(den.set j b).getD x 0=den.getD x 0:=λx hx=>by rw[cL hdl,if_neg (hxj x hx)]
 have e3:(num.set j a).getD j 0=a:=by rw[cL hnl,if_pos rfl]
 have e4:(den.set j b).getD j 0=b:=by rw[cL hdl,if_pos rfl]
 have hlen:(L++[j]).length-1=L.length-1+1:=by have:=h.pos;simp;omega
 have hpp:(0:Int)<=99 ^ (L.length-1):=Int.pow_nonneg (by omega);refine⟨⟨by rw[List.length_set,h.nl],by rw[List.length_set,h.dl], ?_, ?_,(iy h.pos).trans h.hd,by simp, ?_, ?_, ?_, ?_⟩,hnj⟩;·exact List.nodup_append.2 ⟨h.nd,by simp,λa ha' b hb e=>by rw[List.mem_singleton]at hb;subst hb;subst e;exact hnj ha'⟩
 ·intro x hx;rcases List.mem_append.1 hx with hx|hx;·exact h.lt x hx
  ·rw[List.mem_singleton]at hx;omega
 ·intro x hx hni;rw[List.mem_append,List.mem_singleton]at hni;rw[cL hnl,if_neg (λe=>hni (Or.inr e.symm))];exact h.out x hx (λhc=>hni (Or.inl hc))
 ·intro x hx;rcases List.mem_append.1 hx with hx|hx;·exact h.new x hx
  ·rw[List.mem_singleton]at hx;subst hx;rw[<-h.out x hj hnj];exact hz
 ·obtain⟨c1,c2,c3,c4,c5⟩:=q3 _ hxm;have ga:a<=a0:=by have:=Int.mul_le_mul_of_nonneg_left (show(1:Int)<=g by have:=st.gp;omega) (Int.le_of_lt st.ap);have:=st.ea;omega
  have hq1:0<aI (A j (L.getD p 0)):=by
   have h1:=st.b0p;rw[st.eb0]at h1;rcases Int.lt_or_le 0 (aI (A j (L.getD p 0)))with h'|h';·exact h'
   ·have:=Int.mul_nonpos_of_nonneg_of_nonpos (Int.le_of_lt c3) h';omega
  have hp1:0<=aI (A (L.getD p 0) j):=by unfold aI;omega
  refine⟨Q*aI (A j (L.getD p 0)),Int.mul_pos q1 hq1, ?_, ?_⟩;·rw[hlen,Int.pow_succ];exact Int.mul_le_mul q2 (hb _ _) (by omega) hpp
  ·intro x hx;rcases List.mem_append.1 hx with hx|hx;·rw[e1 x hx,e2 x hx];obtain⟨d1,d2,d3,d4,d5⟩:=q3 x hx;refine⟨d1, ?_,d3,Int.dvd_trans d4 ⟨_,rfl⟩,d5⟩;rw[hlen,Int.pow_succ];have:=Int.mul_le_mul_of_nonneg_left (show(1:Int)<=99 by omega) hpp;omega
   ·rw[List.mem_singleton]at hx;subst hx;rw[e3,e4];refine⟨st.ap, ?_,st.bp, ?_,st.co⟩
    ·rw[hlen,Int.pow_succ];have:a0<=99 ^ (L.length-1)*99:=by rw[st.ea0];exact Int.mul_le_mul c2 (hb _ _) hp1 hpp
     omega
    ·have h1:b∣b0:=⟨g,st.eb.symm⟩;have h2:b0∣Q*aI (A x (L.getD p 0)):=by rw[st.eb0];exact Int.mul_dvd_mul c4 (Int.dvd_refl _)
     exact Int.dvd_trans h1 h2
 ·intro e he x hx;rcases List.mem_append.1 hx with hx|hx;·rw[e1 x hx,e2 x hx];exact h.good e he x hx
  ·rw[List.mem_singleton]at hx;subst hx;rw[e3,e4];exact Fq st (h.lt _ hxm) hj he (h.good e he _ hxm)
def gw.grow{x k:Nat}{a b:Int}(hL:∀x∈L,j≠x)(hnl:j<num.length)(hdl:j<den.length)(hx:x∈L)(h:gw A L num den x k):gw A (L++[j]) (num.set j a) (den.set j b) x k:=by
 rcases h with h|⟨h1,h2⟩;·exact Or.inl h
 ·refine Or.inr ⟨List.mem_append_left _ h1, ?_⟩;rw[cL hnl,if_neg (hL x hx),cL hdl,if_neg (hL k h1),cL hnl,if_neg (hL k h1),cL hdl,if_neg (hL x hx)];exact h2
end
structure pD(n:Nat)(A:Nat->Nat->Int)(num out:List Int):Prop where
 nl:num.length=n
 ol:out.length=n
 closed:u4 n A num
 done:∀j,j<n->num.getD j 0≠0->0<out.getD j 0/\(∀k,k<n->out.getD j 0*A j k=-(out.getD k 0*A k j)) /\
  ∃L:List Nat,(∀k∈L,k<n/\num.getD k 0≠0)/\cu (L.map λk=>out.getD k 0)=1/\∀e,cY n A e->∀k∈L,out.getD j 0*e k=out.getD k 0*e j
section
variable {n : Nat} {A : Nat → Nat → Int} {s : Nat} {num0 num den out0 out2 out3 : List Int} {L : List Nat} {com g : Int}
def pD.piece(h:pD n A num0 out0)(f:fK n A s num0 L num den)(he:∀x∈L,∀k,k<n->gw A L num den x k)(hc:0<com)(hg:0<g)
  (h2:∀x∈L,out2.getD x 0*den.getD x 0=com*num.getD x 0) (hgl:g=((cu (L.map λx=>out2.getD x 0):Nat):Int))
  (h3:∀x∈L,out3.getD x 0*g=out2.getD x 0) (ho:∀x,x<n->x∉L->out3.getD x 0=out0.getD x 0) (hl:out3.length=n) :
  pD n A num out3/\num.getD s 0≠0/\∀x,x<n->num0.getD x 0≠0->num.getD x 0≠0:=by
 obtain⟨Q,q1,q2,q3⟩:=f.frac;have hpos:∀x∈L,0<num.getD x 0/\0<den.getD x 0:=λx hx=>⟨(q3 x hx).1,(q3 x hx).2.2.1⟩;have hk:∀x∈L,out3.getD x 0*g*den.getD x 0=com*num.getD x 0:=λx hx=>by rw[h3 x hx];exact h2 x hx
 have hop:∀x∈L,0<out3.getD x 0:=λx hx=>by
  have h4:=Int.mul_pos hc (hpos x hx).1;rw[<-hk x hx]at h4;rcases Int.lt_or_le 0 (out3.getD x 0)with h'|h';·exact h'
  ·have h5:=Int.mul_nonpos_of_nonpos_of_nonneg h' (Int.le_of_lt hg);have h6:=Int.mul_nonpos_of_nonpos_of_nonneg h5 (Int.le_of_lt (hpos x hx).2);omega
 have hns:num.getD s 0≠0:=by have:=(hpos s (by rw[<-f.hd];exact aX 0 f.pos)).1;omega
 have old:∀x,x<n->num0.getD x 0≠0->x∉L:=λx hx h0 hc=>h0 (f.new x hc);refine⟨⟨f.nl,hl, ?_, ?_⟩,hns,λx hx h0=>by rw[f.out x hx (old x hx h0)];exact h0⟩
 ·intro y hy h1 k hk' ha;by_cases hm:y∈L
  ·rcases he y hm k hk' with hz|hz;·omega
   ·have:=(hpos k hz.1).1;omega
  ·rw[f.out y hy hm]at h1;have h4:=h.closed y hy h1 k hk' ha;rw[f.out k hk' (old k hk' h4)];exact h4
 ·intro j hj h1;by_cases hm:j∈L
  ·refine⟨hop j hm, ?_,L,λk hk'=>⟨f.lt k hk',by have:=(hpos k hk').1;omega⟩, ?_, ?_⟩
   ·intro k hk';rcases he j hm k hk' with⟨z1,z2⟩|⟨z1,z2⟩;·rw[z1,z2];simp
    ·have e1:=hk j hm;have e2:=hk k z1;have e3:(g*den.getD j 0*den.getD k 0)*(out3.getD j 0*A j k)=(g*den.getD j 0*den.getD k 0)*(-(out3.getD k 0*A k j)):=by grind
     have e4:=Int.mul_pos (Int.mul_pos hg (hpos j hm).2) (hpos k z1).2;exact Int.eq_of_mul_eq_mul_left (by omega) e3
   ·have e1:L.map (λx=>g*out3.getD x 0)=L.map (λx=>out2.getD x 0):=List.map_congr_left (λx hx=>by rw[Int.mul_comm];exact h3 x hx);have e2:=uH g (L.map (λx=>out3.getD x 0));rw[List.map_map]at e2;have e3:cu (L.map (λx=>out2.getD x 0))=g.natAbs*cu (L.map (λx=>out3.getD x 0)):=by rw[<-e1];exact e2
    have e5:cu (L.map (λx=>out2.getD x 0))=g.natAbs:=by have:=congrArg Int.natAbs hgl;simpa using this.symm
    rw[e5]at e3;exact Nat.eq_of_mul_eq_mul_left (show 0<g.natAbs by omega) (by rw[Nat.mul_one];exact e3.symm)
   ·intro e hge k hkL;have key:∀x∈L,out3.getD x 0*g*e s=com*e x:=by
     intro x hx;have e1:=hk x hx;have e2:=f.good e hge x hx;have e3:den.getD x 0*(out3.getD x 0*g*e s)=den.getD x 0*(com*e x):=by grind
     exact Int.eq_of_mul_eq_mul_left (by have:=(hpos x hx).2;omega) e3
    have e1:=key j hm;have e2:=key k hkL;have hs:0<e s:=(hge s (by rw[<-f.hd];exact f.lt _ (aX 0 f.pos))).1;have e3:(g*e s)*(out3.getD j 0*e k)=(g*e s)*(out3.getD k 0*e j):=by grind
    have e4:=Int.mul_pos hg hs;exact Int.eq_of_mul_eq_mul_left (by omega) e3
  ·rw[f.out j hj hm]at h1;obtain⟨a1,a2,L',a3,a4,a5⟩:=h.done j hj h1;rw[ho j hj hm];have hL':∀k∈L',k∉L:=λk hk'=>old k (a3 k hk').1 (a3 k hk').2;refine⟨a1, ?_,L',λk hk'=>⟨(a3 k hk').1,by rw[f.out k (a3 k hk').1 (hL' k hk')];exact(a3 k hk').2⟩, ?_, ?_⟩
   ·intro k hk';by_cases hkL:k∈L
    ·by_cases z1:A j k=0
     ·by_cases z2:A k j=0;·rw[z1,z2];simp
      ·exact absurd (f.new k hkL) (h.closed j hj h1 k hk' (Or.inr z2))
     ·exact absurd (f.new k hkL) (h.closed j hj h1 k hk' (Or.inl z1))
    ·rw[ho k hk' hkL];exact a2 k hk'
   ·rw[show L'.map (λk=>out3.getD k 0)=L'.map (λk=>out0.getD k 0)from List.map_congr_left (λk hk'=>ho k (a3 k hk').1 (hL' k hk'))];exact a4
   ·intro e hge k hk';rw[ho k (a3 k hk').1 (hL' k hk')];exact a5 e hge k hk'
end
def pD.fac{m:Int×Int×List Int}{num out:List Int}(h:pD m.1.toNat (ae m) num out)(hp:∀x,x<m.1.toNat->num.getD x 0≠0):bj m=out:=by refine zq h.ol (λi hi=>⟨(h.done i hi (hp i hi)).1,(h.done i hi (hp i hi)).2.1⟩) (λi hi=>?_);obtain⟨L,a1,a2,a3⟩:=(h.done i hi (hp i hi)).2.2;exact⟨L,λk hk=>(a1 k hk).1,a2,a3⟩
def Pz{c d Q:Int}(hc:0<c)(hd:0<d)(h1:c∣Q)(h2:d∣Q)(hQ:0<Q) :
  0<(Int.gcd c d:Int)/\0<Int.tdiv c (Int.gcd c d)/\Int.tdiv c (Int.gcd c d)<=c/\0<Int.tdiv c (Int.gcd c d)*d/\Int.tdiv c (Int.gcd c d)*d∣Q/\c∣Int.tdiv c (Int.gcd c d)*d/\d∣Int.tdiv c (Int.gcd c d)*d:=by
 obtain⟨c,rfl⟩:=Int.eq_ofNat_of_zero_le (Int.le_of_lt hc);obtain⟨d,rfl⟩:=Int.eq_ofNat_of_zero_le (Int.le_of_lt hd);obtain⟨Q,rfl⟩:=Int.eq_ofNat_of_zero_le (Int.le_of_lt hQ);have e:Int.tdiv (c:Int) (Int.gcd (c:Int) (d:Int))=((c / Nat.gcd c d:Nat):Int):=rfl;rw[e];have hg:0<Nat.gcd c d:=Nat.gcd_pos_of_pos_left d (by omega);have h3:c / Nat.gcd c d*d=Nat.lcm c d:=by rw[Nat.lcm,Nat.mul_comm,Nat.mul_comm c d,Nat.mul_div_assoc _ (Nat.gcd_dvd_left c d)]
 have h4:0<c / Nat.gcd c d:=Nat.div_pos (Nat.gcd_le_left d (by omega)) hg;have h5:c / Nat.gcd c d<=c:=Nat.div_le_self _ _;rw[<-Int.natCast_mul,h3];have h6:0<Nat.lcm c d:=Nat.lcm_pos (by omega) (by omega);refine⟨by show(0:Int)<((Nat.gcd c d:Nat):Int);omega,by omega,by omega,by omega, ?_, ?_, ?_⟩;·exact Int.natCast_dvd_natCast.2 (Nat.lcm_dvd (Int.natCast_dvd_natCast.1 h1) (Int.natCast_dvd_natCast.1 h2))
 ·exact Int.natCast_dvd_natCast.2 (Nat.dvd_lcm_left c d)
 ·exact Int.natCast_dvd_natCast.2 (Nat.dvd_lcm_right c d)
end Go.Fw
namespace Go.Fw
open Go.Proofs Go.Sort
def z6(a b:Int×Int×List Int):ltOf (λa b:Int×Int×List Int=>ix a.2.2 b.2.2) a b=bT a.2.2 b.2.2:=uG _ _
def z7:SWO (ltOf λa b:Int×Int×List Int=>ix a.2.2 b.2.2):=⟨λx=>by rw[z6];exact uS _,λx y z h1 h2=>by
  rw[z6]at *
  exact po h1 h2,λx y z h1 h2=>by
  rw[z6]at *
  have h3:=uX y.2.2 x.2.2 x.2.2;have:dB z.2.2 x.2.2=true:=uX z.2.2 y.2.2 x.2.2 (by simp only[dB,h2];rfl) (by simp only[dB,h1];rfl);simpa only[dB,Bool.not_eq_true']using this⟩
def kT(l:List (Int×Int×List Int)):List (Int×Int×List Int):=iw (0,(0,[])) (λa b:Int×Int×List Int=>ix a.2.2 b.2.2) l
def Fs(l:List (Int×Int×List Int)):(kT l).Perm l:=Oi z7 l
def PA(l:List (Int×Int×List Int)):gn ((kT l).map (·.2.2)):=by
 have h:=Oj (d:=((0,(0,[])):Int×Int×List Int)) z7 l;have hl:(kT l).length=l.length:=(Fs l).length_eq;unfold gn;rw[List.pairwise_iff_getElem];intro i j hi hj hij;rw[List.length_map]at hi hj;have:=h i j hij (by omega);simp only[List.getElem_map];simp only[dB,Bool.not_eq_true'];have e:∀k (hk:k<(kT l).length),(iw (0,(0,[])) (λa b:Int×Int×List Int=>ix a.2.2 b.2.2) l).getD k (0,(0,[]))=(kT l)[k]:=λk hk=>by rw[List.getD_eq_getElem?_getD];show((kT l)[k]?).getD _=_;rw[List.getElem?_eq_getElem hk];rfl
 rw[e i hi,e j hj]at this;cases hq:bT (kT l)[j].2.2 (kT l)[i].2.2;·rfl
 ·rw[<-uG]at hq;exact(this (of_decide_eq_true hq)).elim
end Go.Fw
namespace Go.Fw
def cH(p:UInt8->Bool):List UInt8->List (List UInt8)
 |[]=>[[]]
 |b::l=>if p b=true then[]::cH p l else match cH p l with
  |h::t=>(b::h)::t
  |[]=>[[b]]
def pE(p:UInt8->Bool):∀l,cH p l≠[]
 |[]=>by simp[cH]
 |b::l=>by
  rw[cH];split;·simp
  ·split<;>simp
def lZ(a:List UInt8):List (List UInt8)->List (List UInt8)
 |h::t=>(a++h)::t
 |[]=>[a]
def PB{q:List (List UInt8)}(h:q≠[]):lZ [] q=q:=by
 cases q with
 |nil=>exact absurd rfl h
 |cons x xs=>rfl
def PC{p:UInt8->Bool}{b:UInt8}(h:p b=true)(a l:List UInt8):lZ a (cH p (b::l))=a::cH p l:=by rw[cH,if_pos h];simp[lZ]
def kU(l:List UInt8):ByteArray:=⟨l.toArray⟩
def fk(s:ByteArray):List ByteArray:=(cH (λb=>b == 32) s.data.toList).map kU
def iC(c:UInt8):Bool:=decide (48<=c.toNat)&&decide (c.toNat<=57)
def l0(a:Nat)(c:UInt8):Nat:=10*a+(c.toNat-48)
def eI(a:Nat)(l:List UInt8):Nat:=l.foldl l0 a
def so(a:Nat):eI a []=a:=rfl
def sq(a:Nat)(c:UInt8)(l:List UInt8):eI a (c::l)=eI (l0 a c) l:=by unfold eI;rw[List.foldl_cons]
def PJ(l m:List UInt8)(a:Nat):eI a (l++m)=eI (eI a l) m:=by unfold eI;rw[List.foldl_append]
def sr(a:Nat)(c:UInt8):l0 a c=10*a+(c.toNat-48):=by unfold l0;rfl
def Ab(u:Nat):(Lib.decDigits u).all iC=true:=by
 induction u using Nat.strongRecOn with
 |_ u ih =>
  have key:∀t,t<10->iC (UInt8.ofNat (48+t))=true:=λt ht=>by
   have:(UInt8.ofNat (48+t)).toNat=48+t:=by rw[UInt8.toNat_ofNat'];omega
   simp only[iC,this,Bool.and_eq_true,decide_eq_true_eq];omega
  rw[Lib.decDigits];split;·rename_i h;rw[List.all_cons,key u h];rfl
  ·rename_i h;rw[List.all_append,ih (u / 10) (by omega),List.all_cons,key (u%10) (by omega)];rfl
def PN(u:Nat):eI 0 (Lib.decDigits u)=u:=by
 induction u using Nat.strongRecOn with
 |_ u ih =>
  have key:∀t,t<10->(UInt8.ofNat (48+t)).toNat-48=t:=λt ht=>by
   have:(UInt8.ofNat (48+t)).toNat=48+t:=by rw[UInt8.toNat_ofNat'];omega
   omega
  rw[Lib.decDigits];split;·rename_i h;rw[sq,sr,key u h,so];omega
  ·rename_i h;rw[PJ,ih (u / 10) (by omega),sq,sr,key (u%10) (by omega),so];omega
def Fz(u:Nat):Lib.decDigits u≠[]:=by rw[Lib.decDigits];split<;>simp
def FA:∀(k u:Nat),u<10 ^ k->1<=k->(Lib.decDigits u).length<=k
 |0,_,_,h=>by omega
 |k+1,u,h,_=>by
  rw[Lib.decDigits];split;·simp
  ·rename_i hs;have hk:1<=k:=by
    rcases Nat.eq_zero_or_pos k with h'|h';·subst h';omega
    ·exact h'
   have:=FA k (u / 10) (by rw[Nat.div_lt_iff_lt_mul (by omega),<-Nat.pow_succ];exact h) hk;simp;omega
def Ac{p:UInt8->Bool}:∀(x l:List UInt8),(∀b∈x,p b=false)->cH p (x++l)=lZ x (cH p l)
 |[],l,_=>(PB (pE p l)).symm
 |b::x,l,h=>by
  have ih:=Ac x l λc hc=>h c (List.mem_cons_of_mem _ hc);rw[List.cons_append,cH,if_neg (by rw[h b (List.mem_cons_self ..)];simp),ih];have hne:=pE p l;cases hq:cH p l with
  |nil=>exact absurd hq hne
  |cons y ys=>rfl
def Ad:∀(xs:List (List UInt8)),xs≠[]->(∀x∈xs,∀b∈x,(b == (32:UInt8))=false)->cH (λb=>b == 32) (Lib.join xs [32])=xs
 |[],h,_=>absurd rfl h
 |[x],_,h=>by rw[Lib.join_one];have:=Ac (p:=λb=>b == 32) x [] (h x (List.mem_cons_self ..));rw[List.append_nil]at this;rw[this];simp[cH,lZ]
 |x::y::ys,_,h=>by
  have ih:=Ad (y::ys) (by simp) λz hz=>h z (List.mem_cons_of_mem _ hz);have e:Lib.join (x::y::ys) [32]=x++(32::Lib.join (y::ys) [32]):=by rw[Lib.join_cons,Lib.join_cons];simp[Lib.joinTail]
  rw[e,Ac _ _ (h x (List.mem_cons_self ..)),PC (by rfl),ih]
def FC(n:Int):∀b∈Lib.itoa n,(b == (32:UInt8))=false:=by
 have key:∀u,∀b∈Lib.decDigits u,(b == (32:UInt8))=false:=λu b hb=>by have:=List.all_eq_true.1 (Ab u) b hb;simp only[iC,Bool.and_eq_true,decide_eq_true_eq]at this;rw[beq_eq_false_iff_ne];intro e;subst e;have:(32:UInt8).toNat=32:=rfl;omega
 intro b hb;unfold Lib.itoa at hb;split at hb
 ·rcases List.mem_cons.1 hb with rfl|hb;·rfl
  ·exact key _ b hb
 ·exact key _ b hb
def fl(l:List UInt8):Nat:=match l with
 |c::_=>if c=45 then 1 else 0
 |[]=>0
def pF(s:ByteArray):Int×Bool :=
  if(s.data.toList.drop (fl s.data.toList)).length=0\/9<(s.data.toList.drop (fl s.data.toList)).length then(0,false)
  else if(s.data.toList.drop (fl s.data.toList)).all iC=true then
    (if fl s.data.toList=1 then -(eI 0 (s.data.toList.drop (fl s.data.toList)):Int)else(eI 0 (s.data.toList.drop (fl s.data.toList)):Int),
     dE (bW (if fl s.data.toList=1 then -(eI 0 (s.data.toList.drop (fl s.data.toList)):Int)else(eI 0 (s.data.toList.drop (fl s.data.toList)):Int))) s)
  else(0,false)
def pG{a b:ByteArray}:dE a b=true↔a=b:=by
 unfold dE;rw[beq_iff_eq,ByteArray.toList_eq,ByteArray.toList_eq];constructor;·intro h;apply ByteArray.ext;exact Array.toList_inj.1 h
 ·intro h;rw[h]
def iD(w:ByteArray):Option Int:=if(pF w).2=true then some (pF w).1 else none
def FD{w:ByteArray}{n:Int}(hin:b7 n (-999999999) 999999999=true)(hw:w=bW n):pF w=(n,true):=by
 rw[eK]at hin;have hd:w.data.toList=Lib.itoa n:=by rw[hw,zO]
 have hu:n.natAbs<10 ^ 9:=by
  have h9':(10:Nat) ^ 9=1000000000:=by decide
  omega
 have hl:=FA 9 n.natAbs hu (by omega);have hne:(Lib.decDigits n.natAbs).length≠0:=λe=>Fz _ (List.length_eq_zero_iff.1 e);have hall:=Ab n.natAbs;have hval:=PN n.natAbs;by_cases hneg:n<0
 ·have e:Lib.itoa n=45::Lib.decDigits n.natAbs:=by unfold Lib.itoa;rw[if_pos hneg]
  have hs:fl w.data.toList=1:=by rw[hd,e];rfl
  have hdr:w.data.toList.drop 1=Lib.decDigits n.natAbs:=by rw[hd,e];rfl
  have hv:-((n.natAbs:Nat):Int)=n:=by omega
  unfold pF;rw[hs,hdr,if_neg (by omega),if_pos hall,if_pos rfl,hval,hv,pG.2 hw.symm]
 ·have e:Lib.itoa n=Lib.decDigits n.natAbs:=by unfold Lib.itoa;rw[if_neg hneg,show n.toNat=n.natAbs by omega]
  have hs:fl w.data.toList=0:=by
   rw[hd,e];unfold fl;split;·rename_i c r hc;rw[hc,List.all_cons,Bool.and_eq_true]at hall;have h1:=hall.1;simp only[iC,Bool.and_eq_true,decide_eq_true_eq]at h1;rw[if_neg];intro nU;subst nU;have:(45:UInt8).toNat=45:=rfl;omega
   ·rfl
  have hdr:w.data.toList.drop 0=Lib.decDigits n.natAbs:=by rw[hd,e];rfl
  have hv:((n.natAbs:Nat):Int)=n:=by omega
  unfold pF;rw[hs,hdr,if_neg (by omega),if_pos hall,if_neg (by omega),hval,hv,pG.2 hw.symm]
def PP{n:Int}(hin:b7 n (-999999999) 999999999=true):iD (bW n)=some n:=by unfold iD;rw[FD hin rfl,if_pos rfl]
def fL(f:ByteArray->Option Int):List ByteArray->Option (List Int)
 |[]=>some []
 |w::ws=>match f w with
  |none=>none
  |some n=>match fL f ws with
   |none=>none
   |some l=>some (n::l)
def u7(s:ByteArray):List Int×Bool:=if dE s ByteArray.empty=true then([],true)else match fL iD (fk s)with
 |none=>([],false)
 |some l=>(l,true)
def PX(n:Int):Lib.itoa n≠[]:=by
 unfold Lib.itoa;split;·simp
 ·exact Fz _
def PY{row:List Int}(h:row≠[]):eG row≠[]:=by
 cases row with
 |nil=>exact absurd rfl h
 |cons x xs =>unfold eG;rw[List.map_cons,Lib.join_cons];have:=PX x;simp[this]
def PZ{row:List Int}(h:row≠[]):fk (eO row)=row.map bW:=by
 have hd:(eO row).data.toList=Lib.join (row.map Lib.itoa) [32]:=by simp[eO,eG]
 unfold fk;rw[hd,Ad (row.map Lib.itoa) (by simpa using h) λx hx=>by obtain⟨n,_,rfl⟩:=List.mem_map.1 hx;exact FC n,List.map_map];rfl
def FM:∀{row:List Int},(∀n∈row,b7 n (-999999999) 999999999=true)->fL iD (row.map bW)=some row
 |[],_=>rfl
 |n::ns,h=>by rw[List.map_cons,fL,PP (h n (List.mem_cons_self ..)),FM λm hm=>h m (List.mem_cons_of_mem _ hm)]
def FN{row:List Int}(h:row≠[])(hr:∀n∈row,b7 n (-999999999) 999999999=true):u7 (eO row)=(row,true):=by unfold u7;rw[if_neg,PZ h,FM hr];intro he;have e:=pG.1 he;have:=congrArg (λb:ByteArray=>b.data.toList) e;simp[eO]at this;exact PY h this
end Go.Fw
namespace Go.Fw
section
variable {J : Type}
namespace dO
def P(a:List Int):Bool:=decide (a.length<1099511627776)
abbrev g(a:List Int):List Int:=a
def Z1{J:Type}(N:Nat)(a:LI)(kn:LI->Option J):Option J :=
 kn a
def Z3{J:Type}(N:Nat)(a:LI)(kn:LI->LI->Option J):Option J :=
 cond (lk N (bF 0 (a.length:Int)&&decide ((a.length:Int)<1099511627776))) (
  kn (List.replicate (a.length:Int).toNat (0:Int)) a) none
def Z6{J:Type}(N:Nat)(a b:LI)(kn:LI->LI->Int->Option J):Option J :=
 kn a b 0
def Z9{J:Type}(N:Nat)(c b:LI)(a:Int)(kn:LI->LI->Int->Option J)(k0:LI->Option J):Option J :=
 cond (lk N (decide (a<(b.length:Int))))
 (
  cond (lk N (ax a b.length)) (
   cond (lk N (ax a c.length)) (
    kn (c.set a.toNat (b.getD a.toNat 0)) b (ah (a+1))) none) none)
 (
  k0 c)
def Z8L{J:Type}(N:Nat)(k0:LI->Option J):Nat->LI->LI->Int->Option J
 |0,_,_,_=>none
 |M+1,a,b,c=>Z9 N a b c (λa b c=>Z8L N k0 M a b c) k0
def Z8 N a b c k0:=(Z8L N k0 N a b c:Option J)
def Z7 N a b c kn:=(Z8 N a b c kn:Option J)
def Z5 N a b kn:=(Z6 N a b (λa b c=>Z7 N a b c kn):Option J)
def Z10{J:Type}(N:Nat)(a:LI)(kr:LI->Option J):Option J :=
 kr a
def Z4 N a b kr:=(Z5 N a b (λa=>Z10 N a kr):Option J)
def Z2 N a kr:=(Z3 N a (λb a=>Z4 N b a kr):Option J)
def Z0 N a kr:=(Z1 N a (λa=>Z2 N a kr):Option J)
def Spec:Prop:=∀ (v0:LI),Ty.bd (.sl 0 (.int .i64)) v0->P v0=true->∃N0,∀N,N0<=N->Z0 N v0 (λv2=>some ((),(v2,())))=some ((),((g v0),()))
def loop{J:Type}(N:Nat)(k0:List Int->Option J)(a:List Int)(ha:a.length<=maxLen):∀(M j:Nat) (out:List Int),out.length=a.length->out.take j=a.take j->j<=a.length->a.length-j<M ->
  Z8L N k0 M out a (j:Int)=k0 a:=by
 intro M;induction M with
 |zero=>intro j out _ _ _ h;omega
 |succ M ih =>
  intro j out ho ht hj hM;simp only[Z8L,Z9];by_cases h:j<a.length;·rw[ct (dt (by omega)),ct (aG h),ct (aG (by omega)),Int.toNat_natCast,aN (by omega)];refine ih (j+1) _ (by simpa using ho) ?_ h (by omega);rw[N2 (by omega),ht,lP 0 h]
  ·rw[cf (df (by omega))];have:j=a.length:=by omega
   subst this;rw[List.take_of_length_le (by omega),List.take_length]at ht;rw[ht]
def ok:Spec:=λa hb hp=>⟨a.length+1,λN hN=>by
 have hl:a.length<1099511627776:=by simpa[P]using hp
 simp only[Z1,Z3,Z6,Z9,Z8,Z7,Z5,Z10,Z4,Z2,Z0];rw[ct (by simp[bF];omega)];exact loop _ _ a hb.1 _ 0 _ (by simp) (by simp) (by omega) (by omega)⟩
end dO
end
end Go.Fw
namespace Go.Fw
def P0(a:List Int)(h:(a.length:Int)<=1048576):dO.P a=true:=by unfold dO.P;exact dt (by omega)
end Go.Fw
namespace Go.Fw
section
variable {J : Type}
namespace fZ
def g(a:List Int)(left:Int):Int:=if ah (left-a.length)<0 then -1 else ah (left-a.length)
def Z0{J:Type}(N:Nat)(a:LI)(b:Int)(kr:Int->Option J):Option J :=
 cond (lk N (decide ((ah (b-(a.length:Int)))<0)))
 (
  kr (-1))
 (
  kr (ah (b-(a.length:Int))))
def Spec:Prop:=∀ (v0:LI) (v1:Int),Ty.bd (.sl 0 (.int .i64)) v0->∃N0,∀N,N0<=N->Z0 N v0 v1 (λv4=>some ((),(v4,())))=some ((),((g v0 v1),()))
def ok:Spec:=λa left ha=>⟨0,λN hN=>by
 simp only[Z0,g];by_cases h:ah (left-a.length)<0;·rw[ct (dt h),if_pos h]
 ·rw[cf (df h),if_neg h]⟩
end fZ
end
end Go.Fw
namespace Go.Fw
def P1(a:List Int)(left:Int)(hb:a.length<=maxLen)(h0:0<=left)(h1:left<=1048576)(h:¬ fZ.g a left<0):(a.length:Int)<=left/\fZ.g a left=left-a.length:=by
 have hw:ah (left-a.length)=left-a.length:=bh (by rw[aS]at hb;omega) (by omega);unfold fZ.g at h ⊢;rw[hw]at h ⊢;by_cases hl:left-(a.length:Int)<0;·rw[if_pos hl]at h;omega
 ·rw[if_neg hl];omega
end Go.Fw
namespace Go.Fw
section
variable {J : Type}
namespace jP
def g(a:Int×Int×List Int)(left:Int):Int:=if fZ.g a.2.2 left<0 then -1 else fZ.g a.2.2 left
def Z0{J:Type}(N:Nat)(a:MT)(b:Int)(kr:Int->Option J):Option J :=
 cond (lk N (decide ((fZ.g a.2.2 b)<0)))
 (
  kr (-1))
 (
  kr (fZ.g a.2.2 b))
def Spec:Prop:=∀ (v0:MT) (v1:Int),Ty.bd (.pair (.int .i64) (.pair (.int .i64) (.sl 0 (.int .i64)))) v0->∃N0,∀N,N0<=N->Z0 N v0 v1 (λv4=>some ((),(v4,())))=some ((),((g v0 v1),()))
def ok:Spec:=λa left ha=>⟨0,λN hN=>by
 simp only[Z0,g];by_cases h:fZ.g a.2.2 left<0;·rw[ct (dt h),if_pos h]
 ·rw[cf (df h),if_neg h]⟩
end jP
namespace f5
def P(a:Int×Int×List Int):Bool:=dO.P a.2.2
abbrev g(a:Int×Int×List Int):Int×Int×List Int:=a
def Z0{J:Type}(N:Nat)(a:MT)(kr:LI->I2 (Option J)):Option J :=
 cond (lk N (dO.P a.2.2)) (
  kr (dO.g a.2.2) a.1 a.2.1) none
def Spec:Prop:=∀ (v0:MT),Ty.bd (.pair (.int .i64) (.pair (.int .i64) (.sl 0 (.int .i64)))) v0->P v0=true->∃N0,∀N,N0<=N->Z0 N v0 (λv2_2 v2_0 v2_1=>some ((),((v2_0,(v2_1,v2_2)),())))=some ((),((g v0),()))
def ok:Spec:=λa hb hp=>⟨0,λN hN=>by simp only[Z0];exact ct (show dO.P a.2.2=true from hp)⟩
end f5
end
end Go.Fw
namespace Go.Fw
def P2(a:Int×Int×List Int)(hb:a.2.2.length<=maxLen)(h:¬ jP.g a 1048576<0):f5.P a=true/\a.2.2.length<=1048576:=by
 have h':¬ fZ.g a.2.2 1048576<0:=by
  unfold jP.g at h;by_cases e:fZ.g a.2.2 1048576<0;·rw[if_pos e]at h;omega
  ·exact e
 have:=(P1 a.2.2 1048576 hb (by omega) (by omega) h').1;exact⟨P0 _ this,by omega⟩
end Go.Fw
