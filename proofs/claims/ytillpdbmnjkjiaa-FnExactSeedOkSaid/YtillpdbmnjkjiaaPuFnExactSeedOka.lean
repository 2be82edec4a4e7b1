/- The plain part: what the functions compute, in lists and numbers. Nothing is assumed. -/
import Derived.Test.YtillpdbmnjkjiaaFwd
noncomputable section
set_option linter.defProp false
set_option linter.unusedVariables false
namespace Go.Fw
def fj:List Int->List Int->Bool
 |[],[]=>false
 |[],_::_=>true
 |_::_,[]=>false
 |x::xs,y::ys=>if x=y then fj xs ys else decide (x<y)
def gD:List Int->List Int->Int
 |[],[]=>0
 |[],_::_=>-1
 |_::_,[]=>1
 |x::xs,y::ys=>if x=y then gD xs ys else if x<y then -1 else 1
def ve:∀a b:List Int,decide (gD a b<=0)=!(fj b a)
 |[],[]=>rfl
 |[],_::_=>rfl
 |_::_,[]=>rfl
 |x::xs,y::ys=>by
  rw[gD,fj];by_cases h:x=y;·rw[if_pos h,if_pos h.symm,ve xs ys]
  ·rw[if_neg h,if_neg (show ¬ y=x from λe=>h e.symm)];by_cases h2:x<y;·rw[if_pos h2,df (show ¬ y<x by omega)];rfl
   ·rw[if_neg h2,dt (show y<x by omega)];rfl
def bV(n lo hi:Int):Bool:=decide (lo<=n)&&decide (n<=hi)
def jD(vars:Int)(e:List Int):Bool:=decide ((e.length:Int)=vars)&&e.all λx=>bV x (-20) 20
def lh(c:Int):Bool:=!(decide (c=0))&&bV c (-1000000) 1000000
def nr(l:List (List Int×Int)):Nat->Option (List Int)
 |0=>none
 |j+1=>some (l.getD j ([],0)).1
def rr:Option (List Int)->List Int->Bool
 |none,_=>true
 |some p,e=>fj e p
def gE(vars:Int):List (List Int×Int)->Option (List Int)->Bool
 |[],_=>true
 |t::ts,p=>jD vars t.1&&(lh t.2&&(rr p t.1&&gE vars ts (some t.1)))
def ns(f:Int×List (List Int×Int)):Bool:=bV f.1 1 8&&(decide (f.2.length<=600)&&gE f.1 f.2 none)
end Go.Fw
namespace Go.Fw
section
variable {α : Type} {n j : Nat} {F G : Nat → α}
def BB{l:List α}(d:α)(h:l.length=n):(List.range n).map (λi=>l.getD i d)=l:=by
 apply List.ext_getElem?;intro i;by_cases hi:i<n;·rw[List.getElem?_map,List.getElem?_range hi,Option.map_some,List.getD_eq_getElem?_getD,List.getElem?_eq_getElem (by omega),Option.getD_some]
 ·rw[List.getElem?_eq_none (by simp;omega),List.getElem?_eq_none (by omega)]
end
end Go.Fw
namespace Go.Fw
def jE(m:Int×Int×List Int)(i j:Int):Bool:=decide (0<=i)&&(decide (0<=j)&&(decide (0<=m.1)&&decide (i*m.1+j<(m.2.2.length:Int))))
def jF(m:Int×Int×List Int)(i j:Int):Int:=m.2.2.getD (i*m.1+j).toNat 0
def vf{m:Int×Int×List Int}{i j:Int}(hl:m.2.2.length<=maxLen)(h:jE m i j=true):av (av (i*m.1)+j)=i*m.1+j/\0<=i*m.1+j/\i*m.1+j<(m.2.2.length:Int):=by simp only[jE,Bool.and_eq_true,decide_eq_true_eq]at h;obtain⟨h1,h2,h3,h4⟩:=h;have h5:0<=i*m.1:=Int.mul_nonneg h1 h3;rw[bR]at hl;have e:av (i*m.1)=i*m.1:=bJ (by omega) (by omega);rw[e,bJ (by omega) (by omega)];exact⟨rfl,by omega,h4⟩
def ai(m:Int×Int×List Int)(i j:Nat):Int:=m.2.2.getD (i*m.1.toNat+j) 0
def nu{m:Int×Int×List Int}(h:0<=m.1)(i j:Nat):jF m (i:Int) (j:Int)=ai m i j:=by unfold jF ai;congr 1;obtain⟨n,hn⟩:=Int.eq_ofNat_of_zero_le h;rw[hn];norm_cast
def cH(m:Int×Int×List Int):Bool:=bV m.1 1 5&&(bV m.2.1 m.1 8&&decide ((m.2.2.length:Int)=m.1*m.2.1))
def iH(l:List Int):Bool:=l.all λx=>bV x (-99) 99
def cI(m:Int×Int×List Int):Bool:=cH m&&iH m.2.2
def fl(a b:Int):Bool:=(decide (0<a) == decide (b<0))&&(decide (a=0) == decide (b=0))
def bW(m:Int×Int×List Int):Bool:=cI m&&(List.range m.1.toNat).all λi=>(List.range m.1.toNat).all λj=>fl (ai m i j) (ai m j i)
def jG{n lo hi:Int}:bV n lo hi=true↔lo<=n/\n<=hi:=by simp[bV]
def cx{m:Int×Int×List Int}(h:cH m=true):∃n r:Nat,m.1=(n:Int)/\m.2.1=(r:Int)/\1<=n/\n<=5/\n<=r/\r<=8/\m.2.2.length=r*n:=by simp only[cH,Bool.and_eq_true,jG,decide_eq_true_eq]at h;obtain⟨⟨h1,h2⟩,⟨h3,h4⟩,h5⟩:=h;obtain⟨n,hn⟩:=Int.eq_ofNat_of_zero_le (show 0<=m.1 by omega);obtain⟨r,hr⟩:=Int.eq_ofNat_of_zero_le (show 0<=m.2.1 by omega);refine⟨n,r,hn,hr,by omega,by omega,by omega,by omega, ?_⟩;rw[hn,hr,Int.mul_comm]at h5;exact_mod_cast h5
def BC{n r i j:Nat}(hi:i<r)(hj:j<n):i*n+j<r*n:=by have:=Nat.mul_le_mul_right n (show i+1<=r from hi);rw[Nat.add_mul]at this;omega
def nw{m:Int×Int×List Int}(h:cH m=true){i j:Nat}(hi:i<m.2.1.toNat)(hj:j<m.1.toNat):jE m (i:Int) (j:Int)=true:=by obtain⟨n,r,hn,hr,_,_,_,_,hl⟩:=cx h;have:=BC (n:=n) (r:=r) (i:=i) (j:=j) (by omega) (by omega);simp only[jE,Bool.and_eq_true,decide_eq_true_eq,hn,hl];refine⟨by omega,by omega,by omega, ?_⟩;exact_mod_cast this
def BD{l:List Int}(h:iH l=true)(i:Nat):-99<=l.getD i 0/\l.getD i 0<=99:=by
 by_cases hi:i<l.length;·have:=(List.all_eq_true.1 h) _ (bS 0 hi);exact jG.1 this
 ·rw[List.getD_eq_getElem?_getD,List.getElem?_eq_none (by omega),Option.getD_none];omega
def rz{j n:Nat}(h:j<n):(List.range n).drop j=j::(List.range n).drop (j+1):=by rw[cw 0 (by simpa using h),List.getD_eq_getElem?_getD,List.getElem?_range h,Option.getD_some]
def bn:List Int->Nat
 |[]=>0
 |x::xs=>Nat.gcd x.natAbs (bn xs)
def BE(l m:List Int):bn (l++m)=Nat.gcd (bn l) (bn m):=by
 induction l with
 |nil=>simp[bn]
 |cons x xs ih=>rw[List.cons_append,bn,ih,bn,Nat.gcd_assoc]
def ny(c:Int)(l:List Int):bn (l.map λx=>c*x)=c.natAbs*bn l:=by
 induction l with
 |nil=>simp[bn]
 |cons x xs ih=>rw[List.map_cons,bn,ih,bn,Int.natAbs_mul,Nat.gcd_mul_left]
def nz{l:List Int}{x:Int}(h:x∈l):((bn l:Nat):Int)∣x:=by
 induction l with
 |nil=>cases h
 |cons y ys ih =>
  rw[bn];rcases List.mem_cons.1 h with e|e;·subst e;exact Int.ofNat_dvd_left.2 (Nat.gcd_dvd_left _ _)
  ·exact Int.dvd_trans (Int.natCast_dvd_natCast.2 (Nat.gcd_dvd_right _ _)) (ih e)
def b8(n:Nat)(A:Nat->Nat->Int)(d:Nat->Int):Prop:=∀i,i<n->0<d i/\∀j,j<n->d i*A i j=-(d j*A j i)
def gF(n:Nat)(A:Nat->Nat->Int)(d:Nat->Int):Prop:=∀i,i<n->∃L:List Nat,(∀k∈L,k<n)/\bn (L.map d)=1/\∀e,b8 n A e->∀k∈L,d i*e k=d k*e i
def vg{n:Nat}{A:Nat->Nat->Int}{d e:Nat->Int}(hd:b8 n A d)(he:b8 n A e)(pd:gF n A d){i:Nat}(hi:i<n):d i∣e i:=by
 obtain⟨L,h1,h2,h3⟩:=pd i hi;have h4:(L.map d).map (λx=>e i*x)=(L.map e).map (λx=>d i*x):=by rw[List.map_map,List.map_map];apply List.map_congr_left;intro k hk;show e i*d k=d i*e k;rw[h3 e he k hk,Int.mul_comm]
 have h5:(e i).natAbs*1=(d i).natAbs*bn (L.map e):=by rw[<-h2,<-ny,<-ny,h4]
 exact Int.natAbs_dvd_natAbs.1 ⟨bn (L.map e),by rw[<-h5,Nat.mul_one]⟩
def BF{n:Nat}{A:Nat->Nat->Int}{d e:Nat->Int}(hd:b8 n A d)(he:b8 n A e)(pd:gF n A d)(pe:gF n A e){i:Nat}(hi:i<n):d i=e i:=by have h1:=vg hd he pd hi;have h2:=vg he hd pe hi;have:=(hd i hi).1;have:=(he i hi).1;exact Int.dvd_antisymm (by omega) (by omega) h1 h2
def nA{n:Nat}{A:Nat->Nat->Int}{e:Nat->Int}(he:b8 n A e){i j:Nat}(hi:i<n)(hj:j<n)(h:A i j=0):A j i=0:=by
 have h1:=(he i hi).2 j hj;rw[h,Int.mul_zero]at h1;have h2:e j*A j i=0:=by omega
 rcases Int.mul_eq_zero.1 h2 with h3|h3;·have:=(he j hj).1;omega
 ·exact h3
def vh{a b e f p q:Int}(he:0<e)(hf:0<f)(h:a*f=b*e)(hg:e*p=-(f*q)):a*p=-(b*q):=by
 have h1:f*(a*p)=f*(-(b*q)):=by
  calc f*(a*p)=(a*f)*p:=by rw[<-Int.mul_assoc,Int.mul_comm f a]
   _=b*(e*p):=by rw[h,Int.mul_assoc]
   _=f*(-(b*q)):=by rw[hg,Int.mul_neg,Int.mul_neg,Int.mul_left_comm]
 exact Int.eq_of_mul_eq_mul_left (by omega) h1
def BG{a b e f p q:Int}(hp:p≠0)(he:0<e)(h:a*p=-(b*q))(hg:e*p=-(f*q))(hq:q≠0):a*f=b*e:=by
 have h1:q*(a*f)=q*(b*e):=by
  calc q*(a*f)=a*(f*q):=by rw[Int.mul_left_comm,Int.mul_comm q f]
   _=a * -(e*p):=by rw[hg,Int.neg_neg]
   _=e*(-(a*p)):=by rw[Int.mul_neg,Int.mul_neg,Int.mul_left_comm]
   _=q*(b*e):=by rw[h,Int.neg_neg,Int.mul_left_comm,Int.mul_comm e q,Int.mul_left_comm]
 exact Int.eq_of_mul_eq_mul_left hq h1
def vj{a b c e f g:Int}(hf:f≠0)(h1:a*f=b*e)(h2:b*g=c*f):a*g=c*e:=by
 have h3:f*(a*g)=f*(c*e):=by
  calc f*(a*g)=(a*f)*g:=by rw[<-Int.mul_assoc,Int.mul_comm f a]
   _=e*(b*g):=by rw[h1,Int.mul_comm b e,Int.mul_assoc]
   _=f*(c*e):=by rw[h2,Int.mul_left_comm,Int.mul_comm e f,Int.mul_left_comm]
 exact Int.eq_of_mul_eq_mul_left hf h3
open Classical in
def ca(m:Int×Int×List Int):List Int :=
 if h:∃l:List Int,l.length=m.1.toNat/\b8 m.1.toNat (ai m) (λi=>l.getD i 0)/\gF m.1.toNat (ai m) (λi=>l.getD i 0)then Classical.choose h else[]
def vk{m:Int×Int×List Int}{l:List Int}(h1:l.length=m.1.toNat)(h2:b8 m.1.toNat (ai m) (λi=>l.getD i 0))(h3:gF m.1.toNat (ai m) (λi=>l.getD i 0)):ca m=l:=by
 have h:∃l:List Int,l.length=m.1.toNat/\b8 m.1.toNat (ai m) (λi=>l.getD i 0)/\gF m.1.toNat (ai m) (λi=>l.getD i 0):=⟨l,h1,h2,h3⟩;have hc:=Classical.choose_spec h;rw[ca,dif_pos h];generalize Classical.choose h=c at hc;obtain⟨c1,c2,c3⟩:=hc;apply List.ext_getElem?;intro i;by_cases hi:i<m.1.toNat;·have:=BF c2 h2 c3 h3 hi;simp only[List.getD_eq_getElem?_getD]at this;rw[List.getElem?_eq_getElem (by omega),List.getElem?_eq_getElem (by omega)]at this ⊢;simpa using this
 ·rw[List.getElem?_eq_none (by omega),List.getElem?_eq_none (by omega)]
def vl{m:Int×Int×List Int}(h:¬ ∃e,b8 m.1.toNat (ai m) e):ca m=[]:=by
 rw[ca,dif_neg];rintro ⟨l,_,h2,_⟩
 exact h ⟨_,h2⟩
def BH{m:Int×Int×List Int}(h:ca m≠[]):(ca m).length=m.1.toNat/\b8 m.1.toNat (ai m) (λi=>(ca m).getD i 0)/\gF m.1.toNat (ai m) (λi=>(ca m).getD i 0):=by
 by_cases hx:∃l:List Int,l.length=m.1.toNat/\b8 m.1.toNat (ai m) (λi=>l.getD i 0)/\gF m.1.toNat (ai m) (λi=>l.getD i 0)
 ·have:ca m=Classical.choose hx:=by rw[ca,dif_pos hx]
  rw[this];exact Classical.choose_spec hx
 ·exact absurd (by rw[ca,dif_neg hx]) h
def vm{n:Nat}{A:Nat->Nat->Int}{e:Nat->Int}(he:b8 n A e){i j:Nat}(hi:i<n)(hj:j<n):fl (A i j) (A j i)=true:=by
 have h1:=(he i hi).2 j hj;have h2:=(he i hi).1;have h3:=(he j hj).1;have e1:decide (0<A i j)=decide (A j i<0):=by
  rw[decide_eq_decide];constructor
  ·intro h;have:=Int.mul_pos h2 h;rcases Int.lt_or_le (A j i) 0 with h4|h4;·exact h4
   ·have:=Int.mul_nonneg (Int.le_of_lt h3) h4;omega
  ·intro h;have:=Int.mul_neg_of_pos_of_neg h3 h;rcases Int.lt_or_le 0 (A i j)with h4|h4;·exact h4
   ·have:=Int.mul_nonpos_of_nonneg_of_nonpos (Int.le_of_lt h2) h4;omega
 have e2:decide (A i j=0)=decide (A j i=0):=by rw[decide_eq_decide];exact⟨nA he hi hj,nA he hj hi⟩
 rw[fl,e1,e2];simp
def BI{m:Int×Int×List Int}(hs:cI m=true)(h:ca m≠[]):bW m=true:=by obtain⟨h1,h2,h3⟩:=BH h;rw[bW,hs,Bool.true_and,List.all_eq_true];intro i hi;rw[List.all_eq_true];intro j hj;exact vm h2 (List.mem_range.1 hi) (List.mem_range.1 hj)
def aS(l:List Nat):List Int:=l.map λ(x:Nat)=>(x:Int)
def bK(l:List Nat):(aS l).length=l.length:=by simp[aS]
def fA(l:List Nat)(k:Nat):(aS l).getD k 0=((l.getD k 0:Nat):Int):=by simp only[aS,List.getD_eq_getElem?_getD,List.getElem?_map];cases l[k]?<;>rfl
def rA(l:List Nat)(x:Nat):aS l++[(x:Int)]=aS (l++[x]):=by simp[aS]
def vn{l:List Nat}{x:Nat}:((x:Int)∈aS l)↔x∈l:=by
 simp only[aS,List.mem_map];constructor
 ·rintro ⟨a,h1,h2⟩
  rwa [<-Int.ofNat.inj h2]
 ·exact λh=>⟨x,h,rfl⟩
def rB:∀(n:Nat) (l:List Nat),l.Nodup->(∀x∈l,x<n)->l.length<=n
 |0,l,_,h=>by
  cases l with
  |nil=>simp
  |cons x xs=>exact absurd (h x (by simp)) (by omega)
 |n+1,l,hn,h=>by have:=rB n (l.erase n) (hn.erase n) (λx hx=>by have h1:=(hn.mem_erase_iff).1 hx;have:=h x h1.2;omega);rw[List.length_erase]at this;split at this<;>omega
def eN(A:Nat->Nat->Int)(x:Nat):List Nat->List Nat×List Nat->List Nat×List Nat
 |[],s=>s
 |j::js,s=>eN A x js (if A x j≠0/\j∉s.1 then(s.1++[j],s.2++[x])else s)
def fB(A:Nat->Nat->Int)(n:Nat):Nat->Nat->List Nat×List Nat->List Nat×List Nat
 |0,_,s=>s
 |f+1,p,s=>if p<s.1.length then fB A n f (p+1) (eN A (s.1.getD p 0) (List.range n) s)else s
def gG(m:Int×Int×List Int)(i:Nat):List Nat×List Nat:=fB (ai m) m.1.toNat m.1.toNat 0 ([i],[i])
structure cb(n:Nat)(A:Nat->Nat->Int)(i:Nat)(s:List Nat×List Nat):Prop where
 nd:s.1.Nodup
 lt:∀x∈s.1,x<n
 len:s.2.length=s.1.length
 hd:s.1.getD 0 0=i
 pos:0<s.1.length
 src:∀k,1<=k->k<s.1.length->∃k',k'<k/\s.2.getD k 0=s.1.getD k' 0/\A (s.2.getD k 0) (s.1.getD k 0)≠0
def cb.le{n:Nat}{A:Nat->Nat->Int}{i:Nat}{s:List Nat×List Nat}(h:cb n A i s):s.1.length<=n:=rB n s.1 h.nd h.lt
def fm{α:Type}{l m:List α}{k:Nat}{d:α}(h:k<l.length):(l++m).getD k d=l.getD k d:=by simp only[List.getD_eq_getElem?_getD];rw[List.getElem?_append_left h]
def rC{α:Type}{l:List α}{x d:α}{k:Nat}(h:k=l.length):(l++[x]).getD k d=x:=by subst h;simp[List.getD_eq_getElem?_getD]
def cb.step{n:Nat}{A:Nat->Nat->Int}{i p j:Nat}{s:List Nat×List Nat}(h:cb n A i s)(hp:p<s.1.length)(hj:j<n)(ha:A (s.1.getD p 0) j≠0/\j∉s.1):cb n A i (s.1++[j],s.2++[s.1.getD p 0]):=by
 refine⟨?_, ?_, ?_, ?_, ?_, ?_⟩;·exact List.nodup_append.2 ⟨h.nd,by simp,λa ha' b hb e=>by rw[List.mem_singleton]at hb;subst hb;subst e;exact ha.2 ha'⟩
 ·intro x hx;rcases List.mem_append.1 hx with hx|hx;·exact h.lt x hx
  ·rw[List.mem_singleton]at hx;omega
 ·simp[h.len]
 ·exact(fm h.pos).trans h.hd
 ·simp
 ·intro k h1 h2;simp only[List.length_append,List.length_cons,List.length_nil]at h2;by_cases hk:k<s.1.length
  ·obtain⟨k',h3,h4,h5⟩:=h.src k h1 hk;refine⟨k',h3, ?_, ?_⟩;·show(s.2++_).getD k 0=(s.1++_).getD k' 0;rw[fm (by rw[h.len];exact hk),fm (by omega),h4]
   ·show A ((s.2++_).getD k 0) ((s.1++_).getD k 0)≠0;rw[fm (by rw[h.len];exact hk),fm hk];exact h5
  ·have e:k=s.1.length:=by omega
   refine⟨p,by omega, ?_, ?_⟩;·show(s.2++_).getD k 0=(s.1++_).getD p 0;rw[rC (by rw[h.len];exact e),fm hp]
   ·show A ((s.2++_).getD k 0) ((s.1++_).getD k 0)≠0;rw[rC (by rw[h.len];exact e),rC e];exact ha.1
def iI(s t:List Nat×List Nat):Prop:=∃u,t.1=s.1++u
def iI.getD{s t:List Nat×List Nat}(h:iI s t){k:Nat}(hk:k<s.1.length):t.1.getD k 0=s.1.getD k 0:=by obtain⟨u,h⟩:=h;rw[h,fm hk]
def iI.len{s t:List Nat×List Nat}(h:iI s t):s.1.length<=t.1.length:=by obtain⟨u,h⟩:=h;rw[h];simp
def iI.mem{s t:List Nat×List Nat}(h:iI s t){x:Nat}(hx:x∈s.1):x∈t.1:=by obtain⟨u,h⟩:=h;rw[h];exact List.mem_append_left _ hx
def nB{n:Nat}{A:Nat->Nat->Int}{i p:Nat}:∀(js:List Nat) (s:List Nat×List Nat),cb n A i s->p<s.1.length->(∀j∈js,j<n) ->
  cb n A i (eN A (s.1.getD p 0) js s)/\iI s (eN A (s.1.getD p 0) js s)/\∀j∈js,A (s.1.getD p 0) j≠0->j∈(eN A (s.1.getD p 0) js s).1
 |[],s,h,_,_=>⟨h,⟨[],by simp[eN]⟩,λj hj=>by cases hj⟩
 |j::js,s,h,hp,hl=>by
  by_cases ha:A (s.1.getD p 0) j≠0/\j∉s.1
  ·have e:(s.1++[j]).getD p 0=s.1.getD p 0:=fm hp;have:=nB (p:=p) js (s.1++[j],s.2++[s.1.getD p 0]) (h.step hp (hl j (by simp)) ha) (by simp;omega) (λx hx=>hl x (by simp[hx]));simp only[e]at this;obtain⟨h1,⟨u,h2⟩,h3⟩:=this;rw[eN,if_pos ha];refine⟨h1,⟨[j]++u,by rw[h2];simp⟩,λx hx hax=>?_⟩;rcases List.mem_cons.1 hx with hx|hx;·subst hx;rw[h2];simp
   ·exact h3 x hx hax
  ·have:=nB (p:=p) js s h hp (λx hx=>hl x (by simp[hx]));obtain⟨h1,h2,h3⟩:=this;rw[eN,if_neg ha];refine⟨h1,h2,λx hx hax=>?_⟩;rcases List.mem_cons.1 hx with hx|hx;·subst hx;exact h2.mem (Classical.byContradiction λhc=>ha ⟨hax,hc⟩)
   ·exact h3 x hx hax
def vo{n:Nat}{A:Nat->Nat->Int}{i:Nat}:∀(f p:Nat) (s:List Nat×List Nat),cb n A i s->n<=f+p->p<=s.1.length->(∀k,k<p->∀j,j<n->A (s.1.getD k 0) j≠0->j∈s.1) ->
  cb n A i (fB A n f p s)/\∀x∈(fB A n f p s).1,∀j,j<n->A x j≠0->j∈(fB A n f p s).1
 |0,p,s,h,hf,hp,hc=>⟨h,λx hx j hj ha=>by change x∈s.1 at hx;show j∈s.1;obtain⟨k,hk,rfl⟩:=List.getElem_of_mem hx;have:=h.le;refine hc k (by omega) j hj ?_;rw[List.getD_eq_getElem?_getD,List.getElem?_eq_getElem hk];exact ha⟩
 |f+1,p,s,h,hf,hp,hc=>by
  rw[fB];by_cases hlt:p<s.1.length
  ·rw[if_pos hlt];obtain⟨h1,h2,h3⟩:=nB (p:=p) (List.range n) s h hlt (λx hx=>List.mem_range.1 hx);refine vo f (p+1) _ h1 (by omega) (by have:=h2.len;omega) ?_;intro k hk j hj ha;by_cases e:k=p;·subst e;rw[h2.getD hlt]at ha;exact h3 j (List.mem_range.2 hj) ha
   ·rw[h2.getD (by omega)]at ha;exact h2.mem (hc k (by omega) j hj ha)
  ·rw[if_neg hlt];refine⟨h,λx hx j hj ha=>?_⟩;obtain⟨k,hk,rfl⟩:=List.getElem_of_mem hx;refine hc k (by omega) j hj ?_;rw[List.getD_eq_getElem?_getD,List.getElem?_eq_getElem hk];exact ha
def cb.first{n:Nat}{A:Nat->Nat->Int}{i:Nat}(h:i<n):cb n A i ([i],[i]) :=
 ⟨by simp,by simpa using h,rfl,rfl,by simp,λk h1 h2=>by simp at h2;omega⟩
def BJ{m:Int×Int×List Int}{i:Nat}(h:i<m.1.toNat):cb m.1.toNat (ai m) i (gG m i)/\∀x∈(gG m i).1,∀j,j<m.1.toNat->ai m x j≠0->j∈(gG m i).1 :=
 vo m.1.toNat 0 _ (cb.first h) (by omega) (by simp) (λk hk=>by omega)
def bG{α:Type}{l:List α}{x y:Nat}{v d:α}(h:x<l.length):(l.set x v).getD y d=if x=y then v else l.getD y d:=by
 by_cases e:x=y;·subst e;rw[if_pos rfl,Bs h]
 ·rw[if_neg e,List.getD_eq_getElem?_getD,List.getElem?_set_ne e,List.getD_eq_getElem?_getD]
def nC{l:List Nat}(h:l.Nodup){a b:Nat}(ha:a<l.length)(hb:b<l.length)(e:l.getD a 0=l.getD b 0):a=b:=by
 rw[List.getD_eq_getElem?_getD,List.getD_eq_getElem?_getD,List.getElem?_eq_getElem ha,List.getElem?_eq_getElem hb,Option.getD_some,Option.getD_some]at e;rcases Nat.lt_trichotomy a b with h1|h1|h1;·exact absurd e (List.pairwise_iff_getElem.1 h a b ha hb h1)
 ·exact h1
 ·exact absurd e.symm (List.pairwise_iff_getElem.1 h b a hb ha h1)
def iJ{l:List Nat}{x:Nat}(h:x∈l):∃k,k<l.length/\l.getD k 0=x:=by obtain⟨k,hk,rfl⟩:=List.getElem_of_mem h;exact⟨k,hk,by rw[List.getD_eq_getElem?_getD,List.getElem?_eq_getElem hk,Option.getD_some]⟩
def vq{α:Type}(l:List Nat)(f:Nat->α):(List.range l.length).map (λt=>f (l.getD t 0))=l.map f:=by
 have:=BB (n:=l.length) (l:=l) 0 rfl;conv=>rhs;rw[<-this]
 rw[List.map_map];rfl
def a9(a:Int):Int:=(a.natAbs:Int)
def jH{a:Int}(h:a≠0):0<a9 a:=by unfold a9;omega
def li{a:Int}(h:-99<=a/\a<=99):a9 a<=99:=by unfold a9;omega
def vr{e f p q:Int}(he:0<e)(hf:0<f)(h:e*p=-(f*q)):e*a9 p=f*a9 q:=by
 have h1:(e*p).natAbs=(f*q).natAbs:=by rw[h,Int.natAbs_neg]
 rw[Int.natAbs_mul,Int.natAbs_mul]at h1;have:((e.natAbs*p.natAbs:Nat):Int)=((f.natAbs*q.natAbs:Nat):Int):=by rw[h1]
 rw[Int.natCast_mul,Int.natCast_mul,Int.natAbs_of_nonneg (Int.le_of_lt he),Int.natAbs_of_nonneg (Int.le_of_lt hf)]at this;exact this
def b9(q:Nat->Int):Nat->Int
 |0=>1
 |k+1=>b9 q k*q k
def BK(q:Nat->Int){a b:Nat}(h:a<=b):b9 q a∣b9 q b:=by
 induction b with
 |zero=>rw[show a=0 by omega];exact Int.dvd_refl _
 |succ b ih =>
  by_cases e:a=b+1;·subst e;exact Int.dvd_refl _
  ·exact Int.dvd_trans (ih (by omega)) ⟨q b,rfl⟩
def lj{q:Nat->Int}{n:Nat}(h:∀k,k<n->0<q k/\q k<=99):∀k,k<=n->0<b9 q k/\b9 q k<=99 ^ k
 |0,_=>by simp[b9]
 |k+1,hk=>by obtain⟨h1,h2⟩:=lj h k (by omega);obtain⟨h3,h4⟩:=h k (by omega);refine⟨Int.mul_pos h1 h3, ?_⟩;rw[Int.pow_succ];exact Int.mul_le_mul h2 h4 (by omega) (Int.pow_nonneg (by omega))
def ll{k:Nat}(h:k<=8):(99:Int) ^ k<=9227446944279201:=by
 have h1:99 ^ k<=99 ^ 8:=Nat.pow_le_pow_right (by omega) h;have h2:(99:Int) ^ k=((99 ^ k:Nat):Int):=by rw[Int.natCast_pow];rfl
 rw[h2];omega
def BL{H D Hk q p a:Int}(hH:0<Hk)(hq:0<q)(hp:0<p)(ha:0<a)(h1:Hk*q∣D)(h2:D∣a*Hk) :
  (Int.tdiv (a*p) q)*q=a*p/\0<Int.tdiv (a*p) q/\D∣Int.tdiv (a*p) q*(Hk*q):=by
 obtain⟨R,hR⟩:=h1;obtain⟨c,hc⟩:=h2;have e:a=q*(R*c):=by
  have:Hk*a=Hk*(q*(R*c)):=by rw[Int.mul_comm Hk a,hc,hR,<-Int.mul_assoc Hk q,Int.mul_assoc]
  exact Int.eq_of_mul_eq_mul_left (by omega) this
 have e2:Int.tdiv (a*p) q=R*c*p:=by rw[e,Int.mul_assoc,Int.mul_tdiv_cancel_left _ (by omega)]
 rw[e2];refine⟨by rw[e,Int.mul_comm (R*c*p) q,Int.mul_assoc q], ?_, ?_⟩
 ·have h3:0<q*(R*c*p):=by rw[<-Int.mul_assoc,<-e];exact Int.mul_pos ha hp
  rcases Int.lt_or_le 0 (R*c*p)with h|h;·exact h
  ·have:=Int.mul_nonpos_of_nonneg_of_nonpos (Int.le_of_lt hq) h;omega
 ·refine⟨c*p, ?_⟩;rw[hR,Int.mul_comm (R*c*p),Int.mul_assoc,Int.mul_assoc,Int.mul_assoc,Int.mul_assoc]
def vt(g:Nat)(l:List Int)(x:Int)(hx:0<=x)(hg:g=bn l):(Int.gcd (g:Int) x:Int)=((bn (l++[x]):Nat):Int):=by subst hg;rw[BE,bn,bn,Nat.gcd_zero_right];rfl
def qK(m:Int×Int×List Int)(s:List Nat×List Nat)(k:Nat):Int:=if k=0 then 1 else a9 (ai m (s.1.getD k 0) (s.2.getD k 0))
def pK(m:Int×Int×List Int)(s:List Nat×List Nat)(k:Nat):Int:=a9 (ai m (s.2.getD k 0) (s.1.getD k 0))
def nD{m:Int×Int×List Int}(h:bW m=true){i j:Nat}(hi:i<m.1.toNat)(hj:j<m.1.toNat):ai m i j=0↔ai m j i=0:=by rw[bW,Bool.and_eq_true,List.all_eq_true]at h;have h1:=List.all_eq_true.1 (h.2 i (List.mem_range.2 hi)) j (List.mem_range.2 hj);rw[fl,Bool.and_eq_true]at h1;have h2:=h1.2;rw[beq_iff_eq,decide_eq_decide]at h2;exact h2
def gH{m:Int×Int×List Int}(h:cI m=true)(i j:Nat):-99<=ai m i j/\ai m i j<=99:=by rw[cI,Bool.and_eq_true]at h;exact BD h.2 _
def dV{m:Int×Int×List Int}(h:bW m=true):cI m=true:=by rw[bW,Bool.and_eq_true]at h;exact h.1
def eE{m:Int×Int×List Int}(h:cI m=true):cH m=true:=by rw[cI,Bool.and_eq_true]at h;exact h.1
def lq{n:Nat}{A:Nat->Nat->Int}{i:Nat}{s:List Nat×List Nat}(h:cb n A i s){k:Nat}(h1:1<=k)(h2:k<s.1.length):s.2.getD k 0<n:=by obtain⟨k',h3,h4,h5⟩:=h.src k h1 h2;rw[h4];exact h.lt _ (bS 0 (by omega))
def nE{m:Int×Int×List Int}(hs:bW m=true){i:Nat}{s:List Nat×List Nat}(h:cb m.1.toNat (ai m) i s){k:Nat}(h1:1<=k)(h2:k<s.1.length) :
  (0<qK m s k/\qK m s k<=99)/\(0<pK m s k/\pK m s k<=99):=by
 obtain⟨k',h3,h4,h5⟩:=h.src k h1 h2;have h6:ai m (s.1.getD k 0) (s.2.getD k 0)≠0:=λe=>h5 ((nD hs (h.lt _ (bS 0 h2)) (lq h h1 h2)).1 e);have hb:=dV hs;rw[qK,if_neg (by omega),pK];exact⟨⟨jH h6,li (gH hb _ _)⟩,⟨jH h5,li (gH hb _ _)⟩⟩
def lr{m:Int×Int×List Int}(hs:bW m=true){i:Nat}{s:List Nat×List Nat}(h:cb m.1.toNat (ai m) i s)(k:Nat)(h2:k<s.1.length):0<qK m s k/\qK m s k<=99:=by
 by_cases e:k=0;·subst e;rw[qK,if_pos rfl];omega
 ·exact(nE hs h (by omega) h2).1
structure T2(m:Int×Int×List Int)(s:List Nat×List Nat)(d0:List Int)(k:Nat)(d:List Int)(g:Int):Prop where
 len:d.length=m.1.toNat
 out:∀x,x<m.1.toNat->(∀k',k'<k->x≠s.1.getD k' 0)->d.getD x 0=d0.getD x 0
 val:∀k',k'<k->0<d.getD (s.1.getD k' 0) 0/\d.getD (s.1.getD k' 0) 0<=99 ^ (4+k')/\b9 (qK m s) s.1.length∣d.getD (s.1.getD k' 0) 0*b9 (qK m s) k
 tree:∀k',1<=k'->k'<k->d.getD (s.1.getD k' 0) 0*qK m s k'=d.getD (s.2.getD k' 0) 0*pK m s k'
 gcd:g=((bn ((List.range k).map λt=>d.getD (s.1.getD t 0) 0):Nat):Int)
def T2.step{m:Int×Int×List Int}{s:List Nat×List Nat}{d0 d:List Int}{g:Int}{i k:Nat}(hs:bW m=true)(h:cb m.1.toNat (ai m) i s)(hn:m.1.toNat<=5)(h1:1<=k)(h2:k<s.1.length)(ht:T2 m s d0 k d g) :
  (0<d.getD (s.2.getD k 0) 0*pK m s k/\d.getD (s.2.getD k 0) 0*pK m s k<=9227446944279201) /\
  (0<Int.tdiv (d.getD (s.2.getD k 0) 0*pK m s k) (qK m s k)/\Int.tdiv (d.getD (s.2.getD k 0) 0*pK m s k) (qK m s k)<=9227446944279201) /\
  T2 m s d0 (k+1) (d.set (s.1.getD k 0) (Int.tdiv (d.getD (s.2.getD k 0) 0*pK m s k) (qK m s k))) (Int.gcd g (Int.tdiv (d.getD (s.2.getD k 0) 0*pK m s k) (qK m s k))):=by
 obtain⟨⟨hq,hq9⟩,hp,hp9⟩:=nE hs h h1 h2;obtain⟨k',h3,h4,h5⟩:=h.src k h1 h2;obtain⟨a1,a2,a3⟩:=ht.val k' h3;have hle:=h.le;rw[<-h4]at a1 a2 a3;have hH:=(lj (lr hs h) k (by omega)).1;have hx:s.1.getD k 0<d.length:=by rw[ht.len];exact h.lt _ (bS 0 h2)
 have hdv:b9 (qK m s) k*qK m s k∣b9 (qK m s) s.1.length:=BK (qK m s) (show k+1<=s.1.length from h2);obtain⟨b1,b2,b3⟩:=BL (H:=0) hH hq hp a1 hdv a3;have hb:d.getD (s.2.getD k 0) 0*pK m s k<=99 ^ (4+k):=by have:d.getD (s.2.getD k 0) 0*pK m s k<=99 ^ (4+k')*99:=Int.mul_le_mul a2 hp9 (by omega) (Int.pow_nonneg (by omega));rw[<-Int.pow_succ]at this;refine Int.le_trans this ?_;have h6:99 ^ (4+k'+1)<=99 ^ (4+k):=Nat.pow_le_pow_right (by omega) (by omega);exact_mod_cast h6
 have hp8:=ll (k:=4+k) (by omega);generalize hv:Int.tdiv (d.getD (s.2.getD k 0) 0*pK m s k) (qK m s k)=v at b1 b2 b3;have hvle:v<=d.getD (s.2.getD k 0) 0*pK m s k:=by rw[<-b1];have:=Int.mul_le_mul_of_nonneg_left (show(1:Int)<=qK m s k by omega) (Int.le_of_lt b2);omega
 have hne:∀t,t<k->s.1.getD k 0≠s.1.getD t 0:=λt ht' e=>by have:=nC h.nd h2 (by omega) e;omega
 have hget:∀t,t<k->(d.set (s.1.getD k 0) v).getD (s.1.getD t 0) 0=d.getD (s.1.getD t 0) 0:=λt ht'=>by rw[bG hx,if_neg (hne t ht')]
 have hself:(d.set (s.1.getD k 0) v).getD (s.1.getD k 0) 0=v:=by rw[bG hx,if_pos rfl]
 refine⟨⟨Int.mul_pos a1 hp,by omega⟩,⟨b2,by omega⟩,⟨?_, ?_, ?_, ?_, ?_⟩⟩;·rw[List.length_set,ht.len]
 ·intro x hx' hall;rw[bG hx,if_neg (λe=>hall k (by omega) e.symm)];exact ht.out x hx' (λt ht'=>hall t (by omega))
 ·intro t ht';by_cases e:t=k;·subst e;rw[hself];exact⟨b2,by omega,b3⟩
  ·rw[hget t (by omega)];obtain⟨c1,c2,c3⟩:=ht.val t (by omega);refine⟨c1,c2, ?_⟩;rw[b9,<-Int.mul_assoc];exact Int.dvd_trans c3 ⟨_,rfl⟩
 ·intro t ht1 ht2;by_cases e:t=k;·subst e;rw[hself,h4,hget k' h3,<-h4];exact b1
  ·obtain⟨t',c1,c2,_⟩:=h.src t ht1 (by omega);rw[hget t (by omega),c2,hget t' (by omega),<-c2];exact ht.tree t ht1 (by omega)
 ·rw[List.range_succ,List.map_append,List.map_cons,List.map_nil,hself];rw[show(List.range k).map (λt=>(d.set (s.1.getD k 0) v).getD (s.1.getD t 0) 0)=(List.range k).map (λt=>d.getD (s.1.getD t 0) 0)from List.map_congr_left (λt ht'=>hget t (List.mem_range.1 ht'))];rw[ht.gcd];exact vt _ _ v (by omega) rfl
def T2.g_range{m:Int×Int×List Int}{s:List Nat×List Nat}{d0 d:List Int}{g:Int}{k:Nat}(h1:1<=k)(ht:T2 m s d0 k d g):0<g/\g<=9227446944279201:=by
 obtain⟨a1,a2,_⟩:=ht.val 0 (by omega);have hd:g∣d.getD (s.1.getD 0 0) 0:=by rw[ht.gcd];exact nz (List.mem_map.2 ⟨0,List.mem_range.2 (by omega),rfl⟩)
 have:=Int.le_of_dvd a1 hd;have hp:=ll (k:=4+0) (by omega);refine⟨?_,by omega⟩;rcases Int.lt_or_le 0 g with h|h;·exact h
 ·have h0:0<=g:=by rw[ht.gcd];omega
  have e:g=0:=by omega
  rw[e]at hd;have:=Int.zero_dvd.1 hd;omega
structure T3(m:Int×Int×List Int)(s:List Nat×List Nat)(d2:List Int)(g:Int)(k:Nat)(d:List Int):Prop where
 len:d.length=m.1.toNat
 out:∀x,x<m.1.toNat->(∀k',k'<k->x≠s.1.getD k' 0)->d.getD x 0=d2.getD x 0
 val:∀k',k'<k->d.getD (s.1.getD k' 0) 0=Int.tdiv (d2.getD (s.1.getD k' 0) 0) g
def T3.step{m:Int×Int×List Int}{s:List Nat×List Nat}{d2 d:List Int}{g:Int}{k:Nat}(hnd:s.1.Nodup)(hlt:∀x∈s.1,x<m.1.toNat)(h2:k<s.1.length)(ht:T3 m s d2 g k d) :
  T3 m s d2 g (k+1) (d.set (s.1.getD k 0) (Int.tdiv (d2.getD (s.1.getD k 0) 0) g)):=by
 have hx:s.1.getD k 0<d.length:=by rw[ht.len];exact hlt _ (bS 0 h2)
 refine⟨by rw[List.length_set,ht.len], ?_, ?_⟩;·intro x hx' hall;rw[bG hx,if_neg (λe=>hall k (by omega) e.symm)];exact ht.out x hx' (λt ht'=>hall t (by omega))
 ·intro t ht';by_cases e:t=k;·subst e;rw[bG hx,if_pos rfl]
  ·rw[bG hx,if_neg (λe'=>e (nC hnd h2 (by omega) e').symm)];exact ht.val t (by omega)
def T3.cur{m:Int×Int×List Int}{s:List Nat×List Nat}{d2 d:List Int}{g:Int}{k:Nat}(hnd:s.1.Nodup)(hlt:∀x∈s.1,x<m.1.toNat)(h2:k<s.1.length)(ht:T3 m s d2 g k d) :
  d.getD (s.1.getD k 0) 0=d2.getD (s.1.getD k 0) 0 :=
 ht.out _ (hlt _ (bS 0 h2)) (λt ht' e=>by have:=nC hnd h2 (by omega) e;omega)
def fC(n:Nat)(A:Nat->Nat->Int)(d:Nat->Int):Prop:=∀j,j<n->0<=d j/\d j<=9227446944279201 /\
 (0<d j->∃L:List Nat,j∈L/\(∀k∈L,k<n/\0<d k)/\(∀k,k<n->A j k≠0->k∈L)/\bn (L.map d)=1/\∀e,b8 n A e->∀k∈L,d j*e k=d k*e j)
def BM{m:Int×Int×List Int}{s:List Nat×List Nat}{d0 d:List Int}{g:Int}{i:Nat}(hs:bW m=true)(h:cb m.1.toNat (ai m) i s)(ht:T2 m s d0 s.1.length d g){e:Nat->Int}(he:b8 m.1.toNat (ai m) e) :
  ∀k,k<s.1.length->d.getD i 0*e (s.1.getD k 0)=d.getD (s.1.getD k 0) 0*e i:=by
 intro k;induction k using Nat.strongRecOn with
 |_ k ih =>
  intro hk;by_cases h0:k=0;·subst h0;rw[h.hd]
  ·obtain⟨k',h3,h4,h5⟩:=h.src k (by omega) hk;have h6:=ih k' h3 (by omega);rw[<-h4]at h6;have hlk:=h.lt _ (bS 0 hk);have hfk:=lq h (show 1<=k by omega) hk;have h7:=vr (he _ hfk).1 (he _ hlk).1 ((he _ hfk).2 _ hlk);have h8:=ht.tree k (by omega) hk;obtain⟨⟨hq,_⟩,hp,_⟩:=nE hs h (show 1<=k by omega) hk;rw[show a9 (ai m (s.1.getD k 0) (s.2.getD k 0))=qK m s k by rw[qK,if_neg h0]]at h7;have h7':e (s.2.getD k 0)*pK m s k=e (s.1.getD k 0)*qK m s k:=h7;have h9:d.getD (s.2.getD k 0) 0*e (s.1.getD k 0)=d.getD (s.1.getD k 0) 0*e (s.2.getD k 0) :=
    BG (p:=pK m s k) (q:=-(qK m s k)) (by omega) (he _ hfk).1 (by rw[Int.mul_neg,Int.neg_neg];exact h8.symm) (by rw[Int.mul_neg,Int.neg_neg];exact h7') (by omega)
   have:=(he _ hfk).1;exact vj (by omega) h6 h9
def BN{m:Int×Int×List Int}{s:List Nat×List Nat}{d0 d2 d:List Int}{g:Int}{i:Nat}(hs:bW m=true)(hi:i<m.1.toNat)(h:cb m.1.toNat (ai m) i s)(hn:m.1.toNat<=5)
  (hcl:∀x∈s.1,∀j,j<m.1.toNat->ai m x j≠0->j∈s.1)
  (h0:fC m.1.toNat (ai m) (λx=>d0.getD x 0)) (hz:d0.getD i 0<=0) (h2:T2 m s d0 s.1.length d2 g) (h3:T3 m s d2 g s.1.length d) :
  fC m.1.toNat (ai m) (λx=>d.getD x 0)/\0<d.getD i 0/\∀x,x<m.1.toNat->0<d0.getD x 0->0<d.getD x 0:=by
 have hg:=h2.g_range h.pos;have hle:=h.le;have hnew:∀k,k<s.1.length->d0.getD (s.1.getD k 0) 0<=0:=by
  intro k;induction k using Nat.strongRecOn with
  |_ k ih =>
   intro hk;by_cases hk0:k=0;·subst hk0;rw[h.hd];exact hz
   ·obtain⟨k',a1,a2,a3⟩:=h.src k (by omega) hk;have b1:=ih k' a1 (by omega);rw[<-a2]at b1;rcases Int.lt_or_le 0 (d0.getD (s.1.getD k 0) 0)with hc|hc;·have hlk:=h.lt _ (bS 0 hk);have hfk:=lq h (show 1<=k by omega) hk;obtain⟨L,c1,c2,c3,_⟩:=(h0 _ hlk).2.2 hc;have b4:0<d0.getD (s.2.getD k 0) 0:=(c2 _ (c3 _ hfk (λe=>a3 ((nD hs hlk hfk).1 e)))).2;have b2:d0.getD (s.2.getD k 0) 0<=0:=b1;omega
    ·exact hc
 have hin:∀x∈s.1,d.getD x 0*g=d2.getD x 0/\0<d.getD x 0/\d.getD x 0<=9227446944279201:=by
  intro x hx;obtain⟨k,hk,rfl⟩:=iJ hx;have a1:=h3.val k hk;obtain⟨b1,b2,_⟩:=h2.val k hk;have b3:g∣d2.getD (s.1.getD k 0) 0:=by rw[h2.gcd];exact nz (List.mem_map.2 ⟨k,List.mem_range.2 hk,rfl⟩)
  have b4:d.getD (s.1.getD k 0) 0*g=d2.getD (s.1.getD k 0) 0:=by rw[a1];exact Int.tdiv_mul_cancel b3
  have b5:=ll (k:=4+k) (by omega);have b6:0<d.getD (s.1.getD k 0) 0:=by
   rcases Int.lt_or_le 0 (d.getD (s.1.getD k 0) 0)with hc|hc;·exact hc
   ·have:=Int.mul_nonpos_of_nonpos_of_nonneg hc (Int.le_of_lt hg.1);omega
  refine⟨b4,b6, ?_⟩;have:=Int.mul_le_mul_of_nonneg_left (show(1:Int)<=g by omega) (Int.le_of_lt b6);omega
 have hout:∀x,x<m.1.toNat->x∉s.1->d.getD x 0=d0.getD x 0:=by intro x hx hni;have hne:∀k',k'<s.1.length->x≠s.1.getD k' 0:=λk' hk' e=>hni (by rw[e];exact bS 0 hk');rw[h3.out x hx hne,h2.out x hx hne]
 have himem:i∈s.1:=by rw[<-h.hd];exact bS 0 h.pos
 refine⟨?_,(hin i himem).2.1, ?_⟩
 ·intro j hj;by_cases hm:j∈s.1
  ·obtain⟨a1,a2,a3⟩:=hin j hm;refine⟨Int.le_of_lt a2,a3,λ_=>⟨s.1,hm,λk hk=>⟨h.lt k hk,(hin k hk).2.1⟩,λk hk ha=>hcl j hm k hk ha, ?_, ?_⟩⟩
   ·have e1:s.1.map (λx=>g*d.getD x 0)=s.1.map (λx=>d2.getD x 0):=List.map_congr_left (λx hx=>by rw[Int.mul_comm];exact(hin x hx).1);have e2:=ny g (s.1.map (λx=>d.getD x 0));rw[List.map_map]at e2;have e3:bn (s.1.map (λx=>d2.getD x 0))=g.natAbs*bn (s.1.map (λx=>d.getD x 0)):=by rw[<-e1];exact e2
    have e4:g=((bn (s.1.map (λx=>d2.getD x 0)):Nat):Int):=by rw[<-vq s.1 (λx=>d2.getD x 0)];exact h2.gcd
    have e5:bn (s.1.map (λx=>d2.getD x 0))=g.natAbs:=by have:=congrArg Int.natAbs e4;simpa using this.symm
    rw[e5]at e3;exact Nat.eq_of_mul_eq_mul_left (show 0<g.natAbs by omega) (by rw[Nat.mul_one];exact e3.symm)
   ·intro e he k hk;have key:∀x∈s.1,d.getD i 0*e x=d.getD x 0*e i:=by
     intro x hx;obtain⟨kx,hkx,rfl⟩:=iJ hx;have c1:=BM hs h h2 he kx hkx;rw[<-(hin i himem).1,<-(hin _ hx).1]at c1;have c2:g*(d.getD i 0*e (s.1.getD kx 0))=g*(d.getD (s.1.getD kx 0) 0*e i):=by rw[<-Int.mul_assoc,<-Int.mul_assoc,Int.mul_comm g,Int.mul_comm g];exact c1
     exact Int.eq_of_mul_eq_mul_left (by omega) c2
    have:=(he i hi).1;exact vj (b:=d.getD i 0) (f:=e i) (by omega) (key j hm).symm (key k hk)
  ·have e:=hout j hj hm;obtain⟨a1,a2,a3⟩:=h0 j hj;show 0<=d.getD j 0/\d.getD j 0<=_/\(0<d.getD j 0->_);rw[e];refine⟨a1,a2,λhpos=>?_⟩;obtain⟨L,b1,b2,b3,b4,b5⟩:=a3 hpos;have hL:∀k∈L,d.getD k 0=d0.getD k 0:=λk hk=>hout k (b2 k hk).1 (λhc=>by obtain⟨kx,hkx,e'⟩:=iJ hc;have:=hnew kx hkx;rw[e']at this;have b6:0<d0.getD k 0:=(b2 k hk).2;omega);refine⟨L,b1,λk hk=>⟨(b2 k hk).1,by show 0<d.getD k 0;rw[hL k hk];exact(b2 k hk).2⟩,b3, ?_, ?_⟩;·rw[show L.map (λx=>d.getD x 0)=L.map (λx=>d0.getD x 0)from List.map_congr_left hL];exact b4
   ·intro e' he' k hk;show d.getD j 0*e' k=d.getD k 0*e' j;rw[hL k hk,e];exact b5 e' he' k hk
 ·intro x hx hp;by_cases hm:x∈s.1;·exact(hin x hm).2.1
  ·rw[hout x hx hm];exact hp
def vu{m:Int×Int×List Int}{d:List Int}(hl:d.length=m.1.toNat)(h:fC m.1.toNat (ai m) (λx=>d.getD x 0))(hp:∀x,x<m.1.toNat->0<d.getD x 0)
  (hc:∀i,i<m.1.toNat->∀j,j<m.1.toNat->d.getD i 0*ai m i j=-(d.getD j 0*ai m j i)):ca m=d:=by
 refine vk hl (λi hi=>⟨hp i hi,hc i hi⟩) (λi hi=>?_);obtain⟨L,a1,a2,a3,a4,a5⟩:=(h i hi).2.2 (hp i hi);exact⟨L,λk hk=>(a2 k hk).1,a4,a5⟩
def BP{m:Int×Int×List Int}{d:List Int}(hs:bW m=true)(h:fC m.1.toNat (ai m) (λx=>d.getD x 0))(hp:∀x,x<m.1.toNat->0<d.getD x 0)
  {i j:Nat} (hi:i<m.1.toNat) (hj:j<m.1.toNat) (hc:d.getD i 0*ai m i j≠-(d.getD j 0*ai m j i)):ca m=[]:=by
 refine vl (λ⟨e,he⟩=>hc ?_);by_cases ha:ai m i j=0;·rw[ha,(nD hs hi hj).1 ha];simp
 ·obtain⟨L,a1,a2,a3,a4,a5⟩:=(h i hi).2.2 (hp i hi);exact vh (he i hi).1 (he j hj).1 (a5 e he j (a3 j hj ha)) ((he i hi).2 j hj)
def dC(A:Nat->Nat->Int)(L:List Nat)(num den:List Int)(x k:Nat):Prop:=(A x k=0/\A k x=0)\/(k∈L/\num.getD x 0*A x k*den.getD k 0=-(num.getD k 0*A k x*den.getD x 0))
structure c9(n:Nat)(A:Nat->Nat->Int)(s:Nat)(num0:List Int)(L:List Nat)(num den:List Int):Prop where
 nl:num.length=n
 dl:den.length=n
 nd:L.Nodup
 lt:∀x∈L,x<n
 hd:L.getD 0 0=s
 pos:0<L.length
 out:∀x,x<n->x∉L->num.getD x 0=num0.getD x 0
 new:∀x∈L,num0.getD x 0=0
 frac:∃Q:Int,0<Q/\Q<=99 ^ (L.length-1)/\∀x∈L,0<num.getD x 0/\num.getD x 0<=99 ^ (L.length-1)/\0<den.getD x 0/\den.getD x 0∣Q/\Int.gcd (num.getD x 0) (den.getD x 0)=1
 good:∀e,b8 n A e->∀x∈L,num.getD x 0*e s=den.getD x 0*e x
def c9.le{n:Nat}{A:Nat->Nat->Int}{s:Nat}{num0 num den:List Int}{L:List Nat}(h:c9 n A s num0 L num den):L.length<=n:=rB n L h.nd h.lt
def nF(n:Nat)(A:Nat->Nat->Int)(num0:List Int):Prop:=∀y,y<n->num0.getD y 0≠0->∀k,k<n->(A y k≠0\/A k y≠0)->num0.getD k 0≠0
def BQ{a b c d:Int}(ha:0<a)(hb:0<b)(hc:0<c)(hd:0<d)(h1:Int.gcd a b=1)(h2:Int.gcd c d=1)(h:a*d=c*b):a=c/\b=d:=by
 obtain⟨a,rfl⟩:=Int.eq_ofNat_of_zero_le (Int.le_of_lt ha);obtain⟨b,rfl⟩:=Int.eq_ofNat_of_zero_le (Int.le_of_lt hb);obtain⟨c,rfl⟩:=Int.eq_ofNat_of_zero_le (Int.le_of_lt hc);obtain⟨d,rfl⟩:=Int.eq_ofNat_of_zero_le (Int.le_of_lt hd);have h3:a*d=c*b:=by exact_mod_cast h
 have e1:a∣c:=Nat.Coprime.dvd_of_dvd_mul_right (k:=a) (n:=b) h1 ⟨d,h3.symm⟩;have e2:c∣a:=Nat.Coprime.dvd_of_dvd_mul_right (k:=c) (n:=d) h2 ⟨b,h3⟩;have e3:=Nat.dvd_antisymm e1 e2;subst e3;exact⟨rfl,by rw[Nat.eq_of_mul_eq_mul_left (by omega) h3]⟩
section
variable {n : Nat} {A : Nat → Nat → Int} {s p j : Nat} {num0 num den : List Int} {L : List Nat}
structure nG(A:Nat->Nat->Int)(x j:Nat)(num den:List Int)(a0 b0 g a b:Int):Prop where
 ea0:a0=num.getD x 0*a9 (A x j)
 eb0:b0=den.getD x 0*a9 (A j x)
 eg:g=(Int.gcd a0 b0:Int)
 gp:0<g
 a0p:0<a0
 b0p:0<b0
 ea:a*g=a0
 eb:b*g=b0
 ap:0<a
 bp:0<b
 co:Int.gcd a b=1
def BR(x j:Nat)(hx:0<num.getD x 0)(hd:0<den.getD x 0)(h1:A x j≠0)(h2:A j x≠0) :
  nG A x j num den (num.getD x 0*a9 (A x j)) (den.getD x 0*a9 (A j x)) (Int.gcd (num.getD x 0*a9 (A x j)) (den.getD x 0*a9 (A j x)))
   (Int.tdiv (num.getD x 0*a9 (A x j)) (Int.gcd (num.getD x 0*a9 (A x j)) (den.getD x 0*a9 (A j x)))) (Int.tdiv (den.getD x 0*a9 (A j x)) (Int.gcd (num.getD x 0*a9 (A x j)) (den.getD x 0*a9 (A j x)))):=by
 have a0p:0<num.getD x 0*a9 (A x j):=Int.mul_pos hx (jH h1);have b0p:0<den.getD x 0*a9 (A j x):=Int.mul_pos hd (jH h2);generalize ha0:num.getD x 0*a9 (A x j)=a0 at a0p ⊢;generalize hb0:den.getD x 0*a9 (A j x)=b0 at b0p ⊢;have gp:0<(Int.gcd a0 b0:Int):=by have:=Int.gcd_pos_of_ne_zero_left b0 (show a0≠0 by omega);omega
 have ea:Int.tdiv a0 (Int.gcd a0 b0)*(Int.gcd a0 b0:Int)=a0:=Int.tdiv_mul_cancel (Int.gcd_dvd_left ..);have eb:Int.tdiv b0 (Int.gcd a0 b0)*(Int.gcd a0 b0:Int)=b0:=Int.tdiv_mul_cancel (Int.gcd_dvd_right ..);have pos:∀c d:Int,0<d->0<c*d->0<c:=λc d hd h=>by
  rcases Int.lt_or_le 0 c with h'|h';·exact h'
  ·have:=Int.mul_nonpos_of_nonpos_of_nonneg h' (Int.le_of_lt hd);omega
 refine⟨ha0.symm,hb0.symm,rfl,gp,a0p,b0p,ea,eb,pos _ _ gp (by rw[ea];exact a0p),pos _ _ gp (by rw[eb];exact b0p), ?_⟩;have h3:Int.gcd (Int.tdiv a0 (Int.gcd a0 b0)*(Int.gcd a0 b0:Int)) (Int.tdiv b0 (Int.gcd a0 b0)*(Int.gcd a0 b0:Int))=Int.gcd a0 b0:=by rw[ea,eb]
 rw[Int.gcd_mul_right,Int.natAbs_natCast]at h3;have gp':0<Int.gcd a0 b0:=by omega
 exact Nat.eq_of_mul_eq_mul_right gp' (by rw[h3,Nat.one_mul])
def rD(A:Nat->Nat->Int)(x j:Nat):Prop:=∃u:Int,(u=1\/u=-1)/\A x j=u*a9 (A x j)/\A j x=-(u*a9 (A j x))
def BS{x j:Nat}(h1:A x j≠0)(h2:A j x≠0)(h:(0<A x j)↔(0 < -A j x)):rD A x j:=by
 unfold rD a9;by_cases hp:0<A x j;·have:=h.1 hp;exact⟨1,Or.inl rfl,by omega,by omega⟩
 ·have:¬ 0 < -A j x:=λhc=>hp (h.2 hc);exact⟨-1,Or.inr rfl,by omega,by omega⟩
def vv{x:Nat}{a0 b0 g a b:Int}(st:nG A x j num den a0 b0 g a b)(hx:x<n)(hj:j<n){e:Nat->Int}(he:b8 n A e)(hg:num.getD x 0*e s=den.getD x 0*e x):a*e s=b*e j:=by
 have h1:=vr (he x hx).1 (he j hj).1 ((he x hx).2 j hj);have h2:=st.ea0;have h3:=st.eb0;have h4:=st.ea;have h5:=st.eb;have h6:g*(a*e s)=g*(b*e j):=by grind
 exact Int.eq_of_mul_eq_mul_left (by have:=st.gp;omega) h6
def vw{x:Nat}{a0 b0 g a b:Int}(st:nG A x j num den a0 b0 g a b)(sk:rD A x j):num.getD x 0*A x j*b=-(a*A j x*den.getD x 0):=by obtain⟨u,hu,h1,h2⟩:=sk;have h3:=st.ea0;have h4:=st.eb0;have h5:=st.ea;have h6:=st.eb;rw[h1,h2];grind
def c9.grow{a0 b0 g a b:Int}(h:c9 n A s num0 L num den)(hp:p<L.length)(hj:j<n)(hz:num.getD j 0=0)(st:nG A (L.getD p 0) j num den a0 b0 g a b)(hb:∀x y,a9 (A x y)<=99) :
  c9 n A s num0 (L++[j]) (num.set j a) (den.set j b)/\j∉L:=by
 obtain⟨Q,q1,q2,q3⟩:=h.frac;have hxm:L.getD p 0∈L:=bS 0 hp;have hnj:j∉L:=λhc=>by have:=(q3 j hc).1;omega
 have hxj:∀x∈L,j≠x:=λx hx e=>hnj (e▸hx);have hnl:j<num.length:=by rw[h.nl];exact hj
 have hdl:j<den.length:=by rw[h.dl];exact hj
 have e1:∀x∈L,(num.set j a).getD x 0=num.getD x 0:=λx hx=>by rw[bG hnl,if_neg (hxj x hx)]
 have e2:∀x∈L,(den.set j b).getD x 0=den.getD x 0:=λx hx=>by rw[bG hdl,if_neg (hxj x hx)]
 have e3:(num.set j a).getD j 0=a:=by rw[bG hnl,if_pos rfl]
 have e4:(den.set j b).getD j 0=b:=by rw[bG hdl,if_pos rfl]
 have hlen:(L++[j]).length-1=L.length-1+1:=by have:=h.pos;simp;omega
 have hpp:(0:Int)<=99 ^ (L.length-1):=Int.pow_nonneg (by omega);refine⟨⟨by rw[List.length_set,h.nl],by rw[List.length_set,h.dl], ?_, ?_,(fm h.pos).trans h.hd,by simp, ?_, ?_, ?_, ?_⟩,hnj⟩;·exact List.nodup_append.2 ⟨h.nd,by simp,λa ha' b hb e=>by rw[List.mem_singleton]at hb;subst hb;subst e;exact hnj ha'⟩
 ·intro x hx;rcases List.mem_append.1 hx with hx|hx;·exact h.lt x hx
  ·rw[List.mem_singleton]at hx;omega
 ·intro x hx hni;rw[List.mem_append,List.mem_singleton]at hni;rw[bG hnl,if_neg (λe=>hni (Or.inr e.symm))];exact h.out x hx (λhc=>hni (Or.inl hc))
 ·intro x hx;rcases List.mem_append.1 hx with hx|hx;·exact h.new x hx
  ·rw[List.mem_singleton]at hx;subst hx;rw[<-h.out x hj hnj];exact hz
 ·obtain⟨c1,c2,c3,c4,c5⟩:=q3 _ hxm;have ga:a<=a0:=by have:=Int.mul_le_mul_of_nonneg_left (show(1:Int)<=g by have:=st.gp;omega) (Int.le_of_lt st.ap);have:=st.ea;omega
  have hq1:0<a9 (A j (L.getD p 0)):=by
   have h1:=st.b0p;rw[st.eb0]at h1;rcases Int.lt_or_le 0 (a9 (A j (L.getD p 0)))with h'|h';·exact h'
   ·have:=Int.mul_nonpos_of_nonneg_of_nonpos (Int.le_of_lt c3) h';omega
  have hp1:0<=a9 (A (L.getD p 0) j):=by unfold a9;omega
  refine⟨Q*a9 (A j (L.getD p 0)),Int.mul_pos q1 hq1, ?_, ?_⟩;·rw[hlen,Int.pow_succ];exact Int.mul_le_mul q2 (hb _ _) (by omega) hpp
  ·intro x hx;rcases List.mem_append.1 hx with hx|hx;·rw[e1 x hx,e2 x hx];obtain⟨d1,d2,d3,d4,d5⟩:=q3 x hx;refine⟨d1, ?_,d3,Int.dvd_trans d4 ⟨_,rfl⟩,d5⟩;rw[hlen,Int.pow_succ];have:=Int.mul_le_mul_of_nonneg_left (show(1:Int)<=99 by omega) hpp;omega
   ·rw[List.mem_singleton]at hx;subst hx;rw[e3,e4];refine⟨st.ap, ?_,st.bp, ?_,st.co⟩
    ·rw[hlen,Int.pow_succ];have:a0<=99 ^ (L.length-1)*99:=by rw[st.ea0];exact Int.mul_le_mul c2 (hb _ _) hp1 hpp
     omega
    ·have h1:b∣b0:=⟨g,st.eb.symm⟩;have h2:b0∣Q*a9 (A x (L.getD p 0)):=by rw[st.eb0];exact Int.mul_dvd_mul c4 (Int.dvd_refl _)
     exact Int.dvd_trans h1 h2
 ·intro e he x hx;rcases List.mem_append.1 hx with hx|hx;·rw[e1 x hx,e2 x hx];exact h.good e he x hx
  ·rw[List.mem_singleton]at hx;subst hx;rw[e3,e4];exact vv st (h.lt _ hxm) hj he (h.good e he _ hxm)
def dC.grow{x k:Nat}{a b:Int}(hL:∀x∈L,j≠x)(hnl:j<num.length)(hdl:j<den.length)(hx:x∈L)(h:dC A L num den x k):dC A (L++[j]) (num.set j a) (den.set j b) x k:=by
 rcases h with h|⟨h1,h2⟩;·exact Or.inl h
 ·refine Or.inr ⟨List.mem_append_left _ h1, ?_⟩;rw[bG hnl,if_neg (hL x hx),bG hdl,if_neg (hL k h1),bG hnl,if_neg (hL k h1),bG hdl,if_neg (hL x hx)];exact h2
end
structure jI(n:Nat)(A:Nat->Nat->Int)(num out:List Int):Prop where
 nl:num.length=n
 ol:out.length=n
 closed:nF n A num
 done:∀j,j<n->num.getD j 0≠0->0<out.getD j 0/\(∀k,k<n->out.getD j 0*A j k=-(out.getD k 0*A k j)) /\
  ∃L:List Nat,(∀k∈L,k<n/\num.getD k 0≠0)/\bn (L.map λk=>out.getD k 0)=1/\∀e,b8 n A e->∀k∈L,out.getD j 0*e k=out.getD k 0*e j
section
variable {n : Nat} {A : Nat → Nat → Int} {s : Nat} {num0 num den out0 out2 out3 : List Int} {L : List Nat} {com g : Int}
def jI.piece(h:jI n A num0 out0)(f:c9 n A s num0 L num den)(he:∀x∈L,∀k,k<n->dC A L num den x k)(hc:0<com)(hg:0<g)
  (h2:∀x∈L,out2.getD x 0*den.getD x 0=com*num.getD x 0) (hgl:g=((bn (L.map λx=>out2.getD x 0):Nat):Int))
  (h3:∀x∈L,out3.getD x 0*g=out2.getD x 0) (ho:∀x,x<n->x∉L->out3.getD x 0=out0.getD x 0) (hl:out3.length=n) :
  jI n A num out3/\num.getD s 0≠0/\∀x,x<n->num0.getD x 0≠0->num.getD x 0≠0:=by
 obtain⟨Q,q1,q2,q3⟩:=f.frac;have hpos:∀x∈L,0<num.getD x 0/\0<den.getD x 0:=λx hx=>⟨(q3 x hx).1,(q3 x hx).2.2.1⟩;have hk:∀x∈L,out3.getD x 0*g*den.getD x 0=com*num.getD x 0:=λx hx=>by rw[h3 x hx];exact h2 x hx
 have hop:∀x∈L,0<out3.getD x 0:=λx hx=>by
  have h4:=Int.mul_pos hc (hpos x hx).1;rw[<-hk x hx]at h4;rcases Int.lt_or_le 0 (out3.getD x 0)with h'|h';·exact h'
  ·have h5:=Int.mul_nonpos_of_nonpos_of_nonneg h' (Int.le_of_lt hg);have h6:=Int.mul_nonpos_of_nonpos_of_nonneg h5 (Int.le_of_lt (hpos x hx).2);omega
 have hns:num.getD s 0≠0:=by have:=(hpos s (by rw[<-f.hd];exact bS 0 f.pos)).1;omega
 have old:∀x,x<n->num0.getD x 0≠0->x∉L:=λx hx h0 hc=>h0 (f.new x hc);refine⟨⟨f.nl,hl, ?_, ?_⟩,hns,λx hx h0=>by rw[f.out x hx (old x hx h0)];exact h0⟩
 ·intro y hy h1 k hk' ha;by_cases hm:y∈L
  ·rcases he y hm k hk' with hz|hz;·omega
   ·have:=(hpos k hz.1).1;omega
  ·rw[f.out y hy hm]at h1;have h4:=h.closed y hy h1 k hk' ha;rw[f.out k hk' (old k hk' h4)];exact h4
 ·intro j hj h1;by_cases hm:j∈L
  ·refine⟨hop j hm, ?_,L,λk hk'=>⟨f.lt k hk',by have:=(hpos k hk').1;omega⟩, ?_, ?_⟩
   ·intro k hk';rcases he j hm k hk' with⟨z1,z2⟩|⟨z1,z2⟩;·rw[z1,z2];simp
    ·have e1:=hk j hm;have e2:=hk k z1;have e3:(g*den.getD j 0*den.getD k 0)*(out3.getD j 0*A j k)=(g*den.getD j 0*den.getD k 0)*(-(out3.getD k 0*A k j)):=by grind
     have e4:=Int.mul_pos (Int.mul_pos hg (hpos j hm).2) (hpos k z1).2;exact Int.eq_of_mul_eq_mul_left (by omega) e3
   ·have e1:L.map (λx=>g*out3.getD x 0)=L.map (λx=>out2.getD x 0):=List.map_congr_left (λx hx=>by rw[Int.mul_comm];exact h3 x hx);have e2:=ny g (L.map (λx=>out3.getD x 0));rw[List.map_map]at e2;have e3:bn (L.map (λx=>out2.getD x 0))=g.natAbs*bn (L.map (λx=>out3.getD x 0)):=by rw[<-e1];exact e2
    have e5:bn (L.map (λx=>out2.getD x 0))=g.natAbs:=by have:=congrArg Int.natAbs hgl;simpa using this.symm
    rw[e5]at e3;exact Nat.eq_of_mul_eq_mul_left (show 0<g.natAbs by omega) (by rw[Nat.mul_one];exact e3.symm)
   ·intro e hge k hkL;have key:∀x∈L,out3.getD x 0*g*e s=com*e x:=by
     intro x hx;have e1:=hk x hx;have e2:=f.good e hge x hx;have e3:den.getD x 0*(out3.getD x 0*g*e s)=den.getD x 0*(com*e x):=by grind
     exact Int.eq_of_mul_eq_mul_left (by have:=(hpos x hx).2;omega) e3
    have e1:=key j hm;have e2:=key k hkL;have hs:0<e s:=(hge s (by rw[<-f.hd];exact f.lt _ (bS 0 f.pos))).1;have e3:(g*e s)*(out3.getD j 0*e k)=(g*e s)*(out3.getD k 0*e j):=by grind
    have e4:=Int.mul_pos hg hs;exact Int.eq_of_mul_eq_mul_left (by omega) e3
  ·rw[f.out j hj hm]at h1;obtain⟨a1,a2,L',a3,a4,a5⟩:=h.done j hj h1;rw[ho j hj hm];have hL':∀k∈L',k∉L:=λk hk'=>old k (a3 k hk').1 (a3 k hk').2;refine⟨a1, ?_,L',λk hk'=>⟨(a3 k hk').1,by rw[f.out k (a3 k hk').1 (hL' k hk')];exact(a3 k hk').2⟩, ?_, ?_⟩
   ·intro k hk';by_cases hkL:k∈L
    ·by_cases z1:A j k=0
     ·by_cases z2:A k j=0;·rw[z1,z2];simp
      ·exact absurd (f.new k hkL) (h.closed j hj h1 k hk' (Or.inr z2))
     ·exact absurd (f.new k hkL) (h.closed j hj h1 k hk' (Or.inl z1))
    ·rw[ho k hk' hkL];exact a2 k hk'
   ·rw[show L'.map (λk=>out3.getD k 0)=L'.map (λk=>out0.getD k 0)from List.map_congr_left (λk hk'=>ho k (a3 k hk').1 (hL' k hk'))];exact a4
   ·intro e hge k hk';rw[ho k (a3 k hk').1 (hL' k hk')];exact a5 e hge k hk'
end
def jI.fac{m:Int×Int×List Int}{num out:List Int}(h:jI m.1.toNat (ai m) num out)(hp:∀x,x<m.1.toNat->num.getD x 0≠0):ca m=out:=by refine vk h.ol (λi hi=>⟨(h.done i hi (hp i hi)).1,(h.done i hi (hp i hi)).2.1⟩) (λi hi=>?_);obtain⟨L,a1,a2,a3⟩:=(h.done i hi (hp i hi)).2.2;exact⟨L,λk hk=>(a1 k hk).1,a2,a3⟩
def BT{c d Q:Int}(hc:0<c)(hd:0<d)(h1:c∣Q)(h2:d∣Q)(hQ:0<Q) :
  0<(Int.gcd c d:Int)/\0<Int.tdiv c (Int.gcd c d)/\Int.tdiv c (Int.gcd c d)<=c/\0<Int.tdiv c (Int.gcd c d)*d/\Int.tdiv c (Int.gcd c d)*d∣Q/\c∣Int.tdiv c (Int.gcd c d)*d/\d∣Int.tdiv c (Int.gcd c d)*d:=by
 obtain⟨c,rfl⟩:=Int.eq_ofNat_of_zero_le (Int.le_of_lt hc);obtain⟨d,rfl⟩:=Int.eq_ofNat_of_zero_le (Int.le_of_lt hd);obtain⟨Q,rfl⟩:=Int.eq_ofNat_of_zero_le (Int.le_of_lt hQ);have e:Int.tdiv (c:Int) (Int.gcd (c:Int) (d:Int))=((c / Nat.gcd c d:Nat):Int):=rfl;rw[e];have hg:0<Nat.gcd c d:=Nat.gcd_pos_of_pos_left d (by omega);have h3:c / Nat.gcd c d*d=Nat.lcm c d:=by rw[Nat.lcm,Nat.mul_comm,Nat.mul_comm c d,Nat.mul_div_assoc _ (Nat.gcd_dvd_left c d)]
 have h4:0<c / Nat.gcd c d:=Nat.div_pos (Nat.gcd_le_left d (by omega)) hg;have h5:c / Nat.gcd c d<=c:=Nat.div_le_self _ _;rw[<-Int.natCast_mul,h3];have h6:0<Nat.lcm c d:=Nat.lcm_pos (by omega) (by omega);refine⟨by show(0:Int)<((Nat.gcd c d:Nat):Int);omega,by omega,by omega,by omega, ?_, ?_, ?_⟩;·exact Int.natCast_dvd_natCast.2 (Nat.lcm_dvd (Int.natCast_dvd_natCast.1 h1) (Int.natCast_dvd_natCast.1 h2))
 ·exact Int.natCast_dvd_natCast.2 (Nat.dvd_lcm_left c d)
 ·exact Int.natCast_dvd_natCast.2 (Nat.dvd_lcm_right c d)
end Go.Fw
set_option linter.defProp false
set_option linter.unusedSectionVars false
set_option linter.unusedSimpArgs false
set_option maxRecDepth 100000
namespace Go.Fw
section
variable {J : Type}
namespace bO
def P(a:List Int):Bool:=decide (a.length<1099511627776)
abbrev g(a:List Int):List Int:=a
def Z1{J:Type}(N:Nat)(a:LI)(kn:LI->Option J):Option J :=
 kn a
def Z3{J:Type}(N:Nat)(a:LI)(kn:LI->LI->Option J):Option J :=
 cond (lk N (bh 0 (a.length:Int)&&decide ((a.length:Int)<1099511627776))) (
  kn (List.replicate (a.length:Int).toNat (0:Int)) a) none
def Z6{J:Type}(N:Nat)(a b:LI)(kn:LI->LI->Int->Option J):Option J :=
 kn a b 0
def Z9{J:Type}(N:Nat)(c b:LI)(a:Int)(kn:LI->LI->Int->Option J)(k0:LI->Option J):Option J :=
 cond (lk N (decide (a<(b.length:Int))))
 (
  cond (lk N (az a b.length)) (
   cond (lk N (az a c.length)) (
    kn (c.set a.toNat (b.getD a.toNat 0)) b (av (a+1))) none) none)
 (
  k0 c)
def Z8L{J:Type}(N:Nat)(k0:LI->Option J):Nat->LI->LI->Int->Option J
 |0,_,_,_=>none
 |M+1,a,b,c=>Z9 N a b c (λa b c=>Z8L N k0 M a b c) k0
def Z8 N a b c k0:=(Z8L N k0 N a b c:Option J)
def Z7 N a b c kn:=(Z8 N a b c kn:Option J)
def Z5 N a b kn:=(Z6 N a b (λa b c=>Z7 N a b c kn):Option J)
def Z10{J:Type}(N:Nat)(a:LI)(kr:LI->Option J):Option J :=
 kr a
def Z4 N a b kr:=(Z5 N a b (λa=>Z10 N a kr):Option J)
def Z2 N a kr:=(Z3 N a (λb a=>Z4 N b a kr):Option J)
def Z0 N a kr:=(Z1 N a (λa=>Z2 N a kr):Option J)
def Spec:Prop:=∀ (v0:LI),Ty.bd (.sl 0 (.int .i64)) v0->P v0=true->∃N0,∀N,N0<=N->Z0 N v0 (λv2=>some ((),(v2,())))=some ((),((g v0),()))
def loop{J:Type}(N:Nat)(k0:List Int->Option J)(a:List Int)(ha:a.length<=maxLen):∀(M j:Nat) (out:List Int),out.length=a.length->out.take j=a.take j->j<=a.length->a.length-j<M ->
  Z8L N k0 M out a (j:Int)=k0 a:=by
 intro M;induction M with
 |zero=>intro j out _ _ _ h;omega
 |succ M ih =>
  intro j out ho ht hj hM;simp only[Z8L,Z9];by_cases h:j<a.length;·rw[ct (dt (by omega)),ct (aL h),ct (aL (by omega)),Int.toNat_natCast,bz (by omega)];refine ih (j+1) _ (by simpa using ho) ?_ h (by omega);rw[rg (by omega),ht,rc 0 h]
  ·rw[cf (df (by omega))];have:j=a.length:=by omega
   subst this;rw[List.take_of_length_le (by omega),List.take_length]at ht;rw[ht]
def ok:Spec:=λa hb hp=>⟨a.length+1,λN hN=>by
 have hl:a.length<1099511627776:=by simpa[P]using hp
 simp only[Z1,Z3,Z6,Z9,Z8,Z7,Z5,Z10,Z4,Z2,Z0];rw[ct (by simp[bh];omega)];exact loop _ _ a hb.1 _ 0 _ (by simp) (by simp) (by omega) (by omega)⟩
end bO
end
end Go.Fw
namespace Go.Fw
def vz(a:List Int)(h:(a.length:Int)<=1048576):bO.P a=true:=by unfold bO.P;exact dt (by omega)
end Go.Fw
namespace Go.Fw
section
variable {J : Type}
namespace ce
def g(a:List Int)(left:Int):Int:=if av (left-a.length)<0 then -1 else av (left-a.length)
def Z0{J:Type}(N:Nat)(a:LI)(b:Int)(kr:Int->Option J):Option J :=
 cond (lk N (decide ((av (b-(a.length:Int)))<0)))
 (
  kr (-1))
 (
  kr (av (b-(a.length:Int))))
def Spec:Prop:=∀ (v0:LI) (v1:Int),Ty.bd (.sl 0 (.int .i64)) v0->∃N0,∀N,N0<=N->Z0 N v0 v1 (λv4=>some ((),(v4,())))=some ((),((g v0 v1),()))
def ok:Spec:=λa left ha=>⟨0,λN hN=>by
 simp only[Z0,g];by_cases h:av (left-a.length)<0;·rw[ct (dt h),if_pos h]
 ·rw[cf (df h),if_neg h]⟩
end ce
end
end Go.Fw
namespace Go.Fw
def nH(a:List Int)(left:Int)(hb:a.length<=maxLen)(h0:0<=left)(h1:left<=1048576)(h:¬ ce.g a left<0):(a.length:Int)<=left/\ce.g a left=left-a.length:=by
 have hw:av (left-a.length)=left-a.length:=bJ (by rw[bR]at hb;omega) (by omega);unfold ce.g at h ⊢;rw[hw]at h ⊢;by_cases hl:left-(a.length:Int)<0;·rw[if_pos hl]at h;omega
 ·rw[if_neg hl];omega
end Go.Fw
namespace Go.Fw
section
variable {J : Type}
namespace cN
def g(a:List Int×Int)(left:Int):Int:=if ce.g a.1 left<0 then -1 else ce.g a.1 left
def Z0{J:Type}(N:Nat)(a:LI×Int)(b:Int)(kr:Int->Option J):Option J :=
 cond (lk N (decide ((ce.g a.1 b)<0)))
 (
  kr (-1))
 (
  kr (ce.g a.1 b))
def Spec:Prop:=∀ (v0:LI×Int) (v1:Int),Ty.bd (.pair (.sl 0 (.int .i64)) (.int .i64)) v0->∃N0,∀N,N0<=N->Z0 N v0 v1 (λv4=>some ((),(v4,())))=some ((),((g v0 v1),()))
def ok:Spec:=λa left ha=>⟨0,λN hN=>by
 simp only[Z0,g];by_cases h:ce.g a.1 left<0;·rw[ct (dt h),if_pos h]
 ·rw[cf (df h),if_neg h]⟩
end cN
namespace bA
def sz:List (List Int×Int)->Int->Int
 |[],left=>left
 |t::ts,left=>if cN.g t left<0 then -1 else sz ts (cN.g t left)
def g(a:List (List Int×Int))(left:Int):Int:=if av (left-a.length)<0 then -1 else sz a (av (left-a.length))
def Z1{J:Type}(N:Nat)(a:List (LI×Int))(b:Int)(kn:(List (LI×Int))->Int->Option J):Option J :=
 kn a b
def Z3{J:Type}(N:Nat)(a:List (LI×Int))(b:Int)(kn:(List (LI×Int))->Int->Option J):Option J :=
 kn a (av (b-(a.length:Int)))
def Z5{J:Type}(N:Nat)(b:List (LI×Int))(a:Int)(kn:(List (LI×Int))->Int->Option J)(kr:Int->Option J):Option J :=
 cond (lk N (decide (a<0)))
 (
  kr (-1))
 (
  kn b a)
def Z8{J:Type}(N:Nat)(a:List (LI×Int))(b:Int)(kn:(List (LI×Int))->I2 (Option J)):Option J :=
 kn a b 0
def Z11{J:Type}(N:Nat)(a:List (LI×Int))(c b:Int)(kn:(List (LI×Int))->I2 (Option J))(k0 kr:Int->Option J):Option J :=
 cond (lk N (decide (b<(a.length:Int))))
 (
  cond (lk N (az b a.length)) (
   cond (lk N (decide ((cN.g (a.getD b.toNat ([],0)) c)<0)))
   (
    kr (-1))
   (
    kn a (cN.g (a.getD b.toNat ([],0)) c) (av (b+1)))) none)
 (
  k0 c)
def Z10L{J:Type}(N:Nat)(k0 kr:Int->Option J):Nat->(List (LI×Int))->Int->Int->Option J
 |0,_,_,_=>none
 |M+1,a,b,c=>Z11 N a b c (λa b c=>Z10L N k0 kr M a b c) k0 kr
def Z10 N a b c k0 kr:=(Z10L N k0 kr N a b c:Option J)
def Z9 N a b c kn kr:=(Z10 N a b c kn kr:Option J)
def Z7 N a b kn kr:=(Z8 N a b (λa b c=>Z9 N a b c kn kr):Option J)
def Z12{J:Type}(N:Nat)(a:Int)(kr:Int->Option J):Option J :=
 kr a
def Z6 N b a kr:=(Z7 N b a (λa=>Z12 N a kr) kr:Option J)
def Z4 N a b kr:=(Z5 N a b (λa b=>Z6 N a b kr) kr:Option J)
def Z2 N a b kr:=(Z3 N a b (λa b=>Z4 N a b kr):Option J)
def Z0 N a b kr:=(Z1 N a b (λa b=>Z2 N a b kr):Option J)
def Spec:Prop:=∀ (v0:List (LI×Int)) (v1:Int),Ty.bd (.sl 0 (.pair (.sl 0 (.int .i64)) (.int .i64))) v0->∃N0,∀N,N0<=N->Z0 N v0 v1 (λv4=>some ((),(v4,())))=some ((),((g v0 v1),()))
def loop{J:Type}(N:Nat)(kr:Int->Option J)(a:List (List Int×Int))(ha:a.length<=maxLen):∀(M j:Nat) (k:Int),j<=a.length->a.length-j<M ->
  Z10L N kr kr M a k (j:Int)=kr (sz (a.drop j) k):=by
 intro M;induction M with
 |zero=>intro j k _ h;omega
 |succ M ih =>
  intro j k hj hM;simp only[Z10L,Z11];by_cases h:j<a.length
  ·rw[ct (dt (by omega)),ct (aL h),Int.toNat_natCast,bz (by omega),ih (j+1) _ h (by omega),cw ([],0) h];by_cases e:cN.g (a.getD j ([],0)) k<0;·rw[ct (dt e),sz,if_pos e]
   ·rw[cf (df e),sz,if_neg e]
  ·rw[cf (df (by omega)),List.drop_of_length_le (by omega),sz]
def ok:Spec:=λa left ha=>⟨a.length+1,λN hN=>by
 simp only[Z1,Z3,Z5,Z8,Z11,Z10,Z9,Z7,Z12,Z6,Z4,Z2,Z0,g];by_cases h:av (left-a.length)<0;·rw[ct (dt h),if_pos h]
 ·rw[cf (df h),if_neg h];rw[show(0:Int)=((0:Nat):Int)from rfl,loop _ _ a ha.1 N 0 _ (by omega) (by omega)];simp⟩
end bA
namespace cO
def g(a:Int×List (List Int×Int))(left:Int):Int:=if bA.g a.2 left<0 then -1 else bA.g a.2 left
def Z0{J:Type}(N:Nat)(a:Int×List (LI×Int))(b:Int)(kr:Int->Option J):Option J :=
 cond (lk N (decide ((bA.g a.2 b)<0)))
 (
  kr (-1))
 (
  kr (bA.g a.2 b))
def Spec:Prop:=∀ (v0:Int×List (LI×Int)) (v1:Int),Ty.bd (.pair (.int .i64) (.sl 0 (.pair (.sl 0 (.int .i64)) (.int .i64)))) v0->∃N0,∀N,N0<=N->Z0 N v0 v1 (λv4=>some ((),(v4,())))=some ((),((g v0 v1),()))
def ok:Spec:=λa left ha=>⟨0,λN hN=>by
 simp only[Z0,g];by_cases h:bA.g a.2 left<0;·rw[ct (dt h),if_pos h]
 ·rw[cf (df h),if_neg h]⟩
end cO
namespace eG
def P(a:List Int×Int):Bool:=bO.P a.1
abbrev g(a:List Int×Int):List Int×Int:=a
def Z0{J:Type}(N:Nat)(a:LI×Int)(kr:LI->Int->Option J):Option J :=
 cond (lk N (bO.P a.1)) (
  kr (bO.g a.1) a.2) none
def Spec:Prop:=∀ (v0:LI×Int),Ty.bd (.pair (.sl 0 (.int .i64)) (.int .i64)) v0->P v0=true->∃N0,∀N,N0<=N->Z0 N v0 (λv2_0 v2_1=>some ((),((v2_0,v2_1),())))=some ((),((g v0),()))
def ok:Spec:=λa hb hp=>⟨0,λN hN=>by simp only[Z0];exact ct (show bO.P a.1=true from hp)⟩
end eG
namespace bX
def P(a:List (List Int×Int)):Bool:=decide (a.length<1099511627776)&&a.all eG.P
abbrev g(a:List (List Int×Int)):List (List Int×Int):=a
def Z1{J:Type}(N:Nat)(a:List (LI×Int))(kn:(List (LI×Int))->Option J):Option J :=
 kn a
def Z3{J:Type}(N:Nat)(a:List (LI×Int))(kn:(List (LI×Int))->(List (LI×Int))->Option J):Option J :=
 cond (lk N (bh 0 (a.length:Int)&&decide ((a.length:Int)<1099511627776))) (
  kn (List.replicate (a.length:Int).toNat ((([]:List Int),0):LI×Int)) a) none
def Z6{J:Type}(N:Nat)(a b:List (LI×Int))(kn:(List (LI×Int))->(List (LI×Int))->Int->Option J):Option J :=
 kn a b 0
def Z9{J:Type}(N:Nat)(c b:List (LI×Int))(a:Int)(kn:(List (LI×Int))->(List (LI×Int))->Int->Option J)(k0:(List (LI×Int))->Option J):Option J :=
 cond (lk N (decide (a<(b.length:Int))))
 (
  cond (lk N (az a b.length)) (
   cond (lk N (eG.P (b.getD a.toNat ([],0)))) (
    cond (lk N (az a c.length)) (
     kn (c.set a.toNat (eG.g (b.getD a.toNat ([],0)))) b (av (a+1))) none) none) none)
 (
  k0 c)
def Z8L{J:Type}(N:Nat)(k0:(List (LI×Int))->Option J):Nat->(List (LI×Int))->(List (LI×Int))->Int->Option J
 |0,_,_,_=>none
 |M+1,a,b,c=>Z9 N a b c (λa b c=>Z8L N k0 M a b c) k0
def Z8 N a b c k0:=(Z8L N k0 N a b c:Option J)
def Z7 N a b c kn:=(Z8 N a b c kn:Option J)
def Z5 N a b kn:=(Z6 N a b (λa b c=>Z7 N a b c kn):Option J)
def Z10{J:Type}(N:Nat)(a:List (LI×Int))(kr:(List (LI×Int))->Option J):Option J :=
 kr a
def Z4 N a b kr:=(Z5 N a b (λa=>Z10 N a kr):Option J)
def Z2 N a kr:=(Z3 N a (λb a=>Z4 N b a kr):Option J)
def Z0 N a kr:=(Z1 N a (λa=>Z2 N a kr):Option J)
def Spec:Prop:=∀ (v0:List (LI×Int)),Ty.bd (.sl 0 (.pair (.sl 0 (.int .i64)) (.int .i64))) v0->P v0=true->∃N0,∀N,N0<=N->Z0 N v0 (λv2=>some ((),(v2,())))=some ((),((g v0),()))
def loop{J:Type}(N:Nat)(k0:List (List Int×Int)->Option J)(a:List (List Int×Int))(ha:a.length<=maxLen)(hp:∀t∈a,eG.P t=true):∀(M j:Nat) (out:List (List Int×Int)),out.length=a.length->out.take j=a.take j->j<=a.length->a.length-j<M ->
  Z8L N k0 M out a (j:Int)=k0 a:=by
 intro M;induction M with
 |zero=>intro j out _ _ _ h;omega
 |succ M ih =>
  intro j out ho ht hj hM;simp only[Z8L,Z9];by_cases h:j<a.length;·rw[ct (dt (by omega)),ct (aL h),Int.toNat_natCast,ct (hp _ (bS _ h)),ct (aL (by omega)),bz (by omega)];refine ih (j+1) _ (by simpa using ho) ?_ h (by omega);rw[rg (by omega),ht];exact rc ([],0) h
  ·rw[cf (df (by omega))];have:j=a.length:=by omega
   subst this;rw[List.take_of_length_le (by omega),List.take_length]at ht;rw[ht]
def ok:Spec:=λa hb hp=>⟨a.length+1,λN hN=>by simp only[P,Bool.and_eq_true,decide_eq_true_eq,List.all_eq_true]at hp;have hl:=hp.1;simp only[Z1,Z3,Z6,Z9,Z8,Z7,Z5,Z10,Z4,Z2,Z0];rw[ct (by simp[bh];omega)];exact loop _ _ a hb.1 hp.2 _ 0 _ (by simp) (by simp) (by omega) (by omega)⟩
end bX
namespace dK
def P(a:Int×List (List Int×Int)):Bool:=bX.P a.2
abbrev g(a:Int×List (List Int×Int)):Int×List (List Int×Int):=a
def Z0{J:Type}(N:Nat)(a:Int×List (LI×Int))(kr:(List (LI×Int))->Int->Option J):Option J :=
 cond (lk N (bX.P a.2)) (
  kr (bX.g a.2) a.1) none
def Spec:Prop:=∀ (v0:Int×List (LI×Int)),Ty.bd (.pair (.int .i64) (.sl 0 (.pair (.sl 0 (.int .i64)) (.int .i64)))) v0->P v0=true->∃N0,∀N,N0<=N->Z0 N v0 (λv2_1 v2_0=>some ((),((v2_0,v2_1),())))=some ((),((g v0),()))
def ok:Spec:=λa hb hp=>⟨0,λN hN=>by simp only[Z0];exact ct (show bX.P a.2=true from hp)⟩
end dK
end
end Go.Fw
namespace Go.Fw
def rE:∀(l:List (List Int×Int)) (left:Int),(∀t∈l,t.1.length<=maxLen)->0<=left->left<=1048576->¬ bA.sz l left<0->∀t∈l,eG.P t=true
 |[],_,_,_,_,_,t,ht=>by cases ht
 |x::xs,left,hb,h0,h1,h,t,ht=>by
  rw[bA.sz]at h;by_cases e:cN.g x left<0;·rw[if_pos e]at h;omega
  rw[if_neg e]at h;have e':¬ ce.g x.1 left<0:=by intro hlt;apply e;unfold cN.g;rw[if_pos hlt];omega
  obtain⟨a1,a2⟩:=nH x.1 left (hb x List.mem_cons_self) h0 h1 e';have e2:cN.g x left=left-x.1.length:=by unfold cN.g;rw[if_neg e',a2]
  rcases List.mem_cons.1 ht with rfl|ht;·exact vz _ (by omega)
  ·rw[e2]at h;exact rE xs _ (λt h=>hb t (List.mem_cons_of_mem _ h)) (by omega) (by omega) h t ht
end Go.Fw
namespace Go.Fw
section
variable {J : Type}
namespace cC
def g(a:Int×Int×List Int)(left:Int):Int:=if ce.g a.2.2 left<0 then -1 else ce.g a.2.2 left
def Z0{J:Type}(N:Nat)(a:MT)(b:Int)(kr:Int->Option J):Option J :=
 cond (lk N (decide ((ce.g a.2.2 b)<0)))
 (
  kr (-1))
 (
  kr (ce.g a.2.2 b))
def Spec:Prop:=∀ (v0:MT) (v1:Int),Ty.bd (.pair (.int .i64) (.pair (.int .i64) (.sl 0 (.int .i64)))) v0->∃N0,∀N,N0<=N->Z0 N v0 v1 (λv4=>some ((),(v4,())))=some ((),((g v0 v1),()))
def ok:Spec:=λa left ha=>⟨0,λN hN=>by
 simp only[Z0,g];by_cases h:ce.g a.2.2 left<0;·rw[ct (dt h),if_pos h]
 ·rw[cf (df h),if_neg h]⟩
end cC
namespace dX
def P(a:Int×Int×List Int):Bool:=bO.P a.2.2
abbrev g(a:Int×Int×List Int):Int×Int×List Int:=a
def Z0{J:Type}(N:Nat)(a:MT)(kr:LI->I2 (Option J)):Option J :=
 cond (lk N (bO.P a.2.2)) (
  kr (bO.g a.2.2) a.1 a.2.1) none
def Spec:Prop:=∀ (v0:MT),Ty.bd (.pair (.int .i64) (.pair (.int .i64) (.sl 0 (.int .i64)))) v0->P v0=true->∃N0,∀N,N0<=N->Z0 N v0 (λv2_2 v2_0 v2_1=>some ((),((v2_0,(v2_1,v2_2)),())))=some ((),((g v0),()))
def ok:Spec:=λa hb hp=>⟨0,λN hN=>by simp only[Z0];exact ct (show bO.P a.2.2=true from hp)⟩
end dX
end
end Go.Fw
namespace Go.Fw
def BU(a:Int×Int×List Int)(hb:a.2.2.length<=maxLen)(h:¬ cC.g a 1048576<0):dX.P a=true/\a.2.2.length<=1048576:=by
 have h':¬ ce.g a.2.2 1048576<0:=by
  unfold cC.g at h;by_cases e:ce.g a.2.2 1048576<0;·rw[if_pos e]at h;omega
  ·exact e
 have:=(nH a.2.2 1048576 hb (by omega) (by omega) h').1;exact⟨vz _ this,by omega⟩
end Go.Fw
namespace Go.Fw
section
variable {J : Type}
namespace bN
def sz:List (Int×List (List Int×Int))->Int->Int
 |[],left=>left
 |t::ts,left=>if cO.g t left<0 then -1 else sz ts (cO.g t left)
def g(a:List (Int×List (List Int×Int)))(left:Int):Int:=if av (left-a.length)<0 then -1 else sz a (av (left-a.length))
def Z1{J:Type}(N:Nat)(a:List (Int×List (LI×Int)))(b:Int)(kn:(List (Int×List (LI×Int)))->Int->Option J):Option J :=
 kn a b
def Z3{J:Type}(N:Nat)(a:List (Int×List (LI×Int)))(b:Int)(kn:(List (Int×List (LI×Int)))->Int->Option J):Option J :=
 kn a (av (b-(a.length:Int)))
def Z5{J:Type}(N:Nat)(b:List (Int×List (LI×Int)))(a:Int)(kn:(List (Int×List (LI×Int)))->Int->Option J)(kr:Int->Option J):Option J :=
 cond (lk N (decide (a<0)))
 (
  kr (-1))
 (
  kn b a)
def Z8{J:Type}(N:Nat)(a:List (Int×List (LI×Int)))(b:Int)(kn:(List (Int×List (LI×Int)))->I2 (Option J)):Option J :=
 kn a b 0
def Z11{J:Type}(N:Nat)(a:List (Int×List (LI×Int)))(c b:Int)(kn:(List (Int×List (LI×Int)))->I2 (Option J))(k0 kr:Int->Option J):Option J :=
 cond (lk N (decide (b<(a.length:Int))))
 (
  cond (lk N (az b a.length)) (
   cond (lk N (decide ((cO.g (a.getD b.toNat (0,[])) c)<0)))
   (
    kr (-1))
   (
    kn a (cO.g (a.getD b.toNat (0,[])) c) (av (b+1)))) none)
 (
  k0 c)
def Z10L{J:Type}(N:Nat)(k0 kr:Int->Option J):Nat->(List (Int×List (LI×Int)))->Int->Int->Option J
 |0,_,_,_=>none
 |M+1,a,b,c=>Z11 N a b c (λa b c=>Z10L N k0 kr M a b c) k0 kr
def Z10 N a b c k0 kr:=(Z10L N k0 kr N a b c:Option J)
def Z9 N a b c kn kr:=(Z10 N a b c kn kr:Option J)
def Z7 N a b kn kr:=(Z8 N a b (λa b c=>Z9 N a b c kn kr):Option J)
def Z12{J:Type}(N:Nat)(a:Int)(kr:Int->Option J):Option J :=
 kr a
def Z6 N b a kr:=(Z7 N b a (λa=>Z12 N a kr) kr:Option J)
def Z4 N a b kr:=(Z5 N a b (λa b=>Z6 N a b kr) kr:Option J)
def Z2 N a b kr:=(Z3 N a b (λa b=>Z4 N a b kr):Option J)
def Z0 N a b kr:=(Z1 N a b (λa b=>Z2 N a b kr):Option J)
def Spec:Prop:=∀ (v0:List (Int×List (LI×Int))) (v1:Int),Ty.bd (.sl 0 (.pair (.int .i64) (.sl 0 (.pair (.sl 0 (.int .i64)) (.int .i64))))) v0->∃N0,∀N,N0<=N->Z0 N v0 v1 (λv4=>some ((),(v4,())))=some ((),((g v0 v1),()))
def loop{J:Type}(N:Nat)(kr:Int->Option J)(a:List (Int×List (List Int×Int)))(ha:a.length<=maxLen):∀(M j:Nat) (k:Int),j<=a.length->a.length-j<M ->
  Z10L N kr kr M a k (j:Int)=kr (sz (a.drop j) k):=by
 intro M;induction M with
 |zero=>intro j k _ h;omega
 |succ M ih =>
  intro j k hj hM;simp only[Z10L,Z11];by_cases h:j<a.length
  ·rw[ct (dt (by omega)),ct (aL h),Int.toNat_natCast,bz (by omega),ih (j+1) _ h (by omega),cw (0,[]) h];by_cases e:cO.g (a.getD j (0,[])) k<0;·rw[ct (dt e),sz,if_pos e]
   ·rw[cf (df e),sz,if_neg e]
  ·rw[cf (df (by omega)),List.drop_of_length_le (by omega),sz]
def ok:Spec:=λa left ha=>⟨a.length+1,λN hN=>by
 simp only[Z1,Z3,Z5,Z8,Z11,Z10,Z9,Z7,Z12,Z6,Z4,Z2,Z0,g];by_cases h:av (left-a.length)<0;·rw[ct (dt h),if_pos h]
 ·rw[cf (df h),if_neg h];rw[show(0:Int)=((0:Nat):Int)from rfl,loop _ _ a ha.1 N 0 _ (by omega) (by omega)];simp⟩
end bN
namespace eT
def g(a:(Int×Int×List Int)×List (Int×List (List Int×Int)))(left:Int):Int:=if cC.g a.1 left<0 then -1 else if bN.g a.2 (cC.g a.1 left)<0 then -1 else bN.g a.2 (cC.g a.1 left)
def Z0{J:Type}(N:Nat)(a:(MT)×List (Int×List (LI×Int)))(b:Int)(kr:Int->Option J):Option J :=
 cond (lk N (decide ((cC.g a.1 b)<0)))
 (
  kr (-1))
 (
  cond (lk N (decide ((bN.g a.2 (cC.g a.1 b))<0)))
  (
   kr (-1))
  (
   kr (bN.g a.2 (cC.g a.1 b))))
def Spec:Prop:=∀ (v0:(MT)×List (Int×List (LI×Int))) (v1:Int),Ty.bd (.pair (.pair (.int .i64) (.pair (.int .i64) (.sl 0 (.int .i64)))) (.sl 0 (.pair (.int .i64) (.sl 0 (.pair (.sl 0 (.int .i64)) (.int .i64)))))) v0->∃N0,∀N,N0<=N->Z0 N v0 v1 (λv4=>some ((),(v4,())))=some ((),((g v0 v1),()))
def ok:Spec:=λa left ha=>⟨0,λN hN=>by
 simp only[Z0,g];by_cases h:cC.g a.1 left<0;·rw[ct (dt h),if_pos h]
 ·rw[cf (df h),if_neg h];by_cases h2:bN.g a.2 (cC.g a.1 left)<0;·rw[ct (dt h2),if_pos h2]
  ·rw[cf (df h2),if_neg h2]⟩
end eT
namespace cy
def P(a:List (Int×List (List Int×Int))):Bool:=decide (a.length<1099511627776)&&a.all dK.P
abbrev g(a:List (Int×List (List Int×Int))):List (Int×List (List Int×Int)):=a
def Z1{J:Type}(N:Nat)(a:List (Int×List (LI×Int)))(kn:(List (Int×List (LI×Int)))->Option J):Option J :=
 kn a
def Z3{J:Type}(N:Nat)(a:List (Int×List (LI×Int)))(kn:(List (Int×List (LI×Int)))->(List (Int×List (LI×Int)))->Option J):Option J :=
 cond (lk N (bh 0 (a.length:Int)&&decide ((a.length:Int)<1099511627776))) (
  kn (List.replicate (a.length:Int).toNat ((0,([]:List (LI×Int))):Int×List (LI×Int))) a) none
def Z6{J:Type}(N:Nat)(a b:List (Int×List (LI×Int)))(kn:(List (Int×List (LI×Int)))->(List (Int×List (LI×Int)))->Int->Option J):Option J :=
 kn a b 0
def Z9{J:Type}(N:Nat)(c b:List (Int×List (LI×Int)))(a:Int)(kn:(List (Int×List (LI×Int)))->(List (Int×List (LI×Int)))->Int->Option J)(k0:(List (Int×List (LI×Int)))->Option J):Option J :=
 cond (lk N (decide (a<(b.length:Int))))
 (
  cond (lk N (az a b.length)) (
   cond (lk N (dK.P (b.getD a.toNat (0,[])))) (
    cond (lk N (az a c.length)) (
     kn (c.set a.toNat (dK.g (b.getD a.toNat (0,[])))) b (av (a+1))) none) none) none)
 (
  k0 c)
def Z8L{J:Type}(N:Nat)(k0:(List (Int×List (LI×Int)))->Option J):Nat->(List (Int×List (LI×Int)))->(List (Int×List (LI×Int)))->Int->Option J
 |0,_,_,_=>none
 |M+1,a,b,c=>Z9 N a b c (λa b c=>Z8L N k0 M a b c) k0
def Z8 N a b c k0:=(Z8L N k0 N a b c:Option J)
def Z7 N a b c kn:=(Z8 N a b c kn:Option J)
def Z5 N a b kn:=(Z6 N a b (λa b c=>Z7 N a b c kn):Option J)
def Z10{J:Type}(N:Nat)(a:List (Int×List (LI×Int)))(kr:(List (Int×List (LI×Int)))->Option J):Option J :=
 kr a
def Z4 N a b kr:=(Z5 N a b (λa=>Z10 N a kr):Option J)
def Z2 N a kr:=(Z3 N a (λb a=>Z4 N b a kr):Option J)
def Z0 N a kr:=(Z1 N a (λa=>Z2 N a kr):Option J)
def Spec:Prop:=∀ (v0:List (Int×List (LI×Int))),Ty.bd (.sl 0 (.pair (.int .i64) (.sl 0 (.pair (.sl 0 (.int .i64)) (.int .i64))))) v0->P v0=true->∃N0,∀N,N0<=N->Z0 N v0 (λv2=>some ((),(v2,())))=some ((),((g v0),()))
def loop{J:Type}(N:Nat)(k0:List (Int×List (List Int×Int))->Option J)(a:List (Int×List (List Int×Int)))(ha:a.length<=maxLen)(hp:∀t∈a,dK.P t=true):∀(M j:Nat) (out:List (Int×List (List Int×Int))),out.length=a.length->out.take j=a.take j->j<=a.length->a.length-j<M ->
  Z8L N k0 M out a (j:Int)=k0 a:=by
 intro M;induction M with
 |zero=>intro j out _ _ _ h;omega
 |succ M ih =>
  intro j out ho ht hj hM;simp only[Z8L,Z9];by_cases h:j<a.length;·rw[ct (dt (by omega)),ct (aL h),Int.toNat_natCast,ct (hp _ (bS _ h)),ct (aL (by omega)),bz (by omega)];refine ih (j+1) _ (by simpa using ho) ?_ h (by omega);rw[rg (by omega),ht];exact rc (0,[]) h
  ·rw[cf (df (by omega))];have:j=a.length:=by omega
   subst this;rw[List.take_of_length_le (by omega),List.take_length]at ht;rw[ht]
def ok:Spec:=λa hb hp=>⟨a.length+1,λN hN=>by simp only[P,Bool.and_eq_true,decide_eq_true_eq,List.all_eq_true]at hp;have hl:=hp.1;simp only[Z1,Z3,Z6,Z9,Z8,Z7,Z5,Z10,Z4,Z2,Z0];rw[ct (by simp[bh];omega)];exact loop _ _ a hb.1 hp.2 _ 0 _ (by simp) (by simp) (by omega) (by omega)⟩
end cy
namespace de
def P(a:(Int×Int×List Int)×List (Int×List (List Int×Int))):Bool:=dX.P a.1&&cy.P a.2
abbrev g(a:(Int×Int×List Int)×List (Int×List (List Int×Int))):(Int×Int×List Int)×List (Int×List (List Int×Int)):=a
def Z0{J:Type}(N:Nat)(a:(MT)×List (Int×List (LI×Int)))(kr:LI->(List (Int×List (LI×Int)))->I2 (Option J)):Option J :=
 cond (lk N (dX.P a.1)) (
  cond (lk N (cy.P a.2)) (
   kr (dX.g a.1).2.2 (cy.g a.2) (dX.g a.1).1 (dX.g a.1).2.1) none) none
def Spec:Prop:=∀ (v0:(MT)×List (Int×List (LI×Int))),Ty.bd (.pair (.pair (.int .i64) (.pair (.int .i64) (.sl 0 (.int .i64)))) (.sl 0 (.pair (.int .i64) (.sl 0 (.pair (.sl 0 (.int .i64)) (.int .i64)))))) v0->P v0=true->∃N0,∀N,N0<=N->Z0 N v0 (λv2_2 v2_3 v2_0 v2_1=>some ((),(((v2_0,(v2_1,v2_2)),v2_3),())))=some ((),((g v0),()))
def ok:Spec:=λa hb hp=>⟨0,λN hN=>by simp only[P,Bool.and_eq_true]at hp;simp only[Z0,aP,hp.1,hp.2,cond_true,bo,qp]⟩
end de
end
end Go.Fw
namespace Go.Fw
def vA:∀(l:List (List Int×Int)) (left:Int),(∀t∈l,t.1.length<=maxLen)->0<=left->left<=1048576->¬ bA.sz l left<0->bA.sz l left<=left
 |[],_,_,_,_,_=>Int.le_refl _
 |x::xs,left,hb,h0,h1,h=>by
  rw[bA.sz]at h ⊢;by_cases e:cN.g x left<0;·rw[if_pos e]at h;omega
  rw[if_neg e]at h ⊢;have e':¬ ce.g x.1 left<0:=by intro hlt;apply e;unfold cN.g;rw[if_pos hlt];omega
  obtain⟨a1,a2⟩:=nH x.1 left (hb x List.mem_cons_self) h0 h1 e';have e2:cN.g x left=left-x.1.length:=by unfold cN.g;rw[if_neg e',a2]
  rw[e2]at h ⊢;have:=vA xs _ (λt h=>hb t (List.mem_cons_of_mem _ h)) (by omega) (by omega) h;omega
def BV(f:Int×List (List Int×Int))(hb:Ty.bd (.pair (.int .i64) (.sl 0 (.pair (.sl 0 (.int .i64)) (.int .i64)))) f){left:Int}(h0:0<=left)(h1:left<=1048576)(h:¬ cO.g f left<0):dK.P f=true/\cO.g f left<=left:=by
 obtain⟨_,hb1,hb2⟩:=hb;have h':¬ bA.g f.2 left<0:=by
  unfold cO.g at h;by_cases e:bA.g f.2 left<0;·rw[if_pos e]at h;omega
  ·exact e
 have hg:cO.g f left=bA.g f.2 left:=by unfold cO.g;rw[if_neg h']
 have hw:av (left-(f.2.length:Int))=left-f.2.length:=bJ (by rw[bR]at hb1;omega) (by omega);unfold bA.g at h' hg;rw[hw]at h' hg;by_cases hl:left-f.2.length<0;·rw[if_pos hl]at h';omega
 rw[if_neg hl]at h' hg;have:=rE f.2 _ (λt ht=>(hb2 t ht).1.1) (by omega) (by omega) h';have h2:=vA f.2 _ (λt ht=>(hb2 t ht).1.1) (by omega) (by omega) h';refine⟨?_,by omega⟩;show bX.P f.2=true;unfold bX.P;rw[Bool.and_eq_true];exact⟨dt (by omega),List.all_eq_true.2 this⟩
def vC:∀(l:List (Int×List (List Int×Int))) (left:Int),(∀t∈l,Ty.bd (.pair (.int .i64) (.sl 0 (.pair (.sl 0 (.int .i64)) (.int .i64)))) t)->0<=left->left<=1048576->¬ bN.sz l left<0->∀t∈l,dK.P t=true
 |[],_,_,_,_,_,t,ht=>by cases ht
 |x::xs,left,hb,h0,h1,h,t,ht=>by
  rw[bN.sz]at h;by_cases e:cO.g x left<0;·rw[if_pos e]at h;omega
  rw[if_neg e]at h;obtain⟨a1,a2⟩:=BV x (hb x List.mem_cons_self) h0 h1 e;rcases List.mem_cons.1 ht with rfl|ht;·exact a1
  ·exact vC xs _ (λt h=>hb t (List.mem_cons_of_mem _ h)) (by omega) (by omega) h t ht
def BW(s:(Int×Int×List Int)×List (Int×List (List Int×Int)))(hb:Ty.bd (.pair (.pair (.int .i64) (.pair (.int .i64) (.sl 0 (.int .i64)))) (.sl 0 (.pair (.int .i64) (.sl 0 (.pair (.sl 0 (.int .i64)) (.int .i64)))))) s)(h:¬ eT.g s 1048576<0):de.P s=true:=by
 obtain⟨hm,hl1,hl2⟩:=hb;have h1:¬ cC.g s.1 1048576<0:=by intro e;unfold eT.g at h;rw[if_pos e]at h;omega
 have p1:=BU s.1 hm.2.2.1 h1;have hv:cC.g s.1 1048576<=1048576:=by
  unfold cC.g at h1 ⊢;by_cases e:ce.g s.1.2.2 1048576<0;·rw[if_pos e]at h1;omega
  ·rw[if_neg e];have:=nH s.1.2.2 1048576 hm.2.2.1 (by omega) (by omega) e;omega
 have h2:¬ bN.g s.2 (cC.g s.1 1048576)<0:=by intro e;unfold eT.g at h;rw[if_neg h1,if_pos e]at h;omega
 generalize cC.g s.1 1048576=left at h1 hv h2;have hw:av (left-(s.2.length:Int))=left-s.2.length:=bJ (by rw[bR]at hl1;omega) (by omega);unfold bN.g at h2;rw[hw]at h2;by_cases hl:left-s.2.length<0;·rw[if_pos hl]at h2;omega
 rw[if_neg hl]at h2;have:=vC s.2 _ hl2 (by omega) (by omega) h2;unfold de.P cy.P;rw[p1.1,dt (by omega),Bool.true_and,Bool.true_and,List.all_eq_true];exact this
end Go.Fw
namespace Go.Fw
section
variable {J : Type}
namespace dg
def g(n low high:Int):Bool:=bV n low high
def Z0{J:Type}(N:Nat)(a b c:Int)(kr:Bool->Option J):Option J :=
 cond (lk N (decide (b<=a)))
 (
  kr (lk N (decide (a<=c))))
 (
  kr false)
def Spec:Prop:=∀ (v0 v1 v2:Int),∃N0,∀N,N0<=N->Z0 N v0 v1 v2 (λv6=>some ((),(v6,())))=some ((),((g v0 v1 v2),()))
def ok:Spec:=λn low high=>⟨0,λN hN=>by simp only[Z0,aP,g,bV];cases decide (low<=n)<;>rfl⟩
end dg
namespace bC
def P(m:Int×Int×List Int)(i j:Int):Bool:=jE m i j
def g(m:Int×Int×List Int)(i j:Int):Int:=jF m i j
def Z0{J:Type}(N:Nat)(a:MT)(b c:Int)(kr:Int->Option J):Option J :=
 cond (lk N (az (av ((av (b*a.1))+c)) a.2.2.length)) (
  kr (a.2.2.getD (av ((av (b*a.1))+c)).toNat 0)) none
def Spec:Prop:=∀ (v0:MT) (v1 v2:Int),Ty.bd (.pair (.int .i64) (.pair (.int .i64) (.sl 0 (.int .i64)))) v0->P v0 v1 v2=true->∃N0,∀N,N0<=N->Z0 N v0 v1 v2 (λv6=>some ((),(v6,())))=some ((),((g v0 v1 v2),()))
def ok:Spec:=λm i j hb hp=>⟨0,λN hN=>by obtain⟨h1,h2,h3⟩:=vf hb.2.2.1 hp;simp only[Z0,g,jF,h1];rw[ct (u6 h2 h3)]⟩
end bC
namespace bB
def g(m:Int×Int×List Int):Bool:=bW m
def Z1{J:Type}(N:Nat)(a:MT)(kn:I2 (LI->Option J)):Option J :=
 kn a.1 a.2.1 a.2.2
def Z3{J:Type}(N:Nat)(a b:Int)(c:LI)(kn:I2 (LI->Option J))(kr:Bool->Option J):Option J :=
 cond (!(lk N ((dg.g a 1 5))))
 (
  kr false)
 (
  cond (!(lk N ((dg.g b a 8))))
  (
   kr false)
  (
   cond (lk N (!(decide ((c.length:Int)=(av (a*b))))))
   (
    kr false)
   (
    kn a b c)))
def Z6{J:Type}(N:Nat)(a b:Int)(c:LI)(kn:I3 (LI->Option J)):Option J :=
 kn 0 a b c
def Z9{J:Type}(N:Nat)(b c d:Int)(a:LI)(kn:I3 (LI->Option J))(k0:I2 (LI->Option J))(kr:Bool->Option J):Option J :=
 cond (lk N (decide (b<(a.length:Int))))
 (
  cond (lk N (az b a.length)) (
   cond (!(lk N ((dg.g (a.getD b.toNat 0) (-99) 99))))
   (
    kr false)
   (
    kn (av (b+1)) c d a)) none)
 (
  k0 c d a)
def Z8L{J:Type}(N:Nat)(k0:I2 (LI->Option J))(kr:Bool->Option J):Nat->Int->Int->Int->LI->Option J
 |0,_,_,_,_=>none
 |M+1,a,b,c,d=>Z9 N a b c d (λa b c d=>Z8L N k0 kr M a b c d) k0 kr
def Z8 N a b c d k0 kr:=(Z8L N k0 kr N a b c d:Option J)
def Z7 N a b c d kn kr:=(Z8 N a b c d kn kr:Option J)
def Z5 N a b c kn kr:=(Z6 N a b c (λd a b c=>Z7 N d a b c kn kr):Option J)
def Z12{J:Type}(N:Nat)(a b:Int)(c:LI)(kn:I3 (LI->Option J)):Option J :=
 kn 0 a b c
def Z16{J:Type}(N:Nat)(a b c:Int)(d:LI)(kn:I3 (LI->Option J))(k2:Option J):Option J :=
 cond (lk N (decide (a<b)))
 (
  kn a b c d)
 (
  k2)
def Z20{J:Type}(N:Nat)(a b c:Int)(d:LI)(kn:I4 (LI->Option J)):Option J :=
 kn a 0 b c d
def Z23{J:Type}(N:Nat)(b c a d:Int)(e:LI)(kn:I4 (LI->Option J))(k4:I3 (LI->Option J))(kr:Bool->Option J):Option J :=
 cond (lk N (decide (c<a)))
 (
  cond (lk N (bC.P (a,(d,e)) b c)) (
   cond (lk N (bC.P (a,(d,e)) c b)) (
    cond (lk N (!(((lk N (decide (0<(bC.g (a,(d,e)) b c)))) == (lk N (decide ((bC.g (a,(d,e)) c b)<0)))))))
    (
     kr false)
    (
     cond (lk N (!(((lk N (decide ((bC.g (a,(d,e)) b c)=0))) == (lk N (decide ((bC.g (a,(d,e)) c b)=0)))))))
     (
      kr false)
     (
      kn b (av (c+1)) a d e))) none) none)
 (
  k4 b a d e)
def Z22L{J:Type}(N:Nat)(k4:I3 (LI->Option J))(kr:Bool->Option J):Nat->Int->Int->Int->Int->LI->Option J
 |0,_,_,_,_,_=>none
 |M+1,a,b,c,d,e=>Z23 N a b c d e (λa b c d e=>Z22L N k4 kr M a b c d e) k4 kr
def Z22 N a b c d e k4 kr:=(Z22L N k4 kr N a b c d e:Option J)
def Z21 N a b c d e kn kr:=(Z22 N a b c d e kn kr:Option J)
def Z19 N a b c d kn kr:=(Z20 N a b c d (λa e b c d=>Z21 N a e b c d kn kr):Option J)
def Z18 N a b c d kn kr:=(Z19 N a b c d kn kr:Option J)
def Z24{J:Type}(N:Nat)(a b c:Int)(d:LI)(kn:I3 (LI->Option J)):Option J :=
 kn (av (a+1)) b c d
def Z17 N a b c d kn kr:=(Z18 N a b c d (λa b c d=>Z24 N a b c d kn) kr:Option J)
def Z15 N a b c d kn k2 kr:=(Z16 N a b c d (λa b c d=>Z17 N a b c d kn kr) k2:Option J)
def Z14L{J:Type}(N:Nat)(k2:Option J)(kr:Bool->Option J):Nat->Int->Int->Int->LI->Option J
 |0,_,_,_,_=>none
 |M+1,a,b,c,d=>Z15 N a b c d (λa b c d=>Z14L N k2 kr M a b c d) k2 kr
def Z14 N a b c d k2 kr:=(Z14L N k2 kr N a b c d:Option J)
def Z13 N a b c d kn kr:=(Z14 N a b c d kn kr:Option J)
def Z11 N a b c kn kr:=(Z12 N a b c (λd a b c=>Z13 N d a b c kn kr):Option J)
def Z25{J:Type}(N:Nat) (kr:Bool->Option J):Option J :=
 kr true
def Z10 N a b c kr:=(Z11 N a b c (Z25 N kr) kr:Option J)
def Z4 N a b c kr:=(Z5 N a b c (λa b c=>Z10 N a b c kr) kr:Option J)
def Z2 N a b c kr:=(Z3 N a b c (λa b c=>Z4 N a b c kr) kr:Option J)
def Z0 N a kr:=(Z1 N a (λb c d=>Z2 N b c d kr):Option J)
def Spec:Prop:=∀ (v0:MT),Ty.bd (.pair (.int .i64) (.pair (.int .i64) (.sl 0 (.int .i64)))) v0->∃N0,∀N,N0<=N->Z0 N v0 (λv2=>some ((),(v2,())))=some ((),((g v0),()))
section
variable {J : Type} {N : Nat} {m : Int × Int × List Int}
def at_g(hd:0<=m.1)(a b:Nat):bC.g (m.1,(m.2.1,m.2.2)) (a:Int) (b:Int)=ai m a b:=nu hd a b
def at_p(hd:cH m=true){a b:Nat}(ha:a<m.1.toNat)(hb:b<m.1.toNat):bC.P (m.1,(m.2.1,m.2.2)) (a:Int) (b:Int)=true:=by obtain⟨n,r,hn,hr,hn1,hn5,hnr,hr8,hl⟩:=cx hd;exact nw hd (by omega) hb
def loop1(hl:m.2.2.length<=maxLen)(k0:Int->Int->List Int->Option J)(kr:Bool->Option J):∀(M j:Nat),j<=m.2.2.length->m.2.2.length-j<M ->
  Z8L N k0 kr M (j:Int) m.1 m.2.1 m.2.2=cond (iH (m.2.2.drop j)) (k0 m.1 m.2.1 m.2.2) (kr false):=by
 intro M;induction M with
 |zero=>intro j _ h;omega
 |succ M ih =>
  intro j hj hM;simp only[Z8L,Z9];by_cases h:j<m.2.2.length;·rw[ct (dt (by omega)),ct (aL h),Int.toNat_natCast,bz (by omega),cw 0 h,iH,List.all_cons,ih (j+1) h (by omega)];simp only[aP,dg.g];cases bV (m.2.2.getD j 0) (-99) 99<;>rfl
  ·rw[cf (df (by omega)),List.drop_of_length_le (by omega)];rfl
def loop3(hd:cH m=true)(k4:Int->Int->Int->List Int->Option J)(kr:Bool->Option J){i:Nat}(hi:i<m.1.toNat):∀(M j:Nat),j<=m.1.toNat->m.1.toNat-j<M ->
  Z22L N k4 kr M (i:Int) (j:Int) m.1 m.2.1 m.2.2=cond (((List.range m.1.toNat).drop j).all λj=>fl (ai m i j) (ai m j i)) (k4 (i:Int) m.1 m.2.1 m.2.2) (kr false):=by
 obtain⟨n,r,hn,hr,hn1,hn5,hnr,hr8,hl⟩:=cx hd;intro M;induction M with
 |zero=>intro j _ h;omega
 |succ M ih =>
  intro j hj hM;simp only[Z22L,Z23];by_cases h:j<m.1.toNat;·rw[ct (dt (by omega)),ct (at_p hd hi h),ct (at_p hd h hi),rz h,List.all_cons,bz (by rw[bR];omega),ih (j+1) h (by omega)];have hA:bC.g (m.1,(m.2.1,m.2.2)) (i:Int) (j:Int)=ai m i j:=at_g (by omega) _ _;have hB:bC.g (m.1,(m.2.1,m.2.2)) (j:Int) (i:Int)=ai m j i:=at_g (by omega) _ _;simp only[aP,hA,hB,fl];cases(decide (0<ai m i j) == decide (ai m j i<0))<;>cases(decide (ai m i j=0) == decide (ai m j i=0))<;>rfl
  ·rw[cf (df (by omega)),List.drop_of_length_le (by simp;omega)];rfl
def loop2(hN:10<=N)(hd:cH m=true)(k2:Option J)(kr:Bool->Option J):∀(M i:Nat),i<=m.1.toNat->m.1.toNat-i<M ->
  Z14L N k2 kr M (i:Int) m.1 m.2.1 m.2.2=cond (((List.range m.1.toNat).drop i).all λi=>(List.range m.1.toNat).all λj=>fl (ai m i j) (ai m j i)) k2 (kr false):=by
 obtain⟨n,r,hn,hr,hn1,hn5,hnr,hr8,hl⟩:=cx hd;intro M;induction M with
 |zero=>intro i _ h;omega
 |succ M ih =>
  intro i hi hM;simp only[Z14L,Z15,Z16];by_cases h:i<m.1.toNat;·rw[ct (dt (by omega))];simp only[Z17,Z18,Z19,Z20,Z21,Z22];have h3:=loop3 (J:=J) (N:=N) hd (λa b c d=>Z24 N a b c d (λa b c d=>Z14L N k2 kr M a b c d)) kr h N 0 (by omega) (by omega);rw[show((0:Nat):Int)=0 from rfl]at h3;rw[h3,rz h,List.all_cons,List.drop_zero];simp only[Z24];rw[bz (by rw[bR];omega),ih (i+1) h (by omega)];cases((List.range m.1.toNat).all λj=>fl (ai m i j) (ai m j i))<;>rfl
  ·rw[cf (df (by omega)),List.drop_of_length_le (by simp;omega)];rfl
end
def ok:Spec:=λm hb=>⟨m.2.2.length+10,λN hN=>by
 have hlen:m.2.2.length<=maxLen:=hb.2.2.1;simp only[Z0,Z1,Z2,Z3,dg.g,g,bW,cI];have main:cH m=true->Z4 N m.1 m.2.1 m.2.2 (λt=>some ((),(t,())))=some ((),((iH m.2.2&&(List.range m.1.toNat).all λi=>(List.range m.1.toNat).all λj=>fl (ai m i j) (ai m j i)),())):=by intro hd;obtain⟨n,r,hn,hr,hn1,hn5,hnr,hr8,hl⟩:=cx hd;simp only[Z4,Z5,Z6,Z7,Z8];have h1:=loop1 (N:=N) hlen (λa b c=>Z10 N a b c (λt=>some ((),(t,())))) (λt=>some ((),(t,()))) N 0 (by omega) (by omega);rw[show((0:Nat):Int)=0 from rfl]at h1;rw[h1,List.drop_zero];simp only[Z10,Z11,Z12,Z13,Z14,Z25];have h2:=loop2 (N:=N) (by omega) hd (some ((),(true,()))) (λt=>some ((),(t,()))) N 0 (by omega) (by omega);rw[show((0:Nat):Int)=0 from rfl]at h2;rw[h2,List.drop_zero];cases iH m.2.2<;>cases((List.range m.1.toNat).all λi=>(List.range m.1.toNat).all λj=>fl (ai m i j) (ai m j i))<;>rfl
 cases h1:bV m.1 1 5;·rw[cH,h1];simp[aP]
 cases h2:bV m.2.1 m.1 8;·rw[cH,h1,h2];simp[aP]
 have e1:=jG.1 h1;have e2:=jG.1 h2;have e3:0<=m.1*m.2.1:=Int.mul_nonneg (by omega) (by omega);have e4:m.1*m.2.1<=5*8:=Int.mul_le_mul (by omega) (by omega) (by omega) (by omega);rw[bJ (by omega) (by omega)];by_cases h3:(m.2.2.length:Int)=m.1*m.2.1
 ·have hd:cH m=true:=by rw[cH,h1,h2,dt h3];rfl
  rw[eD (by simp[aP]),eD (by simp[aP]),cf (nf h3),main hd,hd];rfl
 ·have hd:cH m=false:=by rw[cH,h1,h2,df h3];rfl
  rw[eD (by simp[aP]),eD (by simp[aP]),ct (nt h3),hd];rfl⟩
end bB
namespace cK
def g(l:List Int)(n:Int):Bool:=l.any λx=>decide (x=n)
def Z1{J:Type}(N:Nat)(a:LI)(b:Int)(kn:LI->Int->Option J):Option J :=
 kn a b
def Z4{J:Type}(N:Nat)(a:LI)(b:Int)(kn:LI->I2 (Option J)):Option J :=
 kn a b 0
def Z7{J:Type}(N:Nat)(a:LI)(c b:Int)(kn:LI->I2 (Option J))(k0:Option J)(kr:Bool->Option J):Option J :=
 cond (lk N (decide (b<(a.length:Int))))
 (
  cond (lk N (az b a.length)) (
   cond (lk N (decide ((a.getD b.toNat 0)=c)))
   (
    kr true)
   (
    kn a c (av (b+1)))) none)
 (
  k0)
def Z6L{J:Type}(N:Nat)(k0:Option J)(kr:Bool->Option J):Nat->LI->Int->Int->Option J
 |0,_,_,_=>none
 |M+1,a,b,c=>Z7 N a b c (λa b c=>Z6L N k0 kr M a b c) k0 kr
def Z6 N a b c k0 kr:=(Z6L N k0 kr N a b c:Option J)
def Z5 N a b c kn kr:=(Z6 N a b c kn kr:Option J)
def Z3 N a b kn kr:=(Z4 N a b (λa b c=>Z5 N a b c kn kr):Option J)
def Z8{J:Type}(N:Nat) (kr:Bool->Option J):Option J :=
 kr false
def Z2 N a b kr:=(Z3 N a b (Z8 N kr) kr:Option J)
def Z0 N a b kr:=(Z1 N a b (λa b=>Z2 N a b kr):Option J)
def Spec:Prop:=∀ (v0:LI) (v1:Int),Ty.bd (.sl 0 (.int .i64)) v0->∃N0,∀N,N0<=N->Z0 N v0 v1 (λv4=>some ((),(v4,())))=some ((),((g v0 v1),()))
def loop{J:Type}(N:Nat)(kr:Bool->Option J)(n:Int)(a:List Int)(ha:a.length<=maxLen):∀(M j:Nat),j<=a.length->a.length-j<M ->
  Z6L N (kr false) kr M a n (j:Int)=kr (g (a.drop j) n):=by
 intro M;induction M with
 |zero=>intro j _ h;omega
 |succ M ih =>
  intro j hj hM;simp only[Z6L,Z7];by_cases h:j<a.length;·rw[ct (dt (by omega)),ct (aL h),Int.toNat_natCast,bz (by omega),ih (j+1) h (by omega),cw 0 h];simp only[g,List.any_cons,aP];cases decide (a.getD j 0=n)<;>rfl
  ·rw[cf (df (by omega)),List.drop_of_length_le (by omega)];rfl
def ok:Spec:=λa n ha=>⟨a.length+1,λN hN=>by simp only[Z1,Z4,Z7,Z6,Z5,Z3,Z8,Z2,Z0];exact(loop N (λt=>some ((),(t,()))) n a ha.1 N 0 (by omega) (by omega)).trans rfl⟩
def g_iff{l:List Int}{n:Int}:g l n=true↔n∈l:=by simp[g]
end cK
namespace bq
def P(m:Int×Int×List Int)(i:Int):Bool:=cH m&&(decide (0<=i)&&decide (i<m.1))
def g(m:Int×Int×List Int)(i:Int):List Int×List Int:=(aS (gG m i.toNat).1,aS (gG m i.toNat).2)
def Z1{J:Type}(N:Nat)(a:MT)(b:Int)(kn:I3 (LI->Option J)):Option J :=
 kn b a.1 a.2.1 a.2.2
def Z3{J:Type}(N:Nat)(a b c:Int)(d:LI)(kn:LI->I3 (LI->Option J)):Option J :=
 kn ([a]:List Int) a b c d
def Z5{J:Type}(N:Nat)(a:LI)(b c d:Int)(e:LI)(kn:LI->LI->I2 (LI->Option J)):Option J :=
 kn a ([b]:List Int) c d e
def Z8{J:Type}(N:Nat)(a b:LI)(c d:Int)(e:LI)(kn:LI->LI->I3 (LI->Option J)):Option J :=
 kn a b 0 c d e
def Z12{J:Type}(N:Nat)(a b:LI)(c d e:Int)(f:LI)(kn:LI->LI->I3 (LI->Option J))(k0:LI->LI->Option J):Option J :=
 cond (lk N (decide (c<(a.length:Int))))
 (
  kn a b c d e f)
 (
  k0 a b)
def Z16{J:Type}(N:Nat)(a b:LI)(c d e:Int)(f:LI)(kn:LI->LI->I4 (LI->Option J)):Option J :=
 kn a b c 0 d e f
def Z19{J:Type}(N:Nat)(a h:LI)(c b d e:Int)(f:LI)(kn:LI->LI->I4 (LI->Option J))(k2:LI->LI->I3 (LI->Option J)):Option J :=
 cond (lk N (decide (b<d)))
 (
  cond (lk N (az c a.length)) (
   cond (lk N (bC.P (d,(e,f)) (a.getD c.toNat 0) b)) (
    cond (lk N (!(decide ((bC.g (d,(e,f)) (a.getD c.toNat 0) b)=0))))
    (
     cond (!(lk N ((cK.g a b))))
     (
      cond (lk N (Nat.blt (a.length+([b]:List Int).length) 1099511627776)) (
       cond (lk N (az c (a++([b]:List Int)).length)) (
        cond (lk N (Nat.blt (h.length+([((a++([b]:List Int)).getD c.toNat 0)]:List Int).length) 1099511627776)) (
         kn (a++([b]:List Int)) (h++([((a++([b]:List Int)).getD c.toNat 0)]:List Int)) c (av (b+1)) d e f) none) none) none)
     (
      kn a h c (av (b+1)) d e f))
    (
     kn a h c (av (b+1)) d e f)) none) none)
 (
  k2 a h c d e f)
def Z18L{J:Type}(N:Nat)(k2:LI->LI->I3 (LI->Option J)):Nat->LI->LI->Int->Int->Int->Int->LI->Option J
 |0,_,_,_,_,_,_,_=>none
 |M+1,a,b,c,d,e,f,g=>Z19 N a b c d e f g (λa b c d e f g=>Z18L N k2 M a b c d e f g) k2
def Z18 N a b c d e f g k2:=(Z18L N k2 N a b c d e f g:Option J)
def Z17 N a b c d e f g kn:=(Z18 N a b c d e f g kn:Option J)
def Z15 N a b c d e f kn:=(Z16 N a b c d e f (λa b c g d e f=>Z17 N a b c g d e f kn):Option J)
def Z14 N a b c d e f kn:=(Z15 N a b c d e f kn:Option J)
def Z20{J:Type}(N:Nat)(a b:LI)(c d e:Int)(f:LI)(kn:LI->LI->I3 (LI->Option J)):Option J :=
 kn a b (av (c+1)) d e f
def Z13 N a b c d e f kn:=(Z14 N a b c d e f (λa b c d e f=>Z20 N a b c d e f kn):Option J)
def Z11 N a b c d e f kn k0:=(Z12 N a b c d e f (λa b c d e f=>Z13 N a b c d e f kn) k0:Option J)
def Z10L{J:Type}(N:Nat)(k0:LI->LI->Option J):Nat->LI->LI->Int->Int->Int->LI->Option J
 |0,_,_,_,_,_,_=>none
 |M+1,a,b,c,d,e,f=>Z11 N a b c d e f (λa b c d e f=>Z10L N k0 M a b c d e f) k0
def Z10 N a b c d e f k0:=(Z10L N k0 N a b c d e f:Option J)
def Z9 N a b c d e f kn:=(Z10 N a b c d e f kn:Option J)
def Z7 N a b c d e kn:=(Z8 N a b c d e (λa b f c d e=>Z9 N a b f c d e kn):Option J)
def Z21{J:Type}(N:Nat)(a b:LI)(kr:LI->LI->Option J):Option J :=
 kr a b
def Z6 N a b c d e kr:=(Z7 N a b c d e (λa b=>Z21 N a b kr):Option J)
def Z4 N a e b c d kr:=(Z5 N a e b c d (λa f b c d=>Z6 N a f b c d kr):Option J)
def Z2 N a b c d kr:=(Z3 N a b c d (λe a b c d=>Z4 N e a b c d kr):Option J)
def Z0 N b a kr:=(Z1 N b a (λa c d e=>Z2 N a c d e kr):Option J)
def Spec:Prop:=∀ (v0:MT) (v1:Int),Ty.bd (.pair (.int .i64) (.pair (.int .i64) (.sl 0 (.int .i64)))) v0->P v0 v1=true->∃N0,∀N,N0<=N->Z0 N v0 v1 (λv4 v5=>some ((),(v4,(v5,()))))=some ((),((g v0 v1).1,((g v0 v1).2,())))
def inner{J:Type}(N:Nat)(k2:List Int->List Int->Int->Int->Int->List Int->Option J)(m:Int×Int×List Int)(hd:cH m=true)(i p:Nat):∀(M j:Nat) (s:List Nat×List Nat),cb m.1.toNat (ai m) i s->p<s.1.length->j<=m.1.toNat->m.1.toNat-j<M ->
  Z18L N k2 M (aS s.1) (aS s.2) (p:Int) (j:Int) m.1 m.2.1 m.2.2 =
   k2 (aS (eN (ai m) (s.1.getD p 0) ((List.range m.1.toNat).drop j) s).1) (aS (eN (ai m) (s.1.getD p 0) ((List.range m.1.toNat).drop j) s).2) (p:Int) m.1 m.2.1 m.2.2:=by
 obtain⟨n,r,hn,hr,hn1,hn5,hnr,hr8,hl⟩:=cx hd;intro M;induction M with
 |zero=>intro j s _ _ _ h;omega
 |succ M ih =>
  intro j s hs hp hj hM;have hle:=hs.le;have hlen:=hs.len;simp only[Z18L,Z19];by_cases h:j<m.1.toNat
  ·have hx:s.1.getD p 0<m.1.toNat:=hs.lt _ (bS 0 hp);have h1:Nat.blt ((aS s.1).length+([(j:Int)]).length) 1099511627776=true:=by simp[bK,Nat.blt_eq];omega
   have h2:Nat.blt ((aS s.2).length+([((aS (s.1++[j])).getD (p:Int).toNat 0)]).length) 1099511627776=true:=by simp[bK,Nat.blt_eq];omega
   rw[ct (dt (by omega)),ct (aL (by rw[bK];exact hp)),rz h,eN];simp only[Int.toNat_natCast,fA];rw[ct (show bC.P (m.1,(m.2.1,m.2.2)) _ _=true from nw hd (by omega) h),bz (by rw[bR];omega)];have hA:bC.g (m.1,(m.2.1,m.2.2)) ((s.1.getD p 0:Nat):Int) (j:Int)=ai m (s.1.getD p 0) j:=nu (by omega) _ _;by_cases ha:ai m (s.1.getD p 0) j=0;·rw[cf (nf (hA.trans ha)),if_neg (λhc=>hc.1 ha)];exact ih (j+1) s hs hp h (by omega)
   ·rw[ct (nt (λhc=>ha (hA.symm.trans hc)))];by_cases hm:j∈s.1;·rw[eD (by rw[aP,cK.g_iff.2 (vn.2 hm)];rfl),if_neg (λhc=>hc.2 hm)];exact ih (j+1) s hs hp h (by omega)
    ·have hf:cK.g (aS s.1) (j:Int)=false:=by
      cases hc:cK.g (aS s.1) (j:Int);·rfl
      ·exact absurd (vn.1 (cK.g_iff.1 hc)) hm
     rw[jC (by rw[aP,hf];rfl),ct h1,rA,ct (aL (by rw[bK];simp;omega)),if_pos ⟨ha,hm⟩];have e:(s.1++[j]).getD p 0=s.1.getD p 0:=fm hp;rw[fA,e,rA];rw[fA,Int.toNat_natCast,e]at h2;rw[ct h2];have:=ih (j+1) (s.1++[j],s.2++[s.1.getD p 0]) (hs.step hp h ⟨ha,hm⟩) (by simp;omega) h (by omega);simp only[e]at this;exact this
  ·rw[cf (df (by omega)),List.drop_of_length_le (by simp;omega),eN]
def loop{J:Type}(N:Nat)(hN:10<=N)(k0:List Int->List Int->Option J)(m:Int×Int×List Int)(hd:cH m=true)(i:Nat):∀(M p:Nat) (s:List Nat×List Nat),cb m.1.toNat (ai m) i s->p<=m.1.toNat->m.1.toNat-p<M ->
  Z10L N k0 M (aS s.1) (aS s.2) (p:Int) m.1 m.2.1 m.2.2=k0 (aS (fB (ai m) m.1.toNat (m.1.toNat-p) p s).1) (aS (fB (ai m) m.1.toNat (m.1.toNat-p) p s).2):=by
 obtain⟨n,r,hn,hr,hn1,hn5,hnr,hr8,hl⟩:=cx hd;intro M;induction M with
 |zero=>intro p s _ _ h;omega
 |succ M ih =>
  intro p s hs hp hM;have hle:=hs.le;simp only[Z10L,Z11,Z12];by_cases h:p<s.1.length;·rw[ct (dt (by rw[bK];omega))];simp only[Z13,Z14,Z15,Z16,Z17,Z18,Z20];have hin:=inner (J:=J) N (λa b c d e f=>Z10L N k0 M a b (av (c+1)) d e f) m hd i p N 0 s hs h (by omega) (by omega);rw[show((0:Nat):Int)=0 from rfl]at hin;rw[hin,bz (by rw[bR];omega),List.drop_zero];obtain⟨h1,h2,h3⟩:=nB (p:=p) (List.range m.1.toNat) s hs h (λx hx=>List.mem_range.1 hx);rw[ih (p+1) _ h1 (by omega) (by omega),show m.1.toNat-p=(m.1.toNat-(p+1))+1 by omega,fB,if_pos h]
  ·rw[cf (df (by rw[bK];omega))];cases hc:m.1.toNat-p with
   |zero=>rfl
   |succ f=>rw[fB,if_neg h]
def ok:Spec:=λm i hb hp=>⟨10,λN hN=>by simp only[P,Bool.and_eq_true,decide_eq_true_eq]at hp;obtain⟨hd,h0,h1⟩:=hp;obtain⟨x,rfl⟩:=Int.eq_ofNat_of_zero_le h0;obtain⟨n,r,hn,hr,hn1,hn5,hnr,hr8,hl⟩:=cx hd;simp only[Z0,Z1,Z2,Z3,Z4,Z5,Z6,Z7,Z8,Z9,Z10,Z21];have:=loop (J:=Unit×List Int×List Int×Unit) N hN (λa b=>some ((),(a,(b,())))) m hd x N 0 ([x],[x]) (cb.first (by omega)) (by omega) (by omega);exact this⟩
end bq
namespace dL
def g(n:Int):Int:=mx n (av (0-n))
def Z0{J:Type}(N:Nat)(a:Int)(kr:Int->Option J):Option J :=
 kr (mx a (av (0-a)))
def Spec:Prop:=∀ (v0:Int),∃N0,∀N,N0<=N->Z0 N v0 (λv2=>some ((),(v2,())))=some ((),((g v0),()))
def ok:Spec:=λn=>⟨0,λN hN=>by simp only[Z0,g]⟩
end dL
namespace cV
def P(a b:Int):Bool:=decide (0<=a)&&(decide (a<9223372036854775808)&&(decide (0<=b)&&decide (b<9223372036854775808)))
def g(a b:Int):Int:=(Int.gcd a b:Int)
def Z1{J:Type}(N:Nat)(a b:Int)(kn:I2 (Option J)):Option J :=
 kn a b
def Z5{J:Type}(N:Nat)(b a:Int)(kn:I2 (Option J))(k0:Int->Option J):Option J :=
 cond (lk N (!(decide (a=0))))
 (
  cond (lk N (!(decide (a=0)))) (
   kn a (Int.tmod b a)) none)
 (
  k0 b)
def Z4L{J:Type}(N:Nat)(k0:Int->Option J):Nat->Int->Int->Option J
 |0,_,_=>none
 |M+1,a,b=>Z5 N a b (λa b=>Z4L N k0 M a b) k0
def Z4 N a b k0:=(Z4L N k0 N a b:Option J)
def Z3 N a b kn:=(Z4 N a b kn:Option J)
def Z6{J:Type}(N:Nat)(a:Int)(kr:Int->Option J):Option J :=
 kr a
def Z2 N a b kr:=(Z3 N a b (λa=>Z6 N a kr):Option J)
def Z0 N a b kr:=(Z1 N a b (λa b=>Z2 N a b kr):Option J)
def Spec:Prop:=∀ (v0 v1:Int),P v0 v1=true->∃N0,∀N,N0<=N->Z0 N v0 v1 (λv4=>some ((),(v4,())))=some ((),((g v0 v1),()))
def loop{J:Type}(N:Nat)(k0:Int->Option J):∀(M:Nat) (a b:Nat),b<M->Z4L N k0 M (a:Int) (b:Int)=k0 (Nat.gcd b a:Nat):=by
 intro M;induction M with
 |zero=>intro a b h;omega
 |succ M ih =>
  intro a b hM;simp only[Z4L,Z5];by_cases h:b=0;·subst h;rw[cf (by simp),Nat.gcd_zero_left]
  ·rw[ct (nt (by omega)),ct (nt (by omega)),show Int.tmod (a:Int) (b:Int)=((a%b:Nat):Int)from rfl,ih _ _ (by have:=Nat.mod_lt a (Nat.pos_of_ne_zero h);omega),<-Nat.gcd_rec]
def ok:Spec:=λa b hp=>⟨b.toNat+1,λN hN=>by simp only[P,Bool.and_eq_true,decide_eq_true_eq]at hp;obtain⟨h1,h2,h3,h4⟩:=hp;obtain⟨x,rfl⟩:=Int.eq_ofNat_of_zero_le h1;obtain⟨y,rfl⟩:=Int.eq_ofNat_of_zero_le h3;simp only[Z1,Z5,Z4,Z3,Z6,Z2,Z0,g];rw[loop N _ N x y (by omega),Nat.gcd_comm];rfl⟩
end cV
namespace aI
def P(m:Int×Int×List Int):Bool:=bW m
def g(m:Int×Int×List Int):List Int×Bool:=(ca m,!decide (ca m=[]))
def Z1{J:Type}(N:Nat)(a:MT)(kn:I2 (LI->Option J)):Option J :=
 kn a.1 a.2.1 a.2.2
def Z3{J:Type}(N:Nat)(a b:Int)(c:LI)(kn:LI->I2 (LI->Option J)):Option J :=
 cond (lk N (bh 0 a&&decide (a<1099511627776))) (
  kn (List.replicate a.toNat (0:Int)) a b c) none
def Z6{J:Type}(N:Nat)(a:LI)(b c:Int)(d:LI)(kn:LI->I3 (LI->Option J)):Option J :=
 kn a 0 b c d
def Z10{J:Type}(N:Nat)(b:LI)(c a d:Int)(e:LI)(kn:LI->I3 (LI->Option J))(k0:LI->I2 (LI->Option J)):Option J :=
 cond (lk N (decide (c<a)))
 (
  kn b c a d e)
 (
  k0 b a d e)
def Z14{J:Type}(N:Nat)(a:LI)(b c d:Int)(e:LI)(kn k1:LI->I3 (LI->Option J)):Option J :=
 cond (lk N (az b a.length)) (
  cond (lk N (decide (0<(a.getD b.toNat 0))))
  (
   k1 a b c d e)
  (
   kn a b c d e)) none
def Z16{J:Type}(N:Nat)(e:LI)(a b c:Int)(d:LI)(kn:LI->LI->LI->I3 (LI->Option J)):Option J :=
 cond (lk N (bq.P (b,(c,d)) a)) (
  kn e (bq.g (b,(c,d)) a).1 (bq.g (b,(c,d)) a).2 a b c d) none
def Z18{J:Type}(N:Nat)(b c d:LI)(a e f:Int)(g:LI)(kn:LI->LI->LI->I3 (LI->Option J)):Option J :=
 cond (lk N (az a b.length)) (
  kn (b.set a.toNat 1) c d a e f g) none
def Z21{J:Type}(N:Nat)(a b c:LI)(d e f:Int)(g:LI)(kn:LI->LI->LI->I4 (LI->Option J)):Option J :=
 kn a b c d 1 e f g
def Z24{J:Type}(N:Nat)(d b e:LI)(c a f h:Int)(i:LI)(kn:LI->LI->LI->I4 (LI->Option J))(k2:LI->LI->LI->I3 (LI->Option J)):Option J :=
 cond (lk N (decide (a<(b.length:Int))))
 (
  cond (lk N (az c d.length)) (
   cond (lk N (az a b.length)) (
    cond (lk N (az a e.length)) (
     cond (lk N (bC.P (f,(h,i)) (b.getD a.toNat 0) (e.getD a.toNat 0))) (
      cond (lk N (az c d.length)) (
       kn (d.set c.toNat (av ((d.getD c.toNat 0)*(dL.g (bC.g (f,(h,i)) (b.getD a.toNat 0) (e.getD a.toNat 0)))))) b e c (av (a+1)) f h i) none) none) none) none) none)
 (
  k2 d b e c f h i)
def Z23L{J:Type}(N:Nat)(k2:LI->LI->LI->I3 (LI->Option J)):Nat->LI->LI->LI->Int->Int->Int->Int->LI->Option J
 |0,_,_,_,_,_,_,_,_=>none
 |M+1,a,b,c,d,e,f,g,h=>Z24 N a b c d e f g h (λa b c d e f g h=>Z23L N k2 M a b c d e f g h) k2
def Z23 N a b c d e f g h k2:=(Z23L N k2 N a b c d e f g h:Option J)
def Z22 N a b c d e f g h kn:=(Z23 N a b c d e f g h kn:Option J)
def Z20 N a b c d e f g kn:=(Z21 N a b c d e f g (λa b c d h e f g=>Z22 N a b c d h e f g kn):Option J)
def Z26{J:Type}(N:Nat)(a c d:LI)(b e f:Int)(g:LI)(kn:LI->LI->LI->I4 (LI->Option J)):Option J :=
 cond (lk N (az b a.length)) (
  kn a c d b (a.getD b.toNat 0) e f g) none
def Z29{J:Type}(N:Nat)(a b c:LI)(d e f g:Int)(h:LI)(kn:LI->LI->LI->I5 (LI->Option J)):Option J :=
 kn a b c d e 1 f g h
def Z32{J:Type}(N:Nat)(h b c:LI)(j i a d e:Int)(f:LI)(kn:LI->LI->LI->I5 (LI->Option J))(k4:LI->LI->I4 (LI->Option J)):Option J :=
 let x1_:=(dL.g (bC.g (d,(e,f)) (b.getD a.toNat 0) (c.getD a.toNat 0)));let x2_:=(lk N (az a b.length));let x0_:=(h.set (b.getD a.toNat 0).toNat (av (Int.tdiv (av ((h.getD (c.getD a.toNat 0).toNat 0)*(dL.g (bC.g (d,(e,f)) (c.getD a.toNat 0) (b.getD a.toNat 0))))) x1_)));cond (lk N (decide (a<(b.length:Int))))
 (
 cond x2_ (
 cond (lk N (az a c.length)) (
 cond (lk N (az (c.getD a.toNat 0) h.length)) (
 cond (lk N (az a c.length)) (
 cond x2_ (
 cond x2_ (
 cond (lk N (az a c.length)) (
 cond (lk N (bC.P (d,(e,f)) (c.getD a.toNat 0) (b.getD a.toNat 0))) (
 cond (lk N (bC.P (d,(e,f)) (b.getD a.toNat 0) (c.getD a.toNat 0))) (
 cond (lk N (!(decide (x1_=0)))) (
 cond (lk N (az (b.getD a.toNat 0) h.length)) (
 cond x2_ (
 cond (lk N (az (b.getD a.toNat 0) x0_.length)) (
 cond (lk N (cV.P i (x0_.getD (b.getD a.toNat 0).toNat 0))) (
 kn x0_ b c j (cV.g i (x0_.getD (b.getD a.toNat 0).toNat 0)) (av (a+1)) d e f) none) none) none) none) none) none) none) none) none) none) none) none) none) none)
 (
 k4 h b j i d e f)
def Z31L{J:Type}(N:Nat)(k4:LI->LI->I4 (LI->Option J)):Nat->LI->LI->LI->Int->Int->Int->Int->Int->LI->Option J
 |0,_,_,_,_,_,_,_,_,_=>none
 |M+1,a,b,c,d,e,f,g,h,i=>Z32 N a b c d e f g h i (λa b c d e f g h i=>Z31L N k4 M a b c d e f g h i) k4
def Z31 N a b c d e f g h i k4:=(Z31L N k4 N a b c d e f g h i:Option J)
def Z30 N a b c d e f g h i kn:=(Z31 N a b c d e f g h i kn:Option J)
def Z28 N a b c d e f g h kn:=(Z29 N a b c d e f g h (λa b c d e i f g h=>Z30 N a b c d e i f g h kn):Option J)
def Z34{J:Type}(N:Nat)(a b:LI)(c d e f:Int)(g:LI)(kn:LI->LI->I5 (LI->Option J)):Option J :=
 kn a b c d 0 e f g
def Z37{J:Type}(N:Nat)(c a:LI)(e d b f g:Int)(h:LI)(kn:LI->LI->I5 (LI->Option J))(k6:LI->I3 (LI->Option J)):Option J :=
 cond (lk N (decide (b<(a.length:Int))))
 (
  cond (lk N (az b a.length)) (
   cond (lk N (az b a.length)) (
    cond (lk N (az (a.getD b.toNat 0) c.length)) (
     cond (lk N (!(decide (d=0)))) (
      cond (lk N (az (a.getD b.toNat 0) c.length)) (
       kn (c.set (a.getD b.toNat 0).toNat (av (Int.tdiv (c.getD (a.getD b.toNat 0).toNat 0) d))) a e d (av (b+1)) f g h) none) none) none) none) none)
 (
  k6 c e f g h)
def Z36L{J:Type}(N:Nat)(k6:LI->I3 (LI->Option J)):Nat->LI->LI->Int->Int->Int->Int->Int->LI->Option J
 |0,_,_,_,_,_,_,_,_=>none
 |M+1,a,b,c,d,e,f,g,h=>Z37 N a b c d e f g h (λa b c d e f g h=>Z36L N k6 M a b c d e f g h) k6
def Z36 N a b c d e f g h k6:=(Z36L N k6 N a b c d e f g h:Option J)
def Z35 N a b c d e f g h kn:=(Z36 N a b c d e f g h kn:Option J)
def Z33 N a b c d e f g kn:=(Z34 N a b c d e f g (λa b c d h e f g=>Z35 N a b c d h e f g kn):Option J)
def Z27 N a b h c d e f g kn:=(Z28 N a b h c d e f g (λa b c d e f g=>Z33 N a b c d e f g kn):Option J)
def Z25 N a b c d e f g kn:=(Z26 N a b c d e f g (λa b c d h e f g=>Z27 N a b c d h e f g kn):Option J)
def Z19 N a b c d e f g kn:=(Z20 N a b c d e f g (λa b c d e f g=>Z25 N a b c d e f g kn):Option J)
def Z17 N a b c d e f g kn:=(Z18 N a b c d e f g (λa b c d e f g=>Z19 N a b c d e f g kn):Option J)
def Z15 N a b c d e kn:=(Z16 N a b c d e (λa f g b c d e=>Z17 N a f g b c d e kn):Option J)
def Z13 N a b c d e kn k1:=(Z14 N a b c d e (λa b c d e=>Z15 N a b c d e kn) k1:Option J)
def Z12 N a b c d e kn:=(Z13 N a b c d e kn kn:Option J)
def Z38{J:Type}(N:Nat)(a:LI)(b c d:Int)(e:LI)(kn:LI->I3 (LI->Option J)):Option J :=
 kn a (av (b+1)) c d e
def Z11 N a b c d e kn:=(Z12 N a b c d e (λa b c d e=>Z38 N a b c d e kn):Option J)
def Z9 N a b c d e kn k0:=(Z10 N a b c d e (λa b c d e=>Z11 N a b c d e kn) k0:Option J)
def Z8L{J:Type}(N:Nat)(k0:LI->I2 (LI->Option J)):Nat->LI->Int->Int->Int->LI->Option J
 |0,_,_,_,_,_=>none
 |M+1,a,b,c,d,e=>Z9 N a b c d e (λa b c d e=>Z8L N k0 M a b c d e) k0
def Z8 N a b c d e k0:=(Z8L N k0 N a b c d e:Option J)
def Z7 N a b c d e kn:=(Z8 N a b c d e kn:Option J)
def Z5 N a b c d kn:=(Z6 N a b c d (λa e b c d=>Z7 N a e b c d kn):Option J)
def Z41{J:Type}(N:Nat)(a:LI)(b c:Int)(d:LI)(kn:LI->I3 (LI->Option J)):Option J :=
 kn a 0 b c d
def Z45{J:Type}(N:Nat)(a:LI)(b c d:Int)(e:LI)(kn:LI->I3 (LI->Option J))(k8:LI->Option J):Option J :=
 cond (lk N (decide (b<c)))
 (
  kn a b c d e)
 (
  k8 a)
def Z49{J:Type}(N:Nat)(a:LI)(b c d:Int)(e:LI)(kn:LI->I4 (LI->Option J)):Option J :=
 kn a b 0 c d e
def Z52{J:Type}(N:Nat)(d:LI)(a b c e:Int)(f:LI)(kn:LI->I4 (LI->Option J))(k10:LI->I3 (LI->Option J))(kr:LI->Bool->Option J):Option J :=
 cond (lk N (decide (b<c)))
 (
  cond (lk N (az a d.length)) (
   cond (lk N (az b d.length)) (
    cond (lk N (bC.P (c,(e,f)) a b)) (
     cond (lk N (bC.P (c,(e,f)) b a)) (
      cond (lk N (!(decide ((av ((d.getD a.toNat 0)*(bC.g (c,(e,f)) a b)))=(av (0-(av ((d.getD b.toNat 0)*(bC.g (c,(e,f)) b a)))))))))
      (
       kr ([]:List Int) false)
      (
       kn d a (av (b+1)) c e f)) none) none) none) none)
 (
  k10 d a c e f)
def Z51L{J:Type}(N:Nat)(k10:LI->I3 (LI->Option J))(kr:LI->Bool->Option J):Nat->LI->Int->Int->Int->Int->LI->Option J
 |0,_,_,_,_,_,_=>none
 |M+1,a,b,c,d,e,f=>Z52 N a b c d e f (λa b c d e f=>Z51L N k10 kr M a b c d e f) k10 kr
def Z51 N a b c d e f k10 kr:=(Z51L N k10 kr N a b c d e f:Option J)
def Z50 N a b c d e f kn kr:=(Z51 N a b c d e f kn kr:Option J)
def Z48 N a b c d e kn kr:=(Z49 N a b c d e (λa b f c d e=>Z50 N a b f c d e kn kr):Option J)
def Z47 N a b c d e kn kr:=(Z48 N a b c d e kn kr:Option J)
def Z53{J:Type}(N:Nat)(a:LI)(b c d:Int)(e:LI)(kn:LI->I3 (LI->Option J)):Option J :=
 kn a (av (b+1)) c d e
def Z46 N a b c d e kn kr:=(Z47 N a b c d e (λa b c d e=>Z53 N a b c d e kn) kr:Option J)
def Z44 N a b c d e kn k8 kr:=(Z45 N a b c d e (λa b c d e=>Z46 N a b c d e kn kr) k8:Option J)
def Z43L{J:Type}(N:Nat)(k8:LI->Option J)(kr:LI->Bool->Option J):Nat->LI->Int->Int->Int->LI->Option J
 |0,_,_,_,_,_=>none
 |M+1,a,b,c,d,e=>Z44 N a b c d e (λa b c d e=>Z43L N k8 kr M a b c d e) k8 kr
def Z43 N a b c d e k8 kr:=(Z43L N k8 kr N a b c d e:Option J)
def Z42 N a b c d e kn kr:=(Z43 N a b c d e kn kr:Option J)
def Z40 N a b c d kn kr:=(Z41 N a b c d (λa e b c d=>Z42 N a e b c d kn kr):Option J)
def Z54{J:Type}(N:Nat)(a:LI)(kr:LI->Bool->Option J):Option J :=
 kr a true
def Z39 N a b c d kr:=(Z40 N a b c d (λa=>Z54 N a kr) kr:Option J)
def Z4 N a b c d kr:=(Z5 N a b c d (λa b c d=>Z39 N a b c d kr):Option J)
def Z2 N a b c kr:=(Z3 N a b c (λd a b c=>Z4 N d a b c kr):Option J)
def Z0 N a kr:=(Z1 N a (λb c d=>Z2 N b c d kr):Option J)
def Spec:Prop:=∀ (v0:MT),Ty.bd (.pair (.int .i64) (.pair (.int .i64) (.sl 0 (.int .i64)))) v0->P v0=true->∃N0,∀N,N0<=N->Z0 N v0 (λv2 v3=>some ((),(v2,(v3,()))))=some ((),((g v0).1,((g v0).2,())))
def rF{a:Int}(h:-99<=a/\a<=99):dL.g a=a9 a:=by unfold dL.g;rw[bJ (by omega) (by omega),rb];unfold a9;omega
section
variable {J : Type} {N : Nat} {m : Int × Int × List Int} {s : List Nat × List Nat} {i : Nat}
def at_g(hd:0<=m.1)(a b:Nat):bC.g (m.1,(m.2.1,m.2.2)) (a:Int) (b:Int)=ai m a b:=nu hd a b
def at_p(hd:cH m=true){a b:Nat}(ha:a<m.1.toNat)(hb:b<m.1.toNat):bC.P (m.1,(m.2.1,m.2.2)) (a:Int) (b:Int)=true:=by obtain⟨n,r,hn,hr,hn1,hn5,hnr,hr8,hl⟩:=cx hd;exact nw hd (by omega) hb
def loop1(hs:bW m=true)(h:cb m.1.toNat (ai m) i s)(hi:i<m.1.toNat)(k2:List Int->List Int->List Int->Int->Int->Int->List Int->Option J)(d0:List Int)(hd0:d0.length=m.1.toNat):∀(M k:Nat),1<=k->k<=s.1.length->s.1.length-k<M ->
  Z23L N k2 M (d0.set i (b9 (qK m s) k)) (aS s.1) (aS s.2) (i:Int) (k:Int) m.1 m.2.1 m.2.2=k2 (d0.set i (b9 (qK m s) s.1.length)) (aS s.1) (aS s.2) (i:Int) m.1 m.2.1 m.2.2:=by
 have hdim:=eE (dV hs);obtain⟨n,r,hn,hr,hn1,hn5,hnr,hr8,hl⟩:=cx hdim;have hle:=h.le;intro M;induction M with
 |zero=>intro k _ _ hM;omega
 |succ M ih =>
  intro k h1 hk hM;simp only[Z23L,Z24];by_cases hlt:k<s.1.length
  ·have hb:=lj (lr hs h) (k+1) (by omega);have hp9:=ll (k:=k+1) (by omega);have e:qK m s k=dL.g (ai m (s.1.getD k 0) (s.2.getD k 0)):=by rw[rF (gH (dV hs) _ _),qK,if_neg (by omega)]
   rw[ct (dt (by rw[bK];omega)),ct (aL (by rw[List.length_set];omega)),ct (aL (by rw[bK];omega)),ct (aL (by rw[bK,h.len];omega))];simp only[Int.toNat_natCast,fA];rw[ct (at_p hdim (h.lt _ (bS 0 hlt)) (lq h h1 hlt)),ct (aL (by rw[List.length_set];omega)),List.set_set,bG (by omega),if_pos rfl,at_g (by omega),<-e,
    show b9 (qK m s) k*qK m s k=b9 (qK m s) (k+1)from rfl,bJ (by omega) (by omega),bz (by rw[bR];omega)]
   exact ih (k+1) (by omega) (by omega) (by omega)
  ·rw[cf (df (by rw[bK];omega)),show k=s.1.length by omega]
def loop2(hs:bW m=true)(h:cb m.1.toNat (ai m) i s)(k4:List Int->List Int->Int->Int->Int->Int->List Int->Option J)(d0:List Int):∀(M k:Nat) (d:List Int) (g:Int),1<=k->k<=s.1.length->s.1.length-k<M->T2 m s d0 k d g ->
  ∃d' g',T2 m s d0 s.1.length d' g'/\Z31L N k4 M d (aS s.1) (aS s.2) (i:Int) g (k:Int) m.1 m.2.1 m.2.2=k4 d' (aS s.1) (i:Int) g' m.1 m.2.1 m.2.2:=by
 have hdim:=eE (dV hs);obtain⟨n,r,hn,hr,hn1,hn5,hnr,hr8,hl⟩:=cx hdim;have hle:=h.le;intro M;induction M with
 |zero=>intro k _ _ _ _ hM;omega
 |succ M ih =>
  intro k d g h1 hk hM ht;simp only[Z31L,Z32];by_cases hlt:k<s.1.length
  ·obtain⟨⟨a1,a2⟩,⟨b1,b2⟩,hst⟩:=ht.step hs h (by omega) h1 hlt;obtain⟨⟨hq,_⟩,hp,_⟩:=nE hs h h1 hlt;have hg:=ht.g_range h1;have hx:=h.lt _ (bS 0 hlt);have hf:=lq h h1 hlt;have e1:dL.g (ai m (s.1.getD k 0) (s.2.getD k 0))=qK m s k:=by rw[rF (gH (dV hs) _ _),qK,if_neg (by omega)]
   have e2:dL.g (ai m (s.2.getD k 0) (s.1.getD k 0))=pK m s k:=by rw[rF (gH (dV hs) _ _),pK]
   have c1:az (k:Int) (aS s.1).length=true:=aL (by rw[bK];omega);have c2:az (k:Int) (aS s.2).length=true:=aL (by rw[bK,h.len];omega);rw[ct (dt (by rw[bK];omega)),ct c1,ct c2];simp only[Int.toNat_natCast,fA];rw[ct (aL (by rw[ht.len];exact hf)),ct c2,ct c1,ct c1,ct c2,ct (at_p hdim hf hx),ct (at_p hdim hx hf)];simp only[at_g (show 0<=m.1 by omega),e1,e2];rw[ct (nt (by omega)),ct (aL (by rw[ht.len];exact hx)),ct c1];simp only[bJ (show -9223372036854775808<=d.getD (s.2.getD k 0) 0*pK m s k by omega) (by omega)];simp only[bJ (show -9223372036854775808<=Int.tdiv (d.getD (s.2.getD k 0) 0*pK m s k) (qK m s k) by omega) (by omega)];rw[ct (aL (by rw[List.length_set,ht.len];exact hx)),bG (by rw[ht.len];exact hx),if_pos rfl];rw[ct (show cV.P g _=true by simp only[cV.P,Bool.and_eq_true,decide_eq_true_eq];exact⟨by omega,by omega,by omega,by omega⟩),bz (by rw[bR];omega)];exact ih (k+1) _ _ (by omega) (by omega) (by omega) hst
  ·have e:k=s.1.length:=by omega
   subst e;exact⟨d,g,ht,by rw[cf (df (by rw[bK];omega))]⟩
def loop3(hs:bW m=true)(h:cb m.1.toNat (ai m) i s)(k6:List Int->Int->Int->Int->List Int->Option J)(d0 d2:List Int)(g:Int)(h2:T2 m s d0 s.1.length d2 g):∀(M k:Nat) (d:List Int),k<=s.1.length->s.1.length-k<M->T3 m s d2 g k d ->
  ∃d',T3 m s d2 g s.1.length d'/\Z36L N k6 M d (aS s.1) (i:Int) g (k:Int) m.1 m.2.1 m.2.2=k6 d' (i:Int) m.1 m.2.1 m.2.2:=by
 have hle:=h.le;have hdim:=eE (dV hs);obtain⟨n,r,hn,hr,hn1,hn5,hnr,hr8,hl⟩:=cx hdim;have hg:=h2.g_range h.pos;intro M;induction M with
 |zero=>intro k _ _ hM;omega
 |succ M ih =>
  intro k d hk hM ht;simp only[Z36L,Z37];by_cases hlt:k<s.1.length
  ·have hx:=h.lt _ (bS 0 hlt);have c1:az (k:Int) (aS s.1).length=true:=aL (by rw[bK];omega);have hv:=h2.val k hlt;have hp8:=ll (k:=4+k) (by omega);have hdv:0<=Int.tdiv (d2.getD (s.1.getD k 0) 0) g/\Int.tdiv (d2.getD (s.1.getD k 0) 0) g<=9227446944279201:=by rw[Int.tdiv_eq_ediv_of_nonneg (by omega)];refine⟨Int.ediv_nonneg (by omega) (by omega), ?_⟩;have:=Int.ediv_le_self (a:=d2.getD (s.1.getD k 0) 0) g (by omega);omega
   rw[ct (dt (by rw[bK];omega)),ct c1,ct c1];simp only[Int.toNat_natCast,fA];rw[ct (aL (by rw[ht.len];exact hx)),ct (nt (by omega)),ct (aL (by rw[ht.len];exact hx)),ht.cur h.nd h.lt hlt,bJ (by omega) (by omega),bz (by rw[bR];omega)];exact ih (k+1) _ (by omega) (by omega) (ht.step h.nd h.lt hlt)
  ·have e:k=s.1.length:=by omega
   subst e;exact⟨d,ht,by rw[cf (df (by rw[bK];omega))]⟩
def outer(hN:10<=N)(hs:bW m=true)(k0:List Int->Int->Int->List Int->Option J):∀(M i:Nat) (d:List Int),i<=m.1.toNat->m.1.toNat-i<M->d.length=m.1.toNat->fC m.1.toNat (ai m) (λx=>d.getD x 0)->(∀x,x<i->0<d.getD x 0) ->
  ∃d',(d'.length=m.1.toNat/\fC m.1.toNat (ai m) (λx=>d'.getD x 0)/\∀x,x<m.1.toNat->0<d'.getD x 0)/\Z8L N k0 M d (i:Int) m.1 m.2.1 m.2.2=k0 d' m.1 m.2.1 m.2.2:=by
 have hdim:=eE (dV hs);obtain⟨n,r,hn,hr,hn1,hn5,hnr,hr8,hl⟩:=cx hdim;intro M;induction M with
 |zero=>intro i _ _ hM;omega
 |succ M ih =>
  intro i d hi hM hdl hpt hpos;simp only[Z8L,Z9,Z10];by_cases hlt:i<m.1.toNat
  ·rw[ct (dt (by omega))];simp only[Z11,Z12,Z13,Z14];rw[ct (aL (by omega)),Int.toNat_natCast];by_cases hd:0<d.getD i 0
   ·rw[ct (dt hd)];simp only[Z38];rw[bz (by rw[bR];omega)];exact ih (i+1) d hlt (by omega) hdl hpt (λx hx=>by
     by_cases e:x=i;·subst e;exact hd
     ·exact hpos x (by omega))
   ·rw[cf (df hd)];obtain⟨h,hcl⟩:=BJ hlt;simp only[Z15,Z16];rw[ct (show bq.P (m.1,(m.2.1,m.2.2)) (i:Int)=true by simp only[bq.P,Bool.and_eq_true,decide_eq_true_eq];exact⟨hdim,by omega,by omega⟩)];simp only[Z17,Z18];rw[ct (aL (by omega)),Int.toNat_natCast];have eP:bq.g (m.1,(m.2.1,m.2.2)) (i:Int)=(aS (gG m i).1,aS (gG m i).2):=rfl;rw[eP];generalize gG m i=s at h hcl;have hle:=h.le;simp only[Z19,Z20,Z21,Z22,Z23];have l1:=loop1 (J:=J) (N:=N) hs h hlt (λa b c d e f g=>Z25 N a b c d e f g (λa b c d e=>Z38 N a b c d e (λa b c d e=>Z8L N k0 M a b c d e))) d hdl N 1 (by omega) h.pos (by omega);rw[show b9 (qK m s) 1=1 by simp[b9,qK]]at l1;rw[show(((1:Nat):Int))=1 from rfl]at l1;rw[l1];simp only[Z25,Z26];have hset:∀v,(d.set i v).length=m.1.toNat:=λv=>by rw[List.length_set];exact hdl
    rw[ct (aL (by rw[hset];exact hlt)),Int.toNat_natCast,bG (by omega),if_pos rfl];simp only[Z27,Z28,Z29,Z30,Z31];have hH:=lj (lr hs h) s.1.length (by omega);have hHp:(99:Int) ^ s.1.length<=99 ^ (4+0)\/s.1.length=5:=by
     by_cases e:s.1.length=5;·exact Or.inr e
     ·left;have:99 ^ s.1.length<=99 ^ (4+0):=Nat.pow_le_pow_right (by omega) (by omega);exact_mod_cast this
    have hH4:b9 (qK m s) s.1.length<=99 ^ (4+0):=by
     rcases hHp with hc|hc;·omega
     ·rw[hc];have q1:b9 (qK m s) 1=1:=by simp[b9,qK]
      have b:∀k,1<=k->k<=s.1.length->b9 (qK m s) k<=99 ^ (k-1):=by
       intro k;induction k with
       |zero=>intro h _;omega
       |succ k ihk =>
        intro _ hk;by_cases e:k=0;·subst e;rw[q1];decide
        ·have c1:=ihk (by omega) (by omega);have c2:=lr hs h k (by omega);have c3:=lj (lr hs h) k (by omega);have:b9 (qK m s) k*qK m s k<=99 ^ (k-1)*99:=Int.mul_le_mul c1 c2.2 (by omega) (Int.pow_nonneg (by omega));rw[<-Int.pow_succ,show(k-1).succ=k by omega]at this;exact this
      exact b 5 (by omega) (by omega)
    have t0:T2 m s d 1 (d.set i (b9 (qK m s) s.1.length)) (b9 (qK m s) s.1.length):=by
     refine⟨hset _, ?_, ?_,λk h1 h2=>by omega, ?_⟩;·intro x hx hall;rw[bG (by omega),if_neg (λe=>hall 0 (by omega) (by rw[h.hd];exact e.symm))]
     ·intro k hk;have e:k=0:=by omega
      subst e;rw[h.hd,bG (by omega),if_pos rfl];refine⟨hH.1,hH4,⟨b9 (qK m s) 1,rfl⟩⟩
     ·show _=((bn [(d.set i (b9 (qK m s) s.1.length)).getD (s.1.getD 0 0) 0]:Nat):Int);rw[h.hd,bG (by omega),if_pos rfl,bn,bn,Nat.gcd_zero_right];omega
    obtain⟨d2,g2,ht2,l2⟩:=loop2 (J:=J) (N:=N) hs h (λa b c d e f g=>Z33 N a b c d e f g (λa b c d e=>Z38 N a b c d e (λa b c d e=>Z8L N k0 M a b c d e))) d N 1 _ _ (by omega) h.pos (by omega) t0;rw[show(((1:Nat):Int))=1 from rfl]at l2;rw[l2];simp only[Z33,Z34,Z35,Z36];obtain⟨d3,ht3,l3⟩:=loop3 (J:=J) (N:=N) hs h (λa b c d e=>Z38 N a b c d e (λa b c d e=>Z8L N k0 M a b c d e)) d d2 g2 ht2 N 0 d2 (by omega) (by omega) ⟨ht2.len,λ_ _ _=>rfl,λk hk=>by omega⟩;rw[show(((0:Nat):Int))=0 from rfl]at l3;rw[l3];obtain⟨p1,p2,p3⟩:=BN hs hlt h (by omega) hcl hpt (by omega) ht2 ht3;simp only[Z38];rw[bz (by rw[bR];omega)];exact ih (i+1) d3 hlt (by omega) ht3.len p1 (λx hx=>by
     by_cases e:x=i;·subst e;exact p2
     ·exact p3 x (by omega) (hpos x (by omega)))
  ·rw[cf (df (by omega))];exact⟨d,⟨hdl,hpt,λx hx=>hpos x (by omega)⟩,rfl⟩
def jJ(m:Int×Int×List Int)(d:List Int)(i j:Nat):Prop:=d.getD i 0*ai m i j=-(d.getD j 0*ai m j i)
def vD(hs:cI m=true){d:List Int}(hd:fC m.1.toNat (ai m) (λx=>d.getD x 0)){i j:Nat}(hi:i<m.1.toNat)(hj:j<m.1.toNat) :
  (av (d.getD i 0*ai m i j)=av (0-av (d.getD j 0*ai m j i)))↔jJ m d i j:=by
 have key:∀a b:Nat,a<m.1.toNat->-913517247483640899<=d.getD a 0*ai m a b/\d.getD a 0*ai m a b<=913517247483640899:=by intro a b ha;obtain⟨h1,h2,_⟩:=hd a ha;have h3:=gH hs a b;have h1':0<=d.getD a 0:=h1;have h2':d.getD a 0<=9227446944279201:=h2;have c1:d.getD a 0*ai m a b<=d.getD a 0*99:=Int.mul_le_mul_of_nonneg_left h3.2 h1';have c2:d.getD a 0*(-99)<=d.getD a 0*ai m a b:=Int.mul_le_mul_of_nonneg_left h3.1 h1';omega
 have k1:=key i j hi;have k2:=key j i hj;rw[bJ (by omega) (by omega),bJ (n:=d.getD j 0*ai m j i) (by omega) (by omega),bJ (by omega) (by omega),Int.zero_sub];rfl
def BX(hs:bW m=true){d:List Int}(hdl:d.length=m.1.toNat)(hd:fC m.1.toNat (ai m) (λx=>d.getD x 0))(k10:List Int->Int->Int->Int->List Int->Option J)(kr:List Int->Bool->Option J){i:Nat}(hi:i<m.1.toNat):∀(M j:Nat),j<=m.1.toNat->m.1.toNat-j<M ->
  (Z51L N k10 kr M d (i:Int) (j:Int) m.1 m.2.1 m.2.2=kr [] false/\∃j',j'<m.1.toNat/\¬ jJ m d i j') \/
  (Z51L N k10 kr M d (i:Int) (j:Int) m.1 m.2.1 m.2.2=k10 d (i:Int) m.1 m.2.1 m.2.2/\∀j',j<=j'->j'<m.1.toNat->jJ m d i j'):=by
 have hdim:=eE (dV hs);obtain⟨n,r,hn,hr,hn1,hn5,hnr,hr8,hl⟩:=cx hdim;intro M;induction M with
 |zero=>intro j _ hM;omega
 |succ M ih =>
  intro j hj hM;simp only[Z51L,Z52];by_cases hlt:j<m.1.toNat
  ·rw[ct (dt (by omega)),ct (aL (by omega)),ct (aL (by omega)),ct (at_p hdim hi hlt),ct (at_p hdim hlt hi)];have hA:bC.g (m.1,(m.2.1,m.2.2)) (i:Int) (j:Int)=ai m i j:=at_g (by omega) _ _;have hB:bC.g (m.1,(m.2.1,m.2.2)) (j:Int) (i:Int)=ai m j i:=at_g (by omega) _ _;simp only[Int.toNat_natCast,hA,hB];by_cases he:jJ m d i j
   ·rw[cf (nf ((vD (dV hs) hd hi hlt).2 he)),bz (by rw[bR];omega)];rcases ih (j+1) hlt (by omega)with hc|hc;·exact Or.inl hc
    ·refine Or.inr ⟨hc.1,λj' h1 h2=>?_⟩;by_cases e:j'=j;·subst e;exact he
     ·exact hc.2 j' (by omega) h2
   ·rw[ct (nt (λhc=>he ((vD (dV hs) hd hi hlt).1 hc)))];exact Or.inl ⟨rfl,j,hlt,he⟩
  ·rw[cf (df (by omega))];exact Or.inr ⟨rfl,λj' h1 h2=>by omega⟩
def BY(hN:10<=N)(hs:bW m=true){d:List Int}(hdl:d.length=m.1.toNat)(hd:fC m.1.toNat (ai m) (λx=>d.getD x 0))(k8:List Int->Option J)(kr:List Int->Bool->Option J):∀(M i:Nat),i<=m.1.toNat->m.1.toNat-i<M ->
  (Z43L N k8 kr M d (i:Int) m.1 m.2.1 m.2.2=kr [] false/\∃i' j',i'<m.1.toNat/\j'<m.1.toNat/\¬ jJ m d i' j') \/
  (Z43L N k8 kr M d (i:Int) m.1 m.2.1 m.2.2=k8 d/\∀i',i<=i'->i'<m.1.toNat->∀j',j'<m.1.toNat->jJ m d i' j'):=by
 have hdim:=eE (dV hs);obtain⟨n,r,hn,hr,hn1,hn5,hnr,hr8,hl⟩:=cx hdim;intro M;induction M with
 |zero=>intro i _ hM;omega
 |succ M ih =>
  intro i hi hM;simp only[Z43L,Z44,Z45];by_cases hlt:i<m.1.toNat
  ·rw[ct (dt (by omega))];simp only[Z46,Z47,Z48,Z49,Z50,Z51];have hc:=BX (J:=J) (N:=N) hs hdl hd (λa b c d e=>Z53 N a b c d e (λa b c d e=>Z43L N k8 kr M a b c d e)) kr hlt N 0 (by omega) (by omega);rw[show((0:Nat):Int)=0 from rfl]at hc;rcases hc with⟨hc,j',h1,h2⟩|⟨hc,h1⟩;·exact Or.inl ⟨hc,i,j',hlt,h1,h2⟩
   ·rw[hc];simp only[Z53];rw[bz (by rw[bR];omega)];rcases ih (i+1) hlt (by omega)with h2|h2;·exact Or.inl h2
    ·refine Or.inr ⟨h2.1,λi' h3 h4=>?_⟩;by_cases e:i'=i;·subst e;exact λj' hj'=>h1 j' (by omega) hj'
     ·exact h2.2 i' (by omega) h4
  ·rw[cf (df (by omega))];exact Or.inr ⟨rfl,λi' h1 h2=>by omega⟩
end
def ok:Spec:=λm hb hp=>⟨10,λN hN=>by
 have hs:bW m=true:=hp;have hdim:=eE (dV hs);obtain⟨n,r,hn,hr,hn1,hn5,hnr,hr8,hl⟩:=cx hdim;simp only[Z0,Z1,Z2,Z3];rw[ct (by rw[u7 (by omega),dt (by omega)];rfl)];simp only[Z4,Z5,Z6,Z7,Z8];have hz:∀x,(List.replicate m.1.toNat (0:Int)).getD x 0=0:=λx=>by rw[List.getD_eq_getElem?_getD,List.getElem?_replicate];split<;>rfl
 obtain⟨d,⟨h1,h2,h3⟩,h4⟩:=outer (J:=Unit×List Int×Bool×Unit) hN hs (λa b c d=>Z39 N a b c d (λt2 t3=>some ((),(t2,(t3,()))))) N 0 (List.replicate m.1.toNat 0) (by omega) (by omega) (by simp) (λj hj=>by show 0<=(List.replicate m.1.toNat (0:Int)).getD j 0/\(List.replicate m.1.toNat (0:Int)).getD j 0<=_/\(0<(List.replicate m.1.toNat (0:Int)).getD j 0->_);rw[hz];exact⟨by omega,by omega,λhc=>by omega⟩) (λx hx=>by omega);rw[show((0:Nat):Int)=0 from rfl]at h4;rw[h4];simp only[Z39,Z40,Z41,Z42,Z43];have hc:=BY (J:=Unit×List Int×Bool×Unit) hN hs h1 h2 (λd4=>Z54 N d4 (λt2 t3=>some ((),(t2,(t3,()))))) (λt2 t3=>some ((),(t2,(t3,())))) N 0 (by omega) (by omega);rw[show((0:Nat):Int)=0 from rfl]at hc;rcases hc with⟨hc,i',j',h5,h6,h7⟩|⟨hc,h5⟩;·rw[hc,g,BP hs h2 h3 h5 h6 h7];rfl
 ·have h6:=vu h1 h2 h3 (λi hi j hj=>h5 i (by omega) hi j hj);rw[hc,g,h6];simp only[Z54];rw[df (λe=>by rw[e]at h1;simp at h1;omega)];rfl⟩
end aI
namespace eU
def g(m:Int×Int×List Int):Bool:=bW m&&!decide (ca m=[])
def Z0{J:Type}(N:Nat)(a:MT)(kr:Bool->Option J):Option J :=
 cond (!(lk N ((bB.g a))))
 (
  kr false)
 (
  cond (lk N (aI.P a)) (
   kr (lk N ((aI.g a).2))) none)
def Spec:Prop:=∀ (v0:MT),Ty.bd (.pair (.int .i64) (.pair (.int .i64) (.sl 0 (.int .i64)))) v0->∃N0,∀N,N0<=N->Z0 N v0 (λv2=>some ((),(v2,())))=some ((),((g v0),()))
def ok:Spec:=λm hb=>⟨0,λN hN=>by simp only[Z0,aP,g,bB.g,aI.P,aI.g];cases bW m<;>rfl⟩
end eU
namespace dh
def g(a b:List Int):Bool:=fj a b
def Z1{J:Type}(N:Nat)(a b:LI)(kn:LI->LI->Option J):Option J :=
 kn a b
def Z4{J:Type}(N:Nat)(a b:LI)(kn:LI->LI->Int->Option J):Option J :=
 kn a b 0
def Z7{J:Type}(N:Nat)(b c:LI)(a:Int)(kn:LI->LI->Int->Option J)(k0:LI->LI->Option J)(kr:Bool->Option J):Option J :=
 cond (lk N (decide (a<(b.length:Int))))
 (
  cond (lk N (decide (a<(c.length:Int))))
  (
   cond (lk N (az a b.length)) (
    cond (lk N (az a c.length)) (
     cond (lk N (!(decide ((b.getD a.toNat 0)=(c.getD a.toNat 0)))))
     (
      cond (lk N (az a b.length)) (
       cond (lk N (az a c.length)) (
        kr (lk N (decide ((b.getD a.toNat 0)<(c.getD a.toNat 0))))) none) none)
     (
      kn b c (av (a+1)))) none) none)
  (
   k0 b c))
 (
  k0 b c)
def Z6L{J:Type}(N:Nat)(k0:LI->LI->Option J)(kr:Bool->Option J):Nat->LI->LI->Int->Option J
 |0,_,_,_=>none
 |M+1,a,b,c=>Z7 N a b c (λa b c=>Z6L N k0 kr M a b c) k0 kr
def Z6 N a b c k0 kr:=(Z6L N k0 kr N a b c:Option J)
def Z5 N a b c kn kr:=(Z6 N a b c kn kr:Option J)
def Z3 N a b kn kr:=(Z4 N a b (λa b c=>Z5 N a b c kn kr):Option J)
def Z8{J:Type}(N:Nat)(a b:LI)(kr:Bool->Option J):Option J :=
 kr (lk N (decide ((a.length:Int)<(b.length:Int))))
def Z2 N a b kr:=(Z3 N a b (λa b=>Z8 N a b kr) kr:Option J)
def Z0 N a b kr:=(Z1 N a b (λa b=>Z2 N a b kr):Option J)
def Spec:Prop:=∀ (v0 v1:LI),Ty.bd (.sl 0 (.int .i64)) v0->Ty.bd (.sl 0 (.int .i64)) v1->∃N0,∀N,N0<=N->Z0 N v0 v1 (λv4=>some ((),(v4,())))=some ((),((g v0 v1),()))
def loop{J:Type}(N:Nat)(k0:List Int->List Int->Option J)(kr:Bool->Option J)(a b:List Int)(ha:a.length<=maxLen)(h0:k0 a b=kr (decide (a.length<b.length))):∀(M j:Nat),j<=a.length->j<=b.length->a.length-j<M ->
  Z6L N k0 kr M a b (j:Int)=kr (fj (a.drop j) (b.drop j)):=by
 intro M;induction M with
 |zero=>intro j _ _ h;omega
 |succ M ih =>
  intro j hj hb hM;simp only[Z6L,Z7];by_cases h:j<a.length
  ·rw[ct (dt (by omega)),cw 0 h];by_cases h2:j<b.length
   ·rw[ct (dt (by omega)),ct (aL h),ct (aL h2),Int.toNat_natCast,bz (by omega),cw (l:=b) 0 h2,fj,ih (j+1) h h2 (by omega)];by_cases e:a.getD j 0=b.getD j 0;·rw[cf (nf e),if_pos e]
    ·rw[ct (nt e),if_neg e,ct (aL h),ct (aL h2),aP]
   ·rw[cf (df (by omega)),List.drop_of_length_le (l:=b) (by omega),h0,df (by omega)];rfl
  ·rw[cf (df (by omega)),List.drop_of_length_le (by omega),h0];by_cases h2:j<b.length;·rw[dt (by omega),cw (l:=b) 0 h2];rfl
   ·rw[df (by omega),List.drop_of_length_le (l:=b) (by omega)];rfl
def ok:Spec:=λa b ha hb=>⟨a.length+1,λN hN=>by simp only[Z1,Z4,Z7,Z6,Z5,Z3,Z8,Z2,Z0];refine(loop N _ (λt=>some ((),(t,()))) a b ha.1 ?_ N 0 (by omega) (by omega) (by omega)).trans rfl;rw[aP,show decide ((a.length:Int)<(b.length:Int))=decide (a.length<b.length)from decide_eq_decide.2 (by omega)]⟩
end dh
namespace bu
def g(f:Int×List (List Int×Int)):Bool:=ns f
def Z1{J:Type}(N:Nat)(a:Int×List (LI×Int))(kn:Int->(List (LI×Int))->Option J):Option J :=
 kn a.1 a.2
def Z3{J:Type}(N:Nat)(a:Int)(b:List (LI×Int))(kn:Int->(List (LI×Int))->Option J)(kr:Bool->Option J):Option J :=
 cond (!(lk N ((dg.g a 1 8))))
 (
  kr false)
 (
  cond (lk N (decide (600<(b.length:Int))))
  (
   kr false)
  (
   kn a b))
def Z6{J:Type}(N:Nat)(a:Int)(b:List (LI×Int))(kn:I2 ((List (LI×Int))->Option J)):Option J :=
 kn 0 a b
def Z10{J:Type}(N:Nat)(a c:Int)(b:List (LI×Int))(kn:I2 ((List (LI×Int))->Option J))(k0:Option J):Option J :=
 cond (lk N (decide (a<(b.length:Int))))
 (
  kn a c b)
 (
  k0)
def Z14{J:Type}(N:Nat)(a c:Int)(b:List (LI×Int))(kn:I2 ((List (LI×Int))->LI->Int->Option J)):Option J :=
 cond (lk N (az a b.length)) (
  kn a c b (b.getD a.toNat ([],0)).1 (b.getD a.toNat ([],0)).2) none
def Z16{J:Type}(N:Nat)(a e:Int)(b:List (LI×Int))(c:LI)(d:Int)(kn:I2 ((List (LI×Int))->LI->Int->Option J))(kr:Bool->Option J):Option J :=
 cond (lk N (!(decide ((c.length:Int)=e))))
 (
  kr false)
 (
  cond (lk N (decide (d=0)))
  (
   kr false)
  (
   cond (!(lk N ((dg.g d (-1000000) 1000000))))
   (
    kr false)
   (
    cond (lk N (decide (0<a)))
    (
     cond (lk N (az (av (a-1)) b.length)) (
      cond (!(lk N ((dh.g c (b.getD (av (a-1)).toNat ([],0)).1))))
      (
       kr false)
      (
       kn a e b c d)) none)
    (
     kn a e b c d))))
def Z18{J:Type}(N:Nat)(a b:Int)(c:List (LI×Int))(d:LI)(e:Int)(kn:I3 ((List (LI×Int))->LI->Int->Option J)):Option J :=
 kn a 0 b c d e
def Z21{J:Type}(N:Nat)(d a b:Int)(e:List (LI×Int))(c:LI)(f:Int)(kn:I3 ((List (LI×Int))->LI->Int->Option J))(k2:I2 ((List (LI×Int))->Option J))(kr:Bool->Option J):Option J :=
 cond (lk N (decide (a<b)))
 (
  cond (lk N (az a c.length)) (
   cond (!(lk N ((dg.g (c.getD a.toNat 0) (-20) 20))))
   (
    kr false)
   (
    kn d (av (a+1)) b e c f)) none)
 (
  k2 d b e)
def Z20L{J:Type}(N:Nat)(k2:I2 ((List (LI×Int))->Option J))(kr:Bool->Option J):Nat->Int->Int->Int->(List (LI×Int))->LI->Int->Option J
 |0,_,_,_,_,_,_=>none
 |M+1,a,b,c,d,e,f=>Z21 N a b c d e f (λa b c d e f=>Z20L N k2 kr M a b c d e f) k2 kr
def Z20 N a b c d e f k2 kr:=(Z20L N k2 kr N a b c d e f:Option J)
def Z19 N a b c d e f kn kr:=(Z20 N a b c d e f kn kr:Option J)
def Z17 N a b c d e kn kr:=(Z18 N a b c d e (λa f b c d e=>Z19 N a f b c d e kn kr):Option J)
def Z15 N a b c d e kn kr:=(Z16 N a b c d e (λa b c d e=>Z17 N a b c d e kn kr) kr:Option J)
def Z13 N a b c kn kr:=(Z14 N a b c (λa b c d e=>Z15 N a b c d e kn kr):Option J)
def Z12 N a b c kn kr:=(Z13 N a b c kn kr:Option J)
def Z22{J:Type}(N:Nat)(a b:Int)(c:List (LI×Int))(kn:I2 ((List (LI×Int))->Option J)):Option J :=
 kn (av (a+1)) b c
def Z11 N a b c kn kr:=(Z12 N a b c (λa b c=>Z22 N a b c kn) kr:Option J)
def Z9 N a b c kn k0 kr:=(Z10 N a b c (λa b c=>Z11 N a b c kn kr) k0:Option J)
def Z8L{J:Type}(N:Nat)(k0:Option J)(kr:Bool->Option J):Nat->Int->Int->(List (LI×Int))->Option J
 |0,_,_,_=>none
 |M+1,a,b,c=>Z9 N a b c (λa b c=>Z8L N k0 kr M a b c) k0 kr
def Z8 N a b c k0 kr:=(Z8L N k0 kr N a b c:Option J)
def Z7 N a b c kn kr:=(Z8 N a b c kn kr:Option J)
def Z5 N a b kn kr:=(Z6 N a b (λc a b=>Z7 N c a b kn kr):Option J)
def Z23{J:Type}(N:Nat) (kr:Bool->Option J):Option J :=
 kr true
def Z4 N a b kr:=(Z5 N a b (Z23 N kr) kr:Option J)
def Z2 N a b kr:=(Z3 N a b (λa b=>Z4 N a b kr) kr:Option J)
def Z0 N a kr:=(Z1 N a (λb c=>Z2 N b c kr):Option J)
def Spec:Prop:=∀ (v0:Int×List (LI×Int)),Ty.bd (.pair (.int .i64) (.sl 0 (.pair (.sl 0 (.int .i64)) (.int .i64)))) v0->∃N0,∀N,N0<=N->Z0 N v0 (λv2=>some ((),(v2,())))=some ((),((g v0),()))
def inner{J:Type}(N:Nat)(k2:Int->Int->List (List Int×Int)->Option J)(kr:Bool->Option J)(k v:Int)(l:List (List Int×Int))(e:List Int)(c:Int)(he:e.length<=maxLen)(hv:(e.length:Int)=v):∀(M j:Nat),j<=e.length->e.length-j<M ->
  Z20L N k2 kr M k (j:Int) v l e c=cond ((e.drop j).all λx=>bV x (-20) 20) (k2 k v l) (kr false):=by
 intro M;induction M with
 |zero=>intro j _ h;omega
 |succ M ih =>
  intro j hj hM;simp only[Z20L,Z21];by_cases h:j<e.length;·rw[ct (dt (by omega)),ct (aL h),Int.toNat_natCast,bz (by omega),cw 0 h,List.all_cons,ih (j+1) h (by omega)];simp only[aP,dg.g];cases bV (e.getD j 0) (-20) 20<;>rfl
  ·rw[cf (df (by omega)),List.drop_of_length_le (by omega)];rfl
def loop{J:Type}(N:Nat)(kr:Bool->Option J)(v:Int)(l:List (List Int×Int))(hl:l.length<=maxLen)(hv:bV v 1 8=true)(hN:10<=N):∀(M j:Nat),j<=l.length->l.length-j<M ->
  Z8L N (kr true) kr M (j:Int) v l=kr (gE v (l.drop j) (nr l j)):=by
 simp only[bV,Bool.and_eq_true,decide_eq_true_eq]at hv;intro M;induction M with
 |zero=>intro j _ h;omega
 |succ M ih =>
  intro j hj hM;simp only[Z8L,Z1,Z3,Z6,Z10,Z14,Z16,Z18,Z21,Z20,Z19,Z17,Z15,Z13,Z12,Z22,Z11,Z9,Z8,Z7,Z5,Z23,Z4,Z2,Z0];by_cases h:j<l.length
  ·rw[ct (dt (by omega)),ct (aL h),Int.toNat_natCast,cw ([],0) h,gE];by_cases hlen:((l.getD j ([],0)).1.length:Int)=v
   ·rw[cf (nf hlen)];have hin:=inner (J:=J) N (λk3 f1_0 f1_1=>Z8L N (kr true) kr M (av (k3+1)) f1_0 f1_1) kr j v l (l.getD j ([],0)).1 (l.getD j ([],0)).2 (by rw[bR];omega) hlen N 0 (by omega) (by omega);rw[List.drop_zero,bz (by omega),ih (j+1) h (by omega)]at hin;rw[show(((0:Nat):Int))=0 from rfl]at hin;simp only[aP,dg.g,jD,dt hlen,Bool.true_and,lh];rw[hin];generalize((l.getD j ([],0)).1.all λx=>bV x (-20) 20)=b1;cases hz:decide ((l.getD j ([],0)).2=0)with
    |true=>cases b1<;>rfl
    |false =>
     cases bV (l.getD j ([],0)).2 (-1000000) 1000000 with
     |false=>cases b1<;>rfl
     |true =>
      cases j with
      |zero=>cases b1<;>rfl
      |succ j =>rw[dt (show(0:Int)<((j+1:Nat):Int) by omega),show av (((j+1:Nat):Int)-1)=(j:Int) by rw[bJ (by omega) (by rw[bR]at hl;omega)];omega,aL (by omega)];simp only[cond_true,Int.toNat_natCast,dh.g,nr,rr,Bool.not_true,cond_false,Bool.not_false,Bool.true_and];cases fj (l.getD (j+1) ([],0)).1 (l.getD j ([],0)).1<;>cases b1<;>rfl
   ·rw[ct (nt hlen),jD,df hlen];rfl
  ·rw[cf (df (by omega)),List.drop_of_length_le (by omega),gE]
def ok:Spec:=λf hb=>⟨f.2.length+10,λN hN=>by
 simp only[Z1,Z3,Z6,Z10,Z14,Z16,Z18,Z21,Z20,Z19,Z17,Z15,Z13,Z12,Z22,Z11,Z9,Z8,Z7,Z5,Z23,Z4,Z2,Z0,g,ns,dg.g];cases h1:bV f.1 1 8;·simp[aP]
 by_cases h2:(600:Int)<f.2.length;·rw[eD (by simp[aP]),ct (dt h2),df (by omega)];simp
 ·rw[eD (by simp[aP]),cf (df h2),dt (show f.2.length<=600 by omega)];exact(loop N (λt=>some ((),(t,()))) _ f.2 hb.2.1 h1 (by omega) N 0 (by omega) (by omega)).trans rfl⟩
end bu
namespace cz
def okOne(rows:Int)(x:Int×List (List Int×Int)):Bool:=bu.g x&&(decide (x.1=rows)&&!decide (x.2.length=0))
def g(s:(Int×Int×List Int)×List (Int×List (List Int×Int))):Bool:=eU.g s.1&&(decide ((s.2.length:Int)=s.1.2.1)&&s.2.all (okOne s.1.2.1))
def Z1{J:Type}(N:Nat)(a:(MT)×List (Int×List (LI×Int)))(kn:I2 (LI->(List (Int×List (LI×Int)))->Option J)):Option J :=
 kn a.1.1 a.1.2.1 a.1.2.2 a.2
def Z3{J:Type}(N:Nat)(b a:Int)(c:LI)(d:List (Int×List (LI×Int)))(kn:I2 (LI->(List (Int×List (LI×Int)))->Option J))(kr:Bool->Option J):Option J :=
 cond (!(lk N ((eU.g (b,(a,c))))))
 (
  kr false)
 (
  cond (lk N (!(decide ((d.length:Int)=a))))
  (
   kr false)
  (
   kn b a c d))
def Z6{J:Type}(N:Nat)(a b:Int)(c:LI)(d:List (Int×List (LI×Int)))(kn:I3 (LI->(List (Int×List (LI×Int)))->Option J)):Option J :=
 kn 0 a b c d
def Z9{J:Type}(N:Nat)(a d c:Int)(e:LI)(b:List (Int×List (LI×Int)))(kn:I3 (LI->(List (Int×List (LI×Int)))->Option J))(k0:Option J)(kr:Bool->Option J):Option J :=
 cond (lk N (decide (a<(b.length:Int))))
 (
  cond (lk N (az a b.length)) (
   cond (!(lk N ((bu.g (b.getD a.toNat (0,[]))))))
   (
    kr false)
   (
    cond (lk N (az a b.length)) (
     cond (lk N (!(decide ((b.getD a.toNat (0,[])).1=c))))
     (
      kr false)
     (
      cond (lk N (az a b.length)) (
       cond (lk N (decide (((b.getD a.toNat (0,[])).2.length:Int)=0)))
       (
        kr false)
       (
        kn (av (a+1)) d c e b)) none)) none)) none)
 (
  k0)
def Z8L{J:Type}(N:Nat)(k0:Option J)(kr:Bool->Option J):Nat->Int->Int->Int->LI->(List (Int×List (LI×Int)))->Option J
 |0,_,_,_,_,_=>none
 |M+1,a,b,c,d,e=>Z9 N a b c d e (λa b c d e=>Z8L N k0 kr M a b c d e) k0 kr
def Z8 N a b c d e k0 kr:=(Z8L N k0 kr N a b c d e:Option J)
def Z7 N a b c d e kn kr:=(Z8 N a b c d e kn kr:Option J)
def Z5 N a b c d kn kr:=(Z6 N a b c d (λe a b c d=>Z7 N e a b c d kn kr):Option J)
def Z10{J:Type}(N:Nat) (kr:Bool->Option J):Option J :=
 kr true
def Z4 N a b c d kr:=(Z5 N a b c d (Z10 N kr) kr:Option J)
def Z2 N a b c d kr:=(Z3 N a b c d (λa b c d=>Z4 N a b c d kr) kr:Option J)
def Z0 N a kr:=(Z1 N a (λb c d e=>Z2 N b c d e kr):Option J)
def Spec:Prop:=∀ (v0:(MT)×List (Int×List (LI×Int))),Ty.bd (.pair (.pair (.int .i64) (.pair (.int .i64) (.sl 0 (.int .i64)))) (.sl 0 (.pair (.int .i64) (.sl 0 (.pair (.sl 0 (.int .i64)) (.int .i64)))))) v0->∃N0,∀N,N0<=N->Z0 N v0 (λv2=>some ((),(v2,())))=some ((),((g v0),()))
def loop{J:Type}{N:Nat}(k0:Option J)(kr:Bool->Option J){l:List (Int×List (List Int×Int))}{a rows:Int}{d:List Int}(hl:l.length<=maxLen)(h0:k0=kr true):∀(M i:Nat),i<=l.length->l.length-i<M ->
  Z8L N k0 kr M (i:Int) a rows d l=kr ((l.drop i).all (okOne rows)):=by
 intro M;induction M with
 |zero=>intro i _ h;omega
 |succ M ih =>
  intro i hi hM;simp only[Z8L,Z9,aP];by_cases h:i<l.length;·have z1:decide ((i:Int)<(l.length:Int))=true:=dt (by omega);have hw:av ((i:Int)+1)=((i+1:Nat):Int):=bz (by omega);have nx:=ih (i+1) (by omega) (by omega);rw[cw (0,[]) h,List.all_cons];simp only[z1,aL h,Int.toNat_natCast,cond_true,hw,nx];have ez:decide (((l.getD i (0,[])).2.length:Int)=0)=decide ((l.getD i (0,[])).2.length=0):=decide_eq_decide.2 (by omega);rw[ez];show _=kr ((bu.g (l.getD i (0,[]))&&(decide ((l.getD i (0,[])).1=rows)&&!decide ((l.getD i (0,[])).2.length=0)))&&(l.drop (i+1)).all (okOne rows));generalize(l.drop (i+1)).all (okOne rows)=r;generalize decide ((l.getD i (0,[])).1=rows)=b1;generalize decide ((l.getD i (0,[])).2.length=0)=b2;generalize bu.g (l.getD i (0,[]))=b3;cases b1<;>cases b2<;>cases b3<;>rfl
  ·rw[df (show ¬ (i:Int)<(l.length:Int) by omega),cond_false,List.drop_of_length_le (by omega),h0];rfl
def ok:Spec:=λs hb=>⟨s.2.length+1,λN hN=>by
 have e0:((s.1.1,(s.1.2.1,s.1.2.2)):Int×Int×List Int)=s.1:=rfl;simp only[Z1,Z3,Z6,Z9,Z8,Z7,Z5,Z10,Z4,Z2,Z0,aP,e0];unfold g;cases eU.g s.1;·rfl
 ·by_cases h:(s.2.length:Int)=s.1.2.1;·rw[nf h,dt h];simp only[Bool.not_true,cond_false];refine(loop _ (λt=>some ((),(t,()))) hb.2.1 rfl N 0 (Nat.zero_le _) (by omega)).trans ?_;rw[List.drop_zero];rfl
  ·rw[nt h,df h];rfl⟩
end cz
namespace dj
def g(n low high:Int):Bool:=bV n low high
def Z0{J:Type}(N:Nat)(a b c:Int)(kr:Bool->Option J):Option J :=
 cond (lk N (decide (b<=a)))
 (
  kr (lk N (decide (a<=c))))
 (
  kr false)
def Spec:Prop:=∀ (v0 v1 v2:Int),∃N0,∀N,N0<=N->Z0 N v0 v1 v2 (λv6=>some ((),(v6,())))=some ((),((g v0 v1 v2),()))
def ok:Spec:=λn low high=>⟨0,λN hN=>by simp only[Z0,aP,g,bV];cases decide (low<=n)<;>rfl⟩
end dj
namespace dE
def g(x:Int):Bool:=!bV x (-99) 99
def Z0{J:Type}(N:Nat)(a:Int)(kr:Bool->Option J):Option J :=
 kr (!(lk N ((dj.g a (-99) 99))))
def Spec:Prop:=∀ (v0:Int),∃N0,∀N,N0<=N->Z0 N v0 (λv2=>some ((),(v2,())))=some ((),((g v0),()))
def ok:Spec:=λn=>⟨0,λN hN=>by simp only[Z0,g,aP,dj.g]⟩
end dE
namespace cW
def go(p:Int->Bool):List Int->Nat->Int
 |[],_=>-1
 |x::xs,j=>if p x=true then(j:Int)else go p xs (j+1)
def g(s:List Int)(_:Unit):Int:=go dE.g s 0
def Z1{J:Type}(N:Nat)(a:LI)(b:Unit)(kn:LI->Option J):Option J :=
 kn a
def Z4{J:Type}(N:Nat)(a:LI)(kn:LI->I2 (Option J)):Option J :=
 kn a (a.length:Int) 0
def Z7{J:Type}(N:Nat)(b:LI)(c a:Int)(kn:LI->I2 (Option J))(k0:Option J)(kr:Int->Option J):Option J :=
 cond (lk N (decide (a<c)))
 (
  cond (lk N (az a b.length)) (
   cond (lk N ((dE.g (b.getD a.toNat 0))))
   (
    kr a)
   (
    kn b c (av (a+1)))) none)
 (
  k0)
def Z6L{J:Type}(N:Nat)(k0:Option J)(kr:Int->Option J):Nat->LI->Int->Int->Option J
 |0,_,_,_=>none
 |M+1,a,b,c=>Z7 N a b c (λa b c=>Z6L N k0 kr M a b c) k0 kr
def Z6 N a b c k0 kr:=(Z6L N k0 kr N a b c:Option J)
def Z5 N a b c kn kr:=(Z6 N a b c kn kr:Option J)
def Z3 N a kn kr:=(Z4 N a (λa b c=>Z5 N a b c kn kr):Option J)
def Z8{J:Type}(N:Nat) (kr:Int->Option J):Option J :=
 kr (-1)
def Z2 N a kr:=(Z3 N a (Z8 N kr) kr:Option J)
def Z0 N a b kr:=(Z1 N a b (λa=>Z2 N a kr):Option J)
def Spec:Prop:=∀ (v0:LI) (v1:Unit),Ty.bd (.sl 0 (.int .i64)) v0->∃N0,∀N,N0<=N->Z0 N v0 v1 (λv4=>some ((),(v4,())))=some ((),((g v0 v1),()))
def loop{J:Type}(N:Nat)(kr:Int->Option J)(a:List Int)(ha:a.length<=maxLen):∀(M j:Nat),j<=a.length->a.length-j<M ->
  Z6L N (kr (-1)) kr M a (a.length:Int) (j:Int)=kr (go dE.g (a.drop j) j):=by
 intro M;induction M with
 |zero=>intro j _ h;omega
 |succ M ih =>
  intro j hj hM;simp only[Z6L,Z7];by_cases h:j<a.length
  ·rw[ct (dt (by omega)),ct (aL h),Int.toNat_natCast,bz (by omega),ih (j+1) h (by omega),cw 0 h,go];cases e:dE.g (a.getD j 0);·rw[cf rfl,if_neg (by simp)]
   ·rw[ct rfl,if_pos rfl]
  ·rw[cf (df (by omega)),List.drop_of_length_le (by omega),go]
def ok:Spec:=λa _ ha=>⟨a.length+1,λN hN=>by simp only[Z1,Z4,Z7,Z6,Z5,Z3,Z8,Z2,Z0];exact(loop N (λt=>some ((),(t,()))) a ha.1 N 0 (by omega) (by omega)).trans rfl⟩
def go_pos(p:Int->Bool):∀(l:List Int) (j:Nat),0<=go p l j↔∃x∈l,p x=true
 |[],j=>by simp[go]
 |x::xs,j=>by
  rw[go];by_cases h:p x=true;·rw[if_pos h];simp[h]
  ·rw[if_neg h,go_pos p xs];simp[h]
end cW
namespace fY
def g(s:List Int)(_:Unit):Bool:=s.any dE.g
def Z0{J:Type}(N:Nat)(a:LI)(b:Unit)(kr:Bool->Option J):Option J :=
 kr (lk N (decide (0<=(cW.g a ()))))
def Spec:Prop:=∀ (v0:LI) (v1:Unit),Ty.bd (.sl 0 (.int .i64)) v0->∃N0,∀N,N0<=N->Z0 N v0 v1 (λv4=>some ((),(v4,())))=some ((),((g v0 v1),()))
def ok:Spec:=λa _ ha=>⟨0,λN hN=>by
 simp only[Z0,aP,g];have:=(show 0<=cW.g a ()↔∃x∈a,dE.g x=true from cW.go_pos dE.g a 0);cases e:a.any dE.g;·rw[df (λh=>by have:=this.1 h;rw[<-List.any_eq_true,e]at this;cases this)]
 ·rw[dt (this.2 (List.any_eq_true.1 e))]⟩
end fY
namespace fZ
def g(m:Int×Int×List Int):Bool:=cI m
def Z0{J:Type}(N:Nat)(a:MT)(kr:Bool->Option J):Option J :=
 cond (lk N ((dj.g a.1 1 5)))
 (
  cond (lk N ((dj.g a.2.1 a.1 8)))
  (
   cond (lk N (decide ((a.2.2.length:Int)=(av (a.1*a.2.1)))))
   (
    kr (!(lk N ((fY.g a.2.2 ())))))
   (
    kr false))
  (
   kr false))
 (
  kr false)
def Spec:Prop:=∀ (v0:MT),Ty.bd (.pair (.int .i64) (.pair (.int .i64) (.sl 0 (.int .i64)))) v0->∃N0,∀N,N0<=N->Z0 N v0 (λv2=>some ((),(v2,())))=some ((),((g v0),()))
def ok:Spec:=λm hb=>⟨0,λN hN=>by
 simp only[Z0,g,aP,dj.g,cI,cH,fY.g,List.not_any_eq_all_not,iH];cases h1:bV m.1 1 5;·rfl
 cases h2:bV m.2.1 m.1 8;·rfl
 have e1:=jG.1 h1;have e2:=jG.1 h2;have e3:0<=m.1*m.2.1:=Int.mul_nonneg (by omega) (by omega);have e4:m.1*m.2.1<=5*8:=Int.mul_le_mul (by omega) (by omega) (by omega) (by omega);rw[bJ (by omega) (by omega)];cases h3:decide ((m.2.2.length:Int)=m.1*m.2.1);·rfl
 simp[dE.g]⟩
end fZ
namespace dY
def P(m:Int×Int×List Int)(i j:Int):Bool:=jE m i j
def g(m:Int×Int×List Int)(i j:Int):Int:=jF m i j
def Z0{J:Type}(N:Nat)(a:MT)(b c:Int)(kr:Int->Option J):Option J :=
 cond (lk N (az (av ((av (b*a.1))+c)) a.2.2.length)) (
  kr (a.2.2.getD (av ((av (b*a.1))+c)).toNat 0)) none
def Spec:Prop:=∀ (v0:MT) (v1 v2:Int),Ty.bd (.pair (.int .i64) (.pair (.int .i64) (.sl 0 (.int .i64)))) v0->P v0 v1 v2=true->∃N0,∀N,N0<=N->Z0 N v0 v1 v2 (λv6=>some ((),(v6,())))=some ((),((g v0 v1 v2),()))
def ok:Spec:=λm i j hb hp=>⟨0,λN hN=>by obtain⟨h1,h2,h3⟩:=vf hb.2.2.1 hp;simp only[Z0,g,jF,h1];rw[ct (u6 h2 h3)]⟩
end dY
namespace bL
def P(a b:Int):Bool:=decide (0<=a)&&(decide (a<9223372036854775808)&&(decide (0<=b)&&decide (b<9223372036854775808)))
def g(a b:Int):Int:=(Int.gcd a b:Int)
def Z1{J:Type}(N:Nat)(a b:Int)(kn:I2 (Option J)):Option J :=
 kn a b
def Z5{J:Type}(N:Nat)(b a:Int)(kn:I2 (Option J))(k0:Int->Option J):Option J :=
 cond (lk N (!(decide (a=0))))
 (
  cond (lk N (!(decide (a=0)))) (
   kn a (Int.tmod b a)) none)
 (
  k0 b)
def Z4L{J:Type}(N:Nat)(k0:Int->Option J):Nat->Int->Int->Option J
 |0,_,_=>none
 |M+1,a,b=>Z5 N a b (λa b=>Z4L N k0 M a b) k0
def Z4 N a b k0:=(Z4L N k0 N a b:Option J)
def Z3 N a b kn:=(Z4 N a b kn:Option J)
def Z6{J:Type}(N:Nat)(a:Int)(kr:Int->Option J):Option J :=
 kr (mx a (av (0-a)))
def Z2 N a b kr:=(Z3 N a b (λa=>Z6 N a kr):Option J)
def Z0 N a b kr:=(Z1 N a b (λa b=>Z2 N a b kr):Option J)
def Spec:Prop:=∀ (v0 v1:Int),P v0 v1=true->∃N0,∀N,N0<=N->Z0 N v0 v1 (λv4=>some ((),(v4,())))=some ((),((g v0 v1),()))
def loop{J:Type}(N:Nat)(k0:Int->Option J):∀(M:Nat) (a b:Nat),b<M->Z4L N k0 M (a:Int) (b:Int)=k0 (Nat.gcd b a:Nat):=by
 intro M;induction M with
 |zero=>intro a b h;omega
 |succ M ih =>
  intro a b hM;simp only[Z4L,Z5];by_cases h:b=0;·subst h;rw[cf (by simp),Nat.gcd_zero_left]
  ·rw[ct (nt (by omega)),ct (nt (by omega)),show Int.tmod (a:Int) (b:Int)=((a%b:Nat):Int)from rfl,ih _ _ (by have:=Nat.mod_lt a (Nat.pos_of_ne_zero h);omega),<-Nat.gcd_rec]
def ok:Spec:=λa b hp=>⟨b.toNat+1,λN hN=>by
 simp only[P,Bool.and_eq_true,decide_eq_true_eq]at hp;obtain⟨h1,h2,h3,h4⟩:=hp;obtain⟨x,rfl⟩:=Int.eq_ofNat_of_zero_le h1;obtain⟨y,rfl⟩:=Int.eq_ofNat_of_zero_le h3;simp only[Z1,Z5,Z4,Z3,Z6,Z2,Z0,g];rw[loop N _ N x y (by omega),Nat.gcd_comm];have hl:Nat.gcd x y<=max x y:=by
  rcases Nat.eq_zero_or_pos x with h|h;·subst h;rw[Nat.gcd_zero_left];omega
  ·have:=Nat.gcd_le_left y h;omega
 show some ((),(mx ((Nat.gcd x y:Nat):Int) (av (0-((Nat.gcd x y:Nat):Int))),()))=some ((),(((Nat.gcd x y:Nat):Int),()));rw[bJ (by omega) (by omega),rb];congr 3;omega⟩
end bL
namespace aA
def P(m:Int×Int×List Int):Bool:=cI m
abbrev g(m:Int×Int×List Int):List Int:=ca m
def Z1{J:Type}(N:Nat)(a:MT)(kn:I2 (LI->Option J)):Option J :=
 kn a.1 a.2.1 a.2.2
def Z3{J:Type}(N:Nat)(a b:Int)(c:LI)(kn:LI->LI->I2 (LI->Option J)):Option J :=
 bo (
  cond (lk N (bh 0 a&&decide (a<1099511627776))) (
   cond (lk N (bh 0 a&&decide (a<1099511627776))) (
    kn (List.replicate a.toNat (0:Int)) (List.replicate a.toNat (0:Int)) a b c) none) none)
def Z5{J:Type}(N:Nat)(b c:LI)(a d:Int)(e:LI)(kn:LI->LI->LI->I2 (LI->Option J)):Option J :=
 cond (lk N (bh 0 a&&decide (a<1099511627776))) (
  kn b c (List.replicate a.toNat (0:Int)) a d e) none
def Z8{J:Type}(N:Nat)(a b c:LI)(d e:Int)(f:LI)(kn:LI->LI->LI->I4 (LI->Option J)):Option J :=
 kn a b c (a.length:Int) 0 d e f
def Z12{J:Type}(N:Nat)(c d e:LI)(a b f g:Int)(h:LI)(kn:LI->LI->LI->I2 (Bool->I2 (LI->Option J))):Option J :=
 kn c d e a b (lk N (decide (b<a))) f g h
def Z14{J:Type}(N:Nat)(b c a:LI)(d e:Int)(f:Bool)(g h:Int)(i:LI)(kn:LI->LI->LI->I4 (LI->Option J))(k0:LI->Option J):Option J :=
 cond (f)
 (
  kn b c a d e g h i)
 (
  k0 a)
def Z18{J:Type}(N:Nat)(b c d:LI)(e a f g:Int)(h:LI)(kn:LI->LI->LI->I5 (LI->Option J)):Option J :=
 kn b c d a e a f g h
def Z20{J:Type}(N:Nat)(a c d:LI)(b e f g h:Int)(i:LI)(kn:LI->LI->LI->I5 (LI->Option J))(k1:LI->LI->LI->I4 (LI->Option J)):Option J :=
 cond (lk N (az b a.length)) (
  cond (lk N (!(decide ((a.getD b.toNat 0)=0))))
  (
   k1 a c d e f g h i)
  (
   kn a c d b e f g h i)) none
def Z22{J:Type}(N:Nat)(b c d:LI)(a e f g h:Int)(i:LI)(kn:LI->LI->LI->I5 (LI->Option J)):Option J :=
 cond (lk N (az a b.length)) (
  cond (lk N (az a c.length)) (
   kn (b.set a.toNat 1) (c.set a.toNat 1) d a e f g h i) none) none
def Z24{J:Type}(N:Nat)(a b c:LI)(d e f g h:Int)(i:LI)(kn:LI->LI->LI->LI->I4 (LI->Option J)):Option J :=
 kn a b c ([d]:List Int) e f g h i
def Z27{J:Type}(N:Nat)(a b c d:LI)(e f g h:Int)(i:LI)(kn:LI->LI->LI->LI->I5 (LI->Option J)):Option J :=
 kn a b c d 0 e f g h i
def Z31{J:Type}(N:Nat)(b c d a:LI)(e f g h i:Int)(j:LI)(kn:LI->LI->LI->LI->I5 (LI->Option J))(k2:LI->LI->LI->LI->I4 (LI->Option J)):Option J :=
 cond (lk N (decide (e<(a.length:Int))))
 (
  kn b c d a e f g h i j)
 (
  k2 b c d a f g h i j)
def Z35{J:Type}(N:Nat)(c d e a:LI)(b f g h i:Int)(j:LI)(kn:LI->LI->LI->LI->I6 (LI->Option J)):Option J :=
 cond (lk N (az b a.length)) (
  kn c d e a b (a.getD b.toNat 0) f g h i j) none
def Z37{J:Type}(N:Nat)(a b c d:LI)(e f g h i j:Int)(l:LI)(kn:LI->LI->LI->LI->I8 (LI->Option J)):Option J :=
 kn a b c d e f g h (a.length:Int) 0 i j l
def Z41{J:Type}(N:Nat)(c d e f:LI)(g h i j a b l m:Int)(o:LI)(kn:LI->LI->LI->LI->I6 (Bool->I2 (LI->Option J))):Option J :=
 kn c d e f g h i j a b (lk N (decide (b<a))) l m o
def Z43{J:Type}(N:Nat)(a b c d:LI)(e l f g m o:Int)(p:Bool)(h i:Int)(j:LI)(kn:LI->LI->LI->LI->I8 (LI->Option J))(k4:LI->LI->LI->LI->I5 (LI->Option J)):Option J :=
 cond (p)
 (
  kn a b c d e l f g m o h i j)
 (
  k4 a b c d e f g h i j)
def Z47{J:Type}(N:Nat)(b c d e:LI)(f g h i j a l m:Int)(o:LI)(kn:LI->LI->LI->LI->Int->I8 (LI->Option J)):Option J :=
 kn b c d e f g a h i j a l m o
def Z49{J:Type}(N:Nat)(f h i j:LI)(l a b m o p q c d:Int)(e:LI)(kn:LI->LI->LI->LI->I3 (I8 (LI->Option J))):Option J :=
 cond (lk N (dY.P (c,(d,e)) a b)) (
  cond (lk N (dY.P (c,(d,e)) b a)) (
   kn f h i j l a b (dY.g (c,(d,e)) a b) (av (0-(dY.g (c,(d,e)) b a))) m o p q c d e) none) none
def Z51{J:Type}(N:Nat)(a b c d:LI)(e f r g h i j l m o p:Int)(q:LI)(kn:LI->LI->LI->LI->I3 (I8 (LI->Option J)))(k5:LI->LI->LI->LI->I8 (LI->Option J)):Option J :=
 cond (lk N (decide (g=0)))
 (
  cond (lk N (decide (h=0)))
  (
   k5 a b c d e f i j l m o p q)
  (
   kn a b c d e f r g h i j l m o p q))
 (
  kn a b c d e f r g h i j l m o p q)
def Z52{J:Type}(N:Nat)(b c i h:LI)(j d a e f l m o p q r:Int)(s:LI)(kn:LI->LI->LI->LI->I8 (LI->Option J))(kr:LI->Option J):Option J :=
 let x1_:=(av ((b.getD d.toNat 0)*(mx e (av (0-e)))));let x2_:=(av ((c.getD d.toNat 0)*(mx f (av (0-f)))));let x0_:=(bL.g x1_ x2_);cond (lk N (decide (e=0)))
 (
 kr ([]:List Int))
 (
 cond (lk N (decide (f=0)))
 (
 kr ([]:List Int))
 (
 cond (lk N (!(((lk N (decide (0<e))) == (lk N (decide (0<f)))))))
 (
 kr ([]:List Int))
 (
 cond (lk N (decide (d=a)))
 (
 kr ([]:List Int))
 (
 cond (lk N (az d b.length)) (
 cond (lk N (az d c.length)) (
 cond (lk N (bL.P x1_ x2_)) (
 cond (lk N (!(decide (x0_=0)))) (
 cond (lk N (!(decide (x0_=0)))) (
 cond (lk N (az a b.length)) (
 cond (lk N (decide ((b.getD a.toNat 0)=0)))
 (
 cond (lk N (az a b.length)) (
 cond (lk N (az a c.length)) (
 cond (lk N (Nat.blt (h.length+([a]:List Int).length) 1099511627776)) (
 kn (b.set a.toNat (av (Int.tdiv x1_ x0_))) (c.set a.toNat (av (Int.tdiv x2_ x0_))) i (h++([a]:List Int)) j d l m o p q r s) none) none) none)
 (
 cond (lk N (az a b.length)) (
 cond (lk N (!(decide ((b.getD a.toNat 0)=(av (Int.tdiv x1_ x0_))))))
 (
 kr ([]:List Int))
 (
 cond (lk N (az a c.length)) (
 cond (lk N (!(decide ((c.getD a.toNat 0)=(av (Int.tdiv x2_ x0_))))))
 (
 kr ([]:List Int))
 (
 kn b c i h j d l m o p q r s)) none)) none)) none) none) none) none) none) none))))
def Z50 N a b c d e f g h i j l m o p q r kn k5 kr:=(Z51 N a b c d e f g h i j l m o p q r (λa b c d e f g h i j l m o p q r=>Z52 N a b c d e f g h i j l m o p q r kn kr) k5:Option J)
def Z48 N a b c d e f g h i j l m o p kn k5 kr:=(Z49 N a b c d e f g h i j l m o p (λa b c d e f g q r h i j l m o p=>Z50 N a b c d e f g q r h i j l m o p kn k5 kr):Option J)
def Z46 N a b c d e f g h i j l m o kn k5 kr:=(Z47 N a b c d e f g h i j l m o (λa b c d e f p g h i j l m o=>Z48 N a b c d e f p g h i j l m o kn k5 kr):Option J)
def Z45 N a b c d e f g h i j l m o kn kr:=(Z46 N a b c d e f g h i j l m o kn kn kr:Option J)
def Z53{J:Type}(N:Nat)(a b c d:LI)(e f g h i j l m:Int)(o:LI)(kn:LI->LI->LI->LI->I8 (LI->Option J)):Option J :=
 kn a b c d e f g h i (av (j+1)) l m o
def Z44 N a b c d e f g h i j l m o kn kr:=(Z45 N a b c d e f g h i j l m o (λa b c d e f g h i j l m o=>Z53 N a b c d e f g h i j l m o kn) kr:Option J)
def Z42 N a b c d e f g h i j p l m o kn k4 kr:=(Z43 N a b c d e f g h i j p l m o (λa b c d e f g h i j l m o=>Z44 N a b c d e f g h i j l m o kn kr) k4:Option J)
def Z40 N a b c d e f g h i j l m o kn k4 kr:=(Z41 N a b c d e f g h i j l m o (λa b c d e f g h i j p l m o=>Z42 N a b c d e f g h i j p l m o kn k4 kr):Option J)
def Z39L{J:Type}(N:Nat)(k4:LI->LI->LI->LI->I5 (LI->Option J))(kr:LI->Option J):Nat->LI->LI->LI->LI->Int->Int->Int->Int->Int->Int->Int->Int->LI->Option J
 |0,_,_,_,_,_,_,_,_,_,_,_,_,_=>none
 |M+1,a,b,c,d,e,f,g,h,i,j,l,m,o=>Z40 N a b c d e f g h i j l m o (λa b c d e f g h i j l m o=>Z39L N k4 kr M a b c d e f g h i j l m o) k4 kr
def Z39 N a b c d e f g h i j l m o k4 kr:=(Z39L N k4 kr N a b c d e f g h i j l m o:Option J)
def Z38 N a b c d e f g h i j l m o kn kr:=(Z39 N a b c d e f g h i j l m o kn kr:Option J)
def Z36 N a b c d e f g h i j l kn kr:=(Z37 N a b c d e f g h i j l (λa b c d e f g h m o i j l=>Z38 N a b c d e f g h m o i j l kn kr):Option J)
def Z34 N a b c d e f g h i j kn kr:=(Z35 N a b c d e f g h i j (λa b c d e l f g h i j=>Z36 N a b c d e l f g h i j kn kr):Option J)
def Z33 N a b c d e f g h i j kn kr:=(Z34 N a b c d e f g h i j kn kr:Option J)
def Z54{J:Type}(N:Nat)(a b c d:LI)(e f g h i:Int)(j:LI)(kn:LI->LI->LI->LI->I5 (LI->Option J)):Option J :=
 kn a b c d (av (e+1)) f g h i j
def Z32 N a b c d e f g h i j kn kr:=(Z33 N a b c d e f g h i j (λa b c d e f g h i j=>Z54 N a b c d e f g h i j kn) kr:Option J)
def Z30 N a b c d e f g h i j kn k2 kr:=(Z31 N a b c d e f g h i j (λa b c d e f g h i j=>Z32 N a b c d e f g h i j kn kr) k2:Option J)
def Z29L{J:Type}(N:Nat)(k2:LI->LI->LI->LI->I4 (LI->Option J))(kr:LI->Option J):Nat->LI->LI->LI->LI->Int->Int->Int->Int->Int->LI->Option J
 |0,_,_,_,_,_,_,_,_,_,_=>none
 |M+1,a,b,c,d,e,f,g,h,i,j=>Z30 N a b c d e f g h i j (λa b c d e f g h i j=>Z29L N k2 kr M a b c d e f g h i j) k2 kr
def Z29 N a b c d e f g h i j k2 kr:=(Z29L N k2 kr N a b c d e f g h i j:Option J)
def Z28 N a b c d e f g h i j kn kr:=(Z29 N a b c d e f g h i j kn kr:Option J)
def Z26 N a b c d e f g h i kn kr:=(Z27 N a b c d e f g h i (λa b c d j e f g h i=>Z28 N a b c d j e f g h i kn kr):Option J)
def Z56{J:Type}(N:Nat)(a b c d:LI)(e f g h:Int)(i:LI)(kn:LI->LI->LI->LI->I5 (LI->Option J)):Option J :=
 kn a b c d 1 e f g h i
def Z59{J:Type}(N:Nat)(b c d a:LI)(e f g h i:Int)(j:LI)(kn:LI->LI->LI->LI->I7 (LI->Option J)):Option J :=
 kn b c d a e f g (a.length:Int) 0 h i j
def Z62{J:Type}(N:Nat)(e c f a:LI)(d h i j b l m:Int)(o:LI)(kn:LI->LI->LI->LI->I7 (LI->Option J))(k6:LI->LI->LI->LI->I5 (LI->Option J)):Option J :=
 cond (lk N (decide (b<j)))
 (
  cond (lk N (az b a.length)) (
   cond (lk N (az (a.getD b.toNat 0) c.length)) (
    cond (lk N (az (a.getD b.toNat 0) c.length)) (
     cond (lk N (bL.P d (c.getD (a.getD b.toNat 0).toNat 0))) (
      cond (lk N (!(decide ((bL.g d (c.getD (a.getD b.toNat 0).toNat 0))=0)))) (
       kn e c f a (av ((av (Int.tdiv d (bL.g d (c.getD (a.getD b.toNat 0).toNat 0))))*(c.getD (a.getD b.toNat 0).toNat 0))) h i j (av (b+1)) l m o) none) none) none) none) none)
 (
  k6 e c f a d h i l m o)
def Z61L{J:Type}(N:Nat)(k6:LI->LI->LI->LI->I5 (LI->Option J)):Nat->LI->LI->LI->LI->Int->Int->Int->Int->Int->Int->Int->LI->Option J
 |0,_,_,_,_,_,_,_,_,_,_,_,_=>none
 |M+1,a,b,c,d,e,f,g,h,i,j,l,m=>Z62 N a b c d e f g h i j l m (λa b c d e f g h i j l m=>Z61L N k6 M a b c d e f g h i j l m) k6
def vE N a b c d e f g h i j l m k6:=(Z61L N k6 N a b c d e f g h i j l m:Option J)
def Z60 N a b c d e f g h i j l m kn:=(vE N a b c d e f g h i j l m kn:Option J)
def Z58 N a b c d e f g h i j kn:=(Z59 N a b c d e f g h i j (λa b c d e f g l m h i j=>Z60 N a b c d e f g l m h i j kn):Option J)
def Z64{J:Type}(N:Nat)(a b c d:LI)(e f g h i:Int)(j:LI)(kn:LI->LI->LI->LI->I6 (LI->Option J)):Option J :=
 kn a b c d e 0 f g h i j
def Z67{J:Type}(N:Nat)(b c d a:LI)(e f g h i j:Int)(l:LI)(kn:LI->LI->LI->LI->I8 (LI->Option J)):Option J :=
 kn b c d a e f g h (a.length:Int) 0 i j l
def Z70{J:Type}(N:Nat)(d c e a:LI)(f h i j l b m o:Int)(p:LI)(kn:LI->LI->LI->LI->I8 (LI->Option J))(k8:LI->LI->LI->LI->I5 (LI->Option J)):Option J :=
 cond (lk N (decide (b<l)))
 (
  cond (lk N (az b a.length)) (
   cond (lk N (az (a.getD b.toNat 0) c.length)) (
    cond (lk N (!(decide ((c.getD (a.getD b.toNat 0).toNat 0)=0)))) (
     cond (lk N (az (a.getD b.toNat 0) d.length)) (
      cond (lk N (az (a.getD b.toNat 0) e.length)) (
       cond (lk N (az (a.getD b.toNat 0) (e.set (a.getD b.toNat 0).toNat (av ((av (Int.tdiv f (c.getD (a.getD b.toNat 0).toNat 0)))*(d.getD (a.getD b.toNat 0).toNat 0)))).length)) (
        cond (lk N (bL.P h ((e.set (a.getD b.toNat 0).toNat (av ((av (Int.tdiv f (c.getD (a.getD b.toNat 0).toNat 0)))*(d.getD (a.getD b.toNat 0).toNat 0)))).getD (a.getD b.toNat 0).toNat 0))) (
         kn d c (e.set (a.getD b.toNat 0).toNat (av ((av (Int.tdiv f (c.getD (a.getD b.toNat 0).toNat 0)))*(d.getD (a.getD b.toNat 0).toNat 0)))) a f (bL.g h ((e.set (a.getD b.toNat 0).toNat (av ((av (Int.tdiv f (c.getD (a.getD b.toNat 0).toNat 0)))*(d.getD (a.getD b.toNat 0).toNat 0)))).getD (a.getD b.toNat 0).toNat 0)) i j l (av (b+1)) m o p) none) none) none) none) none) none) none)
 (
  k8 d c e a h i j m o p)
def Z69L{J:Type}(N:Nat)(k8:LI->LI->LI->LI->I5 (LI->Option J)):Nat->LI->LI->LI->LI->Int->Int->Int->Int->Int->Int->Int->Int->LI->Option J
 |0,_,_,_,_,_,_,_,_,_,_,_,_,_=>none
 |M+1,a,b,c,d,e,f,g,h,i,j,l,m,o=>Z70 N a b c d e f g h i j l m o (λa b c d e f g h i j l m o=>Z69L N k8 M a b c d e f g h i j l m o) k8
def vF N a b c d e f g h i j l m o k8:=(Z69L N k8 N a b c d e f g h i j l m o:Option J)
def Z68 N a b c d e f g h i j l m o kn:=(vF N a b c d e f g h i j l m o kn:Option J)
def Z66 N a b c d e f g h i j l kn:=(Z67 N a b c d e f g h i j l (λa b c d e f g h m o i j l=>Z68 N a b c d e f g h m o i j l kn):Option J)
def Z72{J:Type}(N:Nat)(b c d a:LI)(e f g h i:Int)(j:LI)(kn:LI->LI->LI->LI->I7 (LI->Option J)):Option J :=
 kn b c d a e f g (a.length:Int) 0 h i j
def Z75{J:Type}(N:Nat)(e f c b:LI)(d g h i a j l:Int)(m:LI)(kn:LI->LI->LI->LI->I7 (LI->Option J))(k10:LI->LI->LI->I4 (LI->Option J)):Option J :=
 cond (lk N (decide (a<i)))
 (
  cond (lk N (az a b.length)) (
   cond (lk N (az (b.getD a.toNat 0) c.length)) (
    cond (lk N (!(decide (d=0)))) (
     cond (lk N (az (b.getD a.toNat 0) c.length)) (
      kn e f (c.set (b.getD a.toNat 0).toNat (av (Int.tdiv (c.getD (b.getD a.toNat 0).toNat 0) d))) b d g h i (av (a+1)) j l m) none) none) none) none)
 (
  k10 e f c g h j l m)
def Z74L{J:Type}(N:Nat)(k10:LI->LI->LI->I4 (LI->Option J)):Nat->LI->LI->LI->LI->Int->Int->Int->Int->Int->Int->Int->LI->Option J
 |0,_,_,_,_,_,_,_,_,_,_,_,_=>none
 |M+1,a,b,c,d,e,f,g,h,i,j,l,m=>Z75 N a b c d e f g h i j l m (λa b c d e f g h i j l m=>Z74L N k10 M a b c d e f g h i j l m) k10
def vG N a b c d e f g h i j l m k10:=(Z74L N k10 N a b c d e f g h i j l m:Option J)
def Z73 N a b c d e f g h i j l m kn:=(vG N a b c d e f g h i j l m kn:Option J)
def rG N a b c j d e f g h i kn:=(Z72 N a b c j d e f g h i (λa b c l d e f m o g h i=>Z73 N a b c l d e f m o g h i kn):Option J)
def vH N a b c d l e f g h i j kn:=(Z66 N a b c d l e f g h i j (λa b c d e f g h i j=>rG N a b c d e f g h i j kn):Option J)
def rH N a b c d e f g h i j kn:=(Z64 N a b c d e f g h i j (λa b c d e l f g h i j=>vH N a b c d e l f g h i j kn):Option J)
def vJ N a b c d e f g h i j kn:=(Z58 N a b c d e f g h i j (λa b c d e f g h i j=>rH N a b c d e f g h i j kn):Option J)
def rI N a b c d e f g h i kn:=(Z56 N a b c d e f g h i (λa b c d j e f g h i=>vJ N a b c d j e f g h i kn):Option J)
def Z25 N a b c d e f g h i kn kr:=(Z26 N a b c d e f g h i (λa b c d e f g h i=>rI N a b c d e f g h i kn) kr:Option J)
def Z23 N a b c i d e f g h kn kr:=(Z24 N a b c i d e f g h (λa b c j d e f g h=>Z25 N a b c j d e f g h kn kr):Option J)
def Z21 N a b c d e f g h i kn kr:=(Z22 N a b c d e f g h i (λa b c d e f g h i=>Z23 N a b c d e f g h i kn kr):Option J)
def Z19 N a b c d e f g h i kn k1 kr:=(Z20 N a b c d e f g h i (λa b c d e f g h i=>Z21 N a b c d e f g h i kn kr) k1:Option J)
def Z17 N a b c d e f g h kn k1 kr:=(Z18 N a b c d e f g h (λa b c i d e f g h=>Z19 N a b c i d e f g h kn k1 kr):Option J)
def Z16 N a b c d e f g h kn kr:=(Z17 N a b c d e f g h kn kn kr:Option J)
def Z76{J:Type}(N:Nat)(a b c:LI)(d e f g:Int)(h:LI)(kn:LI->LI->LI->I4 (LI->Option J)):Option J :=
 kn a b c d (av (e+1)) f g h
def Z15 N a b c d e f g h kn kr:=(Z16 N a b c d e f g h (λa b c d e f g h=>Z76 N a b c d e f g h kn) kr:Option J)
def Z13 N a b c d e i f g h kn k0 kr:=(Z14 N a b c d e i f g h (λa b c d e f g h=>Z15 N a b c d e f g h kn kr) k0:Option J)
def Z11 N a b c d e f g h kn k0 kr:=(Z12 N a b c d e f g h (λa b c d e i f g h=>Z13 N a b c d e i f g h kn k0 kr):Option J)
def Z10L{J:Type}(N:Nat)(k0 kr:LI->Option J):Nat->LI->LI->LI->Int->Int->Int->Int->LI->Option J
 |0,_,_,_,_,_,_,_,_=>none
 |M+1,a,b,c,d,e,f,g,h=>Z11 N a b c d e f g h (λa b c d e f g h=>Z10L N k0 kr M a b c d e f g h) k0 kr
def Z10 N a b c d e f g h k0 kr:=(Z10L N k0 kr N a b c d e f g h:Option J)
def Z9 N a b c d e f g h kn kr:=(Z10 N a b c d e f g h kn kr:Option J)
def Z7 N a b c d e f kn kr:=(Z8 N a b c d e f (λa b c g h d e f=>Z9 N a b c g h d e f kn kr):Option J)
def Z77{J:Type}(N:Nat)(a:LI)(kr:LI->Option J):Option J :=
 cond (Nat.blt 0 a.length) (
  kr a) none
def Z6 N b c a d e f kr:=(Z7 N b c a d e f (λa=>Z77 N a kr) kr:Option J)
def Z4 N a b c d e kr:=(Z5 N a b c d e (λa b f c d e=>Z6 N a b f c d e kr):Option J)
def Z2 N a b c kr:=(Z3 N a b c (λd e a b c=>Z4 N d e a b c kr):Option J)
def Z0 N a kr:=(Z1 N a (λb c d=>Z2 N b c d kr):Option J)
def Spec:Prop:=∀ (v0:MT),Ty.bd (.pair (.int .i64) (.pair (.int .i64) (.sl 0 (.int .i64)))) v0->P v0=true->∃N0,∀N,N0<=N->Z0 N v0 (λv2=>some ((),(v2,())))=some ((),((g v0),()))
def vK{a:Int}(h:-99<=a/\a<=99):mx a (av (0-a))=a9 a:=by rw[bJ (by omega) (by omega),rb];unfold a9;omega
def BZ(a:Int):a9 (-a)=a9 a:=by unfold a9;omega
def vM{k:Nat}(h:k<=4):(99:Int) ^ k<=96059601:=by
 have h1:99 ^ k<=99 ^ 4:=Nat.pow_le_pow_right (by omega) h;have h2:(99:Int) ^ k=((99 ^ k:Nat):Int):=by rw[Int.natCast_pow];rfl
 rw[h2];omega
def vN{n:Nat}{A:Nat->Nat->Int}{x j:Nat}(hx:x<n)(hj:j<n)(h:¬ (A x j=0/\A j x=0))(h':A x j=0\/A j x=0):¬ ∃e,b8 n A e:=by
 rintro ⟨e,he⟩
 rcases h' with z|z;·exact h ⟨z,nA he hx hj z⟩
 ·exact h ⟨nA he hj hx z,z⟩
section
variable {J : Type} {N : Nat} {m : Int × Int × List Int} {s p x j : Nat} {num0 num den out : List Int} {L : List Nat}
def B1(hm:cI m=true)(hn:m.1.toNat<=5)(hcl:nF m.1.toNat (ai m) num0)(hf:c9 m.1.toNat (ai m) s num0 L num den)(hp:p<L.length)(hx:L.getD p 0=x)(hj:j<m.1.toNat)(h0:¬ (ai m x j=0/\ai m j x=0))
  (kn:List Int->List Int->List Int->List Int->Int->Int->Int->Int->Int->Int->Int->Int->List Int->Option J) (kr:List Int->Option J) (t34 t35 t62 t63:Int) :
  (Z52 N num den out (aS L) (p:Int) (x:Int) (j:Int) (ai m x j) (-(ai m j x)) t34 t35 t62 t63 m.1 m.2.1 m.2.2 kn kr=kr []/\¬ ∃e,b8 m.1.toNat (ai m) e) \/
  (∃L' num' den',c9 m.1.toNat (ai m) s num0 L' num' den'/\(∃u,L'=L++u)/\(∀y∈L,∀k,dC (ai m) L num den y k->dC (ai m) L' num' den' y k)/\dC (ai m) L' num' den' x j /\
   Z52 N num den out (aS L) (p:Int) (x:Int) (j:Int) (ai m x j) (-(ai m j x)) t34 t35 t62 t63 m.1 m.2.1 m.2.2 kn kr=kn num' den' out (aS L') (p:Int) (x:Int) t34 t35 t62 t63 m.1 m.2.1 m.2.2):=by
 have hxm:x∈L:=by rw[<-hx];exact bS 0 hp
 have hxn:=hf.lt x hxm;have hle:=hf.le;simp only[Z52];by_cases z1:ai m x j=0;·rw[ct (dt z1)];exact Or.inl ⟨rfl,vN hxn hj h0 (Or.inl z1)⟩
 rw[cf (df z1)];by_cases z2:ai m j x=0;·rw[ct (dt (by omega))];exact Or.inl ⟨rfl,vN hxn hj h0 (Or.inr z2)⟩
 rw[cf (df (by omega))];by_cases sg:(0<ai m x j↔0 < -(ai m j x))
 ·have sgb:(!(((lk N (decide (0<ai m x j))) == (lk N (decide (0 < -(ai m j x)))))))=false:=by
   rw[aP,aP];by_cases h1:0<ai m x j;·rw[dt h1,dt (sg.1 h1)];rfl
   ·rw[df h1,df (λh=>h1 (sg.2 h))];rfl
  rw[cf sgb];have hne:¬ ((x:Int)=(j:Int)):=λe=>by
   have e':x=j:=by omega
   subst e';omega
  rw[cf (df hne)];obtain⟨Q,q1,q2,q3⟩:=hf.frac;obtain⟨c1,c2,c3,c4,c5⟩:=q3 x hxm;have st:=BR (A:=ai m) (num:=num) (den:=den) x j c1 c3 z1 z2;have sk:=BS z1 z2 sg;have hb:=gH hm;have e1:=vK (hb x j);have e2:mx (-(ai m j x)) (av (0 - -(ai m j x)))=a9 (ai m j x):=by rw[vK (by have:=hb j x;omega),BZ]
  have pw:=vM (k:=L.length-1) (by omega);have hdQ:=Int.le_of_dvd q1 c4;have a1:=li (hb x j);have a2:=li (hb j x);have a1':=jH z1;have a2':=jH z2;have b1:num.getD x 0*a9 (ai m x j)<=96059601*99:=Int.mul_le_mul (by omega) a1 (by omega) (by omega);have b2:den.getD x 0*a9 (ai m j x)<=96059601*99:=Int.mul_le_mul (by omega) a2 (by omega) (by omega);have hA:=st.a0p;have hB:=st.b0p;simp only[e1,e2,Int.toNat_natCast,bJ (show -9223372036854775808<=num.getD x 0*a9 (ai m x j) by omega) (by omega),bJ (show -9223372036854775808<=den.getD x 0*a9 (ai m j x) by omega) (by omega),bL.g];generalize hA0:num.getD x 0*a9 (ai m x j)=A0 at *
  generalize hB0:den.getD x 0*a9 (ai m j x)=B0 at *
  generalize hG:(Int.gcd A0 B0:Int)=G at *
  generalize ha:Int.tdiv A0 G=a at *
  generalize hb':Int.tdiv B0 G=b at *
  have gp:=st.gp;have ap:=st.ap;have bp:=st.bp;have al:a<=A0:=by have h1:=Int.mul_le_mul_of_nonneg_left (show(1:Int)<=G by omega) (Int.le_of_lt ap);have h2:=st.ea;omega
  have bl:b<=B0:=by have h1:=Int.mul_le_mul_of_nonneg_left (show(1:Int)<=G by omega) (Int.le_of_lt bp);have h2:=st.eb;omega
  have i1:az (x:Int) num.length=true:=aL (by rw[hf.nl];exact hxn);have i2:az (x:Int) den.length=true:=aL (by rw[hf.dl];exact hxn);have i3:az (j:Int) num.length=true:=aL (by rw[hf.nl];exact hj);have i4:az (j:Int) den.length=true:=aL (by rw[hf.dl];exact hj);have hP:bL.P A0 B0=true:=by simp only[bL.P,Bool.and_eq_true,decide_eq_true_eq];omega
  rw[ct i1,ct i2,ct hP,ct (nt (by omega)),ct (nt (by omega)),ct i3];simp only[bJ (show -9223372036854775808<=a by omega) (by omega),bJ (show -9223372036854775808<=b by omega) (by omega)];by_cases hz:num.getD j 0=0
  ·obtain⟨hg,hnj⟩:=hf.grow hp hj hz (by rw[hx];exact st) (λy k=>li (hb y k));have hxj:∀y∈L,j≠y:=λy hy e=>hnj (e▸hy);have hnl:j<num.length:=by rw[hf.nl];exact hj
   have hdl:j<den.length:=by rw[hf.dl];exact hj
   rw[ct (dt hz),ct i3,ct i4,ct (show Nat.blt ((aS L).length+([(j:Int)]).length) 1099511627776=true by simp[bK,Nat.blt_eq];omega),rA];refine Or.inr ⟨L++[j],num.set j a,den.set j b,hg,⟨_,rfl⟩,λy hy k he=>he.grow hxj hnl hdl hy,Or.inr ⟨by simp, ?_⟩,rfl⟩;have:=vw st sk;rw[bG hnl,if_neg (hxj x hxm),bG hdl,if_pos rfl,bG hnl,if_pos rfl,bG hdl,if_neg (hxj x hxm)];exact this
  ·have hjm:j∈L:=Classical.byContradiction λhc=>by
    have h1:num0.getD j 0≠0:=by rw[<-hf.out j hj hc];exact hz
    exact hcl j hj h1 x hxn (Or.inr z1) (hf.new x hxm)
   obtain⟨d1,d2,d3,d4,d5⟩:=q3 j hjm;have hgood:(∃e,b8 m.1.toNat (ai m) e)->num.getD j 0=a/\den.getD j 0=b:=by
    rintro ⟨e,he⟩
    have g1:=vv st hxn hj he (hf.good e he x hxm);have g2:=hf.good e he j hjm;have p1:=(he j hj).1;have p2:0<e s:=(he s (by rw[<-hf.hd];exact hf.lt _ (bS 0 hf.pos))).1;have g3:(e s*e j)*(num.getD j 0*b)=(e s*e j)*(a*den.getD j 0):=by grind
    have p3:=Int.mul_pos p2 p1;exact BQ d1 d3 ap bp d5 st.co (Int.eq_of_mul_eq_mul_left (by omega) g3)
   rw[cf (df hz),ct i3];by_cases ea:num.getD j 0=a
   ·rw[cf (nf ea),ct i4];by_cases eb:den.getD j 0=b;·rw[cf (nf eb)];refine Or.inr ⟨L,num,den,hf,⟨[],by simp⟩,λ_ _ _ h=>h,Or.inr ⟨hjm, ?_⟩,rfl⟩;rw[ea,eb];exact vw st sk
    ·rw[ct (nt eb)];exact Or.inl ⟨rfl,λh=>eb (hgood h).2⟩
   ·rw[ct (nt ea)];exact Or.inl ⟨rfl,λh=>ea (hgood h).1⟩
 ·have sgb:(!(((lk N (decide (0<ai m x j))) == (lk N (decide (0 < -(ai m j x)))))))=true:=by
   rw[aP,aP];by_cases h1:0<ai m x j;·rw[dt h1,df (λh2=>sg ⟨λ_=>h2,λ_=>h1⟩)];rfl
   ·rw[df h1,dt (Classical.byContradiction λh2=>sg ⟨λh=>absurd h h1,λh=>absurd h h2⟩)];rfl
  rw[ct sgb];refine Or.inl ⟨rfl, ?_⟩;rintro ⟨e,he⟩
  have h1:=vm he hxn hj;rw[fl,Bool.and_eq_true,beq_iff_eq,decide_eq_decide]at h1;have:=h1.1;omega
def at_g(hd:0<=m.1)(a b:Nat):dY.g (m.1,(m.2.1,m.2.2)) (a:Int) (b:Int)=ai m a b:=nu hd a b
def at_p(hd:cH m=true){a b:Nat}(ha:a<m.1.toNat)(hb:b<m.1.toNat):dY.P (m.1,(m.2.1,m.2.2)) (a:Int) (b:Int)=true:=by obtain⟨n,r,hn,hr,hn1,hn5,hnr,hr8,hl⟩:=cx hd;exact nw hd (by omega) hb
def inner(hm:cI m=true)(hcl:nF m.1.toNat (ai m) num0)(k4:List Int->List Int->List Int->List Int->Int->Int->Int->Int->Int->List Int->Option J)(kr:List Int->Option J)(t34 t35:Int):∀(M j:Nat) (L:List Nat) (num den:List Int),c9 m.1.toNat (ai m) s num0 L num den->p<L.length->L.getD p 0=x->j<=m.1.toNat->m.1.toNat-j<M ->
  (∀k',k'<p->∀k,k<m.1.toNat->dC (ai m) L num den (L.getD k' 0) k)->(∀k,k<j->dC (ai m) L num den x k) ->
  (Z39L N k4 kr M num den out (aS L) (p:Int) (x:Int) t34 t35 (m.1.toNat:Int) (j:Int) m.1 m.2.1 m.2.2=kr []/\¬ ∃e,b8 m.1.toNat (ai m) e) \/
  (∃L' num' den',c9 m.1.toNat (ai m) s num0 L' num' den'/\p<L'.length/\(∀k',k'<p+1->∀k,k<m.1.toNat->dC (ai m) L' num' den' (L'.getD k' 0) k) /\
   Z39L N k4 kr M num den out (aS L) (p:Int) (x:Int) t34 t35 (m.1.toNat:Int) (j:Int) m.1 m.2.1 m.2.2=k4 num' den' out (aS L') (p:Int) t34 t35 m.1 m.2.1 m.2.2):=by
 have hdim:=eE hm;obtain⟨n,r,hn,hr,hn1,hn5,hnr,hr8,hl⟩:=cx hdim;intro M;induction M with
 |zero=>intro j _ _ _ _ _ _ _ h;omega
 |succ M ih =>
  intro j L num den hf hp hx hj hM hE1 hE2;have hxm:x∈L:=by rw[<-hx];exact bS 0 hp
  have hxn:=hf.lt x hxm;simp only[Z39L,Z40,Z41,Z42,Z43];by_cases hlt:j<m.1.toNat
  ·rw[jC (by rw[aP];exact dt (by omega))];simp only[Z44,Z45,Z46,Z47,Z48,Z49];rw[ct (at_p hdim hxn hlt),ct (at_p hdim hlt hxn),at_g (by omega),at_g (by omega)];have hb:=gH hm j x;rw[show av (0-ai m j x)=-(ai m j x) by rw[bJ (by omega) (by omega)];omega];simp only[Z50,Z51];have next:∀(L':List Nat) (num' den':List Int),c9 m.1.toNat (ai m) s num0 L' num' den'->(∃u,L'=L++u)->(∀y∈L,∀k,dC (ai m) L num den y k->dC (ai m) L' num' den' y k)->dC (ai m) L' num' den' x j ->
     (Z39L N k4 kr M num' den' out (aS L') (p:Int) (x:Int) t34 t35 (m.1.toNat:Int) ((j+1:Nat):Int) m.1 m.2.1 m.2.2=kr []/\¬ ∃e,b8 m.1.toNat (ai m) e) \/
     (∃L'' num'' den'',c9 m.1.toNat (ai m) s num0 L'' num'' den''/\p<L''.length/\(∀k',k'<p+1->∀k,k<m.1.toNat->dC (ai m) L'' num'' den'' (L''.getD k' 0) k) /\
      Z39L N k4 kr M num' den' out (aS L') (p:Int) (x:Int) t34 t35 (m.1.toNat:Int) ((j+1:Nat):Int) m.1 m.2.1 m.2.2=k4 num'' den'' out (aS L'') (p:Int) t34 t35 m.1 m.2.1 m.2.2):=by
    intro L' num' den' hf' hu hk he;obtain⟨u,hu⟩:=hu;have hget:∀k',k'<L.length->L'.getD k' 0=L.getD k' 0:=λk' hk'=>by rw[hu,fm hk']
    refine ih (j+1) L' num' den' hf' (by rw[hu];simp;omega) (by rw[hget p hp];exact hx) hlt (by omega) (λk' hk' k hkn=>?_) (λk hk'=>?_);·rw[hget k' (by omega)];exact hk _ (bS 0 (by omega)) k (hE1 k' hk' k hkn)
    ·by_cases e:k=j;·subst e;exact he
     ·exact hk x hxm k (hE2 k (by omega))
   by_cases h0:ai m x j=0/\ai m j x=0;·rw[ct (dt h0.1),ct (dt (by omega))];simp only[Z53];rw[bz (by rw[bR];omega)];exact next L num den hf ⟨[],by simp⟩ (λ_ _ _ h=>h) (Or.inl h0)
   ·have hz:∀(X Y:Option J),(cond (lk N (decide (ai m x j=0))) (cond (lk N (decide (-(ai m j x)=0))) X Y) Y)=Y:=by
     intro X Y;by_cases z1:ai m x j=0;·rw[ct (dt z1),cf (df (λz2=>h0 ⟨z1,by omega⟩))]
     ·rw[cf (df z1)]
    rw[hz];rcases B1 (N:=N) (out:=out) hm (by omega) hcl hf hp hx hlt h0 (λnum3 den4 out5 piece7 at8 i9 t34 t35 t62 t63 m1_0 m1_1 m1_2=>Z53 N num3 den4 out5 piece7 at8 i9 t34 t35 t62 t63 m1_0 m1_1 m1_2 (λnum3 den4 out5 piece7 at8 i9 t34 t35 t62 t63 m1_0 m1_1 m1_2=>Z39L N k4 kr M num3 den4 out5 piece7 at8 i9 t34 t35 t62 t63 m1_0 m1_1 m1_2)) kr t34 t35 (m.1.toNat:Int) (j:Int)with hc|⟨L',num',den',h1,h2,h3,h4,h5⟩;·exact Or.inl hc
    ·rw[h5];simp only[Z53];rw[bz (by rw[bR];omega)];exact next L' num' den' h1 h2 h3 h4
  ·rw[eD (by rw[aP];exact df (by omega))];refine Or.inr ⟨L,num,den,hf,hp,λk' hk' k hk=>?_,rfl⟩;by_cases e:k'=p;·subst e;rw[hx];exact hE2 k (by omega)
   ·exact hE1 k' (by omega) k hk
def B2(hN:10<=N)(hm:cI m=true)(hcl:nF m.1.toNat (ai m) num0)(k2:List Int->List Int->List Int->List Int->Int->Int->Int->Int->List Int->Option J)(kr:List Int->Option J)(t34 t35:Int):∀(M p:Nat) (L:List Nat) (num den:List Int),c9 m.1.toNat (ai m) s num0 L num den->p<=L.length->m.1.toNat-p<M ->
  (∀k',k'<p->∀k,k<m.1.toNat->dC (ai m) L num den (L.getD k' 0) k) ->
  (Z29L N k2 kr M num den out (aS L) (p:Int) t34 t35 m.1 m.2.1 m.2.2=kr []/\¬ ∃e,b8 m.1.toNat (ai m) e) \/
  (∃L' num' den',c9 m.1.toNat (ai m) s num0 L' num' den'/\(∀x∈L',∀k,k<m.1.toNat->dC (ai m) L' num' den' x k) /\
   Z29L N k2 kr M num den out (aS L) (p:Int) t34 t35 m.1 m.2.1 m.2.2=k2 num' den' out (aS L') t34 t35 m.1 m.2.1 m.2.2):=by
 have hdim:=eE hm;obtain⟨n,r,hn,hr,hn1,hn5,hnr,hr8,hl⟩:=cx hdim;intro M;induction M with
 |zero=>intro p _ _ _ _ _ h;omega
 |succ M ih =>
  intro p L num den hf hp hM hE;have hle:=hf.le;simp only[Z29L,Z30,Z31];by_cases hlt:p<L.length
  ·rw[ct (dt (by rw[bK];omega))];simp only[Z32,Z33,Z34,Z35];rw[ct (aL (by rw[bK];exact hlt))];simp only[Z36,Z37,Z38,Z39,Int.toNat_natCast,fA,hf.nl];have hin:=inner (J:=J) (N:=N) (out:=out) hm hcl (λnum3 den4 out5 piece7 at8 t34 t35 m1_0 m1_1 m1_2=>Z54 N num3 den4 out5 piece7 at8 t34 t35 m1_0 m1_1 m1_2 (λnum3 den4 out5 piece7 at8 t34 t35 m1_0 m1_1 m1_2=>Z29L N k2 kr M num3 den4 out5 piece7 at8 t34 t35 m1_0 m1_1 m1_2)) kr t34 t35 N 0 L num den hf hlt rfl (by omega) (by omega) hE (λk hk=>by omega);rw[show((0:Nat):Int)=0 from rfl]at hin;rcases hin with hc|⟨L',num',den',h1,h2,h3,h4⟩;·exact Or.inl hc
   ·rw[h4];simp only[Z54];rw[bz (by rw[bR];omega)];exact ih (p+1) L' num' den' h1 h2 (by omega) h3
  ·rw[cf (df (by rw[bK];omega))];refine Or.inr ⟨L,num,den,hf,λx hx k hk=>?_,rfl⟩;obtain⟨k',hk',e⟩:=iJ hx;rw[<-e];exact hE k' (by omega) k hk
def B3(hf:c9 m.1.toNat (ai m) s num0 L num den)(h5:m.1.toNat<=5){Q:Int}(q1:0<Q)(q2:Q<=96059601)(q3:∀x∈L,0<den.getD x 0/\den.getD x 0∣Q)(k6:List Int->List Int->List Int->List Int->Int->Int->Int->Int->Int->List Int->Option J)(t34 t35:Int):∀(M k:Nat) (c:Int),k<=L.length->L.length-k<M->0<c->c∣Q->(∀k',k'<k->den.getD (L.getD k' 0) 0∣c) ->
  ∃c',0<c'/\c'∣Q/\(∀x∈L,den.getD x 0∣c') /\
   Z61L N k6 M num den out (aS L) c t34 t35 ((aS L).length:Int) (k:Int) m.1 m.2.1 m.2.2=k6 num den out (aS L) c' t34 t35 m.1 m.2.1 m.2.2:=by
 have hle:=hf.le;intro M;induction M with
 |zero=>intro k _ _ h;omega
 |succ M ih =>
  intro k c hk hM hc hcQ hd;simp only[Z61L,Z62];by_cases hlt:k<L.length
  ·have hxm:L.getD k 0∈L:=bS 0 hlt;obtain⟨d1,d2⟩:=q3 _ hxm;have i1:az (k:Int) (aS L).length=true:=aL (by rw[bK];exact hlt);have i2:az ((L.getD k 0:Nat):Int) den.length=true:=aL (by rw[hf.dl];exact hf.lt _ hxm);obtain⟨g1,g2,g3,g4,g5,g6,g7⟩:=BT hc d1 hcQ d2 q1;have b1:=Int.le_of_dvd q1 hcQ;have b2:=Int.le_of_dvd q1 d2;have b3:=Int.le_of_dvd q1 g5;rw[ct (dt (by rw[bK];omega)),ct i1];simp only[Int.toNat_natCast,fA];rw[ct i2,ct i2,ct (show bL.P c (den.getD (L.getD k 0) 0)=true by simp only[bL.P,Bool.and_eq_true,decide_eq_true_eq];omega)];have eg:bL.g c (den.getD (L.getD k 0) 0)=(Int.gcd c (den.getD (L.getD k 0) 0):Int):=rfl;rw[ct (nt (by rw[eg];omega)),eg,bJ (n:=Int.tdiv c _) (by omega) (by omega),bJ (by omega) (by omega),bz (by rw[bR];omega)];refine ih (k+1) _ hlt (by omega) g4 g5 (λk' hk'=>?_);by_cases e:k'=k;·subst e;exact g7
   ·exact Int.dvd_trans (hd k' (by omega)) g6
  ·rw[cf (df (by rw[bK];omega))];refine⟨c,hc,hcQ,λx hx=>?_,rfl⟩;obtain⟨k',hk',e⟩:=iJ hx;rw[<-e];exact hd k' (by omega)
structure O2(n:Nat)(L:List Nat)(num den out0:List Int)(c:Int)(k:Nat)(out:List Int)(g:Int):Prop where
 len:out.length=n
 old:∀x,x<n->(∀k',k'<k->x≠L.getD k' 0)->out.getD x 0=out0.getD x 0
 val:∀k',k'<k->out.getD (L.getD k' 0) 0*den.getD (L.getD k' 0) 0=c*num.getD (L.getD k' 0) 0/\0<out.getD (L.getD k' 0) 0/\out.getD (L.getD k' 0) 0<=9227446944279201
 gcd:g=((bn ((List.range k).map λt=>out.getD (L.getD t 0) 0):Nat):Int)
def O2.g_range{n:Nat}{out0:List Int}{c g:Int}{k:Nat}(h:O2 n L num den out0 c k out g):0<=g/\g<=9227446944279201/\(0<k->0<g):=by
 have h0:0<=g:=by rw[h.gcd];omega
 by_cases e:k=0;·subst e;have:=h.gcd;simp[bn]at this;omega
 ·obtain⟨_,a1,a2⟩:=h.val 0 (by omega);have hd:g∣out.getD (L.getD 0 0) 0:=by rw[h.gcd];exact nz (List.mem_map.2 ⟨0,List.mem_range.2 (by omega),rfl⟩)
  have:=Int.le_of_dvd a1 hd;refine⟨h0,by omega,λ_=>?_⟩;rcases Int.lt_or_le 0 g with h'|h';·exact h'
  ·have e:g=0:=by omega
   rw[e]at hd;have:=Int.zero_dvd.1 hd;omega
def B4(hf:c9 m.1.toNat (ai m) s num0 L num den)(h5:m.1.toNat<=5){c:Int}(c1:0<c)(c2:c<=96059601)(q3:∀x∈L,0<num.getD x 0/\num.getD x 0<=96059601/\0<den.getD x 0/\den.getD x 0∣c)(out0:List Int)(k8:List Int->List Int->List Int->List Int->Int->Int->Int->Int->Int->List Int->Option J)(t34 t35:Int):∀(M k:Nat) (out:List Int) (g:Int),k<=L.length->L.length-k<M->O2 m.1.toNat L num den out0 c k out g ->
  ∃out' g',O2 m.1.toNat L num den out0 c L.length out' g' /\
   Z69L N k8 M num den out (aS L) c g t34 t35 ((aS L).length:Int) (k:Int) m.1 m.2.1 m.2.2=k8 num den out' (aS L) g' t34 t35 m.1 m.2.1 m.2.2:=by
 have hle:=hf.le;intro M;induction M with
 |zero=>intro k _ _ _ h;omega
 |succ M ih =>
  intro k out g hk hM ho;simp only[Z69L,Z70];by_cases hlt:k<L.length
  ·have hxm:L.getD k 0∈L:=bS 0 hlt;have hxn:=hf.lt _ hxm;obtain⟨d1,d2,d3,d4⟩:=q3 _ hxm;have i1:az (k:Int) (aS L).length=true:=aL (by rw[bK];exact hlt);have i2:az ((L.getD k 0:Nat):Int) den.length=true:=aL (by rw[hf.dl];exact hxn);have i3:az ((L.getD k 0:Nat):Int) num.length=true:=aL (by rw[hf.nl];exact hxn);have i4:az ((L.getD k 0:Nat):Int) out.length=true:=aL (by rw[ho.len];exact hxn);have hxo:L.getD k 0<out.length:=by rw[ho.len];exact hxn
   have hg:=ho.g_range;have t1:Int.tdiv c (den.getD (L.getD k 0) 0)*den.getD (L.getD k 0) 0=c:=Int.tdiv_mul_cancel d4;have t2:0<Int.tdiv c (den.getD (L.getD k 0) 0)/\Int.tdiv c (den.getD (L.getD k 0) 0)<=c:=by
    generalize Int.tdiv c (den.getD (L.getD k 0) 0)=t at t1 ⊢;have:0<t:=by
     rcases Int.lt_or_le 0 t with h'|h';·exact h'
     ·have:=Int.mul_nonpos_of_nonpos_of_nonneg h' (Int.le_of_lt d3);omega
    have:=Int.mul_le_mul_of_nonneg_left (show(1:Int)<=den.getD (L.getD k 0) 0 by omega) (Int.le_of_lt this);exact⟨by omega,by omega⟩
   have t3:0<Int.tdiv c (den.getD (L.getD k 0) 0)*num.getD (L.getD k 0) 0:=Int.mul_pos t2.1 d1;have t4:Int.tdiv c (den.getD (L.getD k 0) 0)*num.getD (L.getD k 0) 0<=96059601*96059601:=Int.mul_le_mul (by omega) d2 (by omega) (by omega);rw[ct (dt (by rw[bK];omega)),ct i1];simp only[Int.toNat_natCast,fA];rw[ct i2,ct (nt (by omega)),ct i3,ct i4];simp only[bJ (show -9223372036854775808<=Int.tdiv c (den.getD (L.getD k 0) 0) by omega) (by omega)];simp only[bJ (show -9223372036854775808<=Int.tdiv c (den.getD (L.getD k 0) 0)*num.getD (L.getD k 0) 0 by omega) (by omega)];generalize hv:Int.tdiv c (den.getD (L.getD k 0) 0)*num.getD (L.getD k 0) 0=v at t3 t4 ⊢;have hself:(out.set (L.getD k 0) v).getD (L.getD k 0) 0=v:=by rw[bG hxo,if_pos rfl]
   have hget:∀t,t<k->(out.set (L.getD k 0) v).getD (L.getD t 0) 0=out.getD (L.getD t 0) 0:=λt ht'=>by rw[bG hxo,if_neg (λe=>by have:=nC hf.nd hlt (by omega) e;omega)]
   rw[ct (aL (by rw[List.length_set];exact hxo)),hself,ct (show bL.P g v=true by simp only[bL.P,Bool.and_eq_true,decide_eq_true_eq];omega),bz (by rw[bR];omega)];refine ih (k+1) _ _ hlt (by omega) ⟨by rw[List.length_set];exact ho.len, ?_, ?_, ?_⟩;·intro x hx hall;rw[bG hxo,if_neg (λe=>hall k (by omega) e.symm)];exact ho.old x hx (λt ht'=>hall t (by omega))
   ·intro t ht';by_cases e:t=k;·subst e;rw[hself];refine⟨?_,t3,by omega⟩;rw[<-hv];have e1:=t1;grind
    ·rw[hget t (by omega)];exact ho.val t (by omega)
   ·rw[List.range_succ,List.map_append,List.map_cons,List.map_nil,hself];rw[show(List.range k).map (λt=>(out.set (L.getD k 0) v).getD (L.getD t 0) 0)=(List.range k).map (λt=>out.getD (L.getD t 0) 0)from List.map_congr_left (λt ht'=>hget t (List.mem_range.1 ht'))];rw[ho.gcd];exact vt _ _ v (by omega) rfl
  ·have e:k=L.length:=by omega
   subst e;exact⟨out,g,ho,by rw[cf (df (by rw[bK];omega))]⟩
def B5(hf:c9 m.1.toNat (ai m) s num0 L num den)(h5:m.1.toNat<=5){out2:List Int}{g:Int}(hg:0<g)(hv:∀x∈L,0<out2.getD x 0/\out2.getD x 0<=9227446944279201)(k10:List Int->List Int->List Int->Int->Int->Int->Int->List Int->Option J)(t34 t35:Int):∀(M k:Nat) (d:List Int),k<=L.length->L.length-k<M->T3 m (L,[]) out2 g k d ->
  ∃d',T3 m (L,[]) out2 g L.length d'/\Z74L N k10 M num den d (aS L) g t34 t35 ((aS L).length:Int) (k:Int) m.1 m.2.1 m.2.2=k10 num den d' t34 t35 m.1 m.2.1 m.2.2:=by
 have hle:=hf.le;intro M;induction M with
 |zero=>intro k _ _ h;omega
 |succ M ih =>
  intro k d hk hM ht;simp only[Z74L,Z75];by_cases hlt:k<L.length
  ·have hxm:L.getD k 0∈L:=bS 0 hlt;have hxn:=hf.lt _ hxm;obtain⟨v1,v2⟩:=hv _ hxm;have hcur:=ht.cur hf.nd hf.lt hlt;have hdv:0<=Int.tdiv (out2.getD (L.getD k 0) 0) g/\Int.tdiv (out2.getD (L.getD k 0) 0) g<=9227446944279201:=by rw[Int.tdiv_eq_ediv_of_nonneg (by omega)];refine⟨Int.ediv_nonneg (by omega) (by omega), ?_⟩;have:=Int.ediv_le_self (a:=out2.getD (L.getD k 0) 0) g (by omega);omega
   have i4:az ((L.getD k 0:Nat):Int) d.length=true:=aL (by rw[ht.len];exact hxn);have hcur':d.getD (L.getD k 0) 0=out2.getD (L.getD k 0) 0:=hcur;rw[ct (dt (by rw[bK];omega)),ct (aL (by rw[bK];exact hlt))];simp only[Int.toNat_natCast,fA];rw[ct i4,ct (nt (by omega)),ct i4,hcur',bJ (by omega) (by omega),bz (by rw[bR];omega)];exact ih (k+1) _ hlt (by omega) (ht.step hf.nd hf.lt hlt)
  ·have e:k=L.length:=by omega
   subst e;exact⟨d,ht,by rw[cf (df (by rw[bK];omega))]⟩
def outer(hN:10<=N)(hm:cI m=true)(kr:List Int->Option J):∀(M i:Nat) (num den out:List Int),jI m.1.toNat (ai m) num out->den.length=m.1.toNat->i<=m.1.toNat->(∀x,x<i->num.getD x 0≠0)->m.1.toNat-i<M ->
  Z10L N (λout5=>Z77 N out5 kr) kr M num den out (m.1.toNat:Int) (i:Int) m.1 m.2.1 m.2.2=kr (ca m):=by
 have hdim:=eE hm;obtain⟨n,r,hn,hr,hn1,hn5,hnr,hr8,hl⟩:=cx hdim;intro M;induction M with
 |zero=>intro i _ _ _ _ _ _ _ h;omega
 |succ M ih =>
  intro i num den out hO hdl hi hpos hM;simp only[Z10L,Z11,Z12,Z13,Z14];by_cases hlt:i<m.1.toNat
  ·rw[jC (by rw[aP];exact dt (by omega))];simp only[Z15,Z16,Z17,Z18,Z19,Z20];rw[ct (aL (by rw[hO.nl];exact hlt)),Int.toNat_natCast];by_cases hz:num.getD i 0=0
   ·rw[cf (nf hz)];simp only[Z21,Z22];rw[ct (aL (by rw[hO.nl];exact hlt)),ct (aL (by rw[hdl];exact hlt)),Int.toNat_natCast];simp only[Z23,Z24,Z25,Z26,Z27,Z28,Z29];have hnl:i<num.length:=by rw[hO.nl];exact hlt
    have hdl':i<den.length:=by rw[hdl];exact hlt
    have f0:c9 m.1.toNat (ai m) i num [i] (num.set i 1) (den.set i 1):=by
     refine⟨by rw[List.length_set];exact hO.nl,by rw[List.length_set];exact hdl,by simp,λx hx=>by rw[List.mem_singleton]at hx;omega,rfl,by simp, ?_, ?_, ?_, ?_⟩;·intro x hx hni;rw[bG hnl,if_neg (λe=>hni (by simp[e]))]
     ·intro x hx;rw[List.mem_singleton]at hx;subst hx;exact hz
     ·refine⟨1,by omega,by simp,λx hx=>?_⟩;rw[List.mem_singleton]at hx;subst hx;rw[bG hnl,if_pos rfl,bG hdl',if_pos rfl];exact⟨by omega,by simp,by omega,Int.dvd_refl _,by decide⟩
     ·intro e he x hx;rw[List.mem_singleton]at hx;subst hx;rw[bG hnl,if_pos rfl,bG hdl',if_pos rfl]
    have hmid:=B2 (J:=J) (out:=out) hN hm hO.closed (λnum3 den4 out5 piece7 t34 t35 m1_0 m1_1 m1_2=>rI N num3 den4 out5 piece7 t34 t35 m1_0 m1_1 m1_2 (λnum3 den4 out5 t34 t35 m1_0 m1_1 m1_2=>Z76 N num3 den4 out5 t34 t35 m1_0 m1_1 m1_2 (λnum3 den4 out5 t34 t35 m1_0 m1_1 m1_2=>Z10L N (λout5=>Z77 N out5 kr) kr M num3 den4 out5 t34 t35 m1_0 m1_1 m1_2))) kr (m.1.toNat:Int) (i:Int) N 0 [i] (num.set i 1) (den.set i 1) f0 (by omega) (by omega) (λk' hk'=>by omega);rw[show((0:Nat):Int)=0 from rfl,show aS [i]=[(i:Int)]from rfl]at hmid;rcases hmid with⟨h1,h2⟩|⟨L,num',den',hf,hE,h1⟩;·rw[h1,vl h2]
    ·rw[h1];have hle:=hf.le;obtain⟨Q,q1,q2,q3⟩:=hf.frac;have pw:=vM (k:=L.length-1) (by omega);simp only[rI,Z56,vJ,Z58,Z59,Z60,vE];obtain⟨c,c1,c2,c3,c4⟩:=B3 (J:=J) (N:=N) (out:=out) (num:=num') (m:=m) hf (by omega) q1 (by omega) (λx hx=>⟨(q3 x hx).2.2.1,(q3 x hx).2.2.2.1⟩) (λnum3 den4 out5 piece7 common16 t34 t35 m1_0 m1_1 m1_2=>rH N num3 den4 out5 piece7 common16 t34 t35 m1_0 m1_1 m1_2 (λnum3 den4 out5 t34 t35 m1_0 m1_1 m1_2=>Z76 N num3 den4 out5 t34 t35 m1_0 m1_1 m1_2 (λnum3 den4 out5 t34 t35 m1_0 m1_1 m1_2=>Z10L N (λout5=>Z77 N out5 kr) kr M num3 den4 out5 t34 t35 m1_0 m1_1 m1_2))) (m.1.toNat:Int) (i:Int) N 0 1 (by omega) (by omega) (by omega) (Int.one_dvd _) (λk' hk'=>by omega);rw[show((0:Nat):Int)=0 from rfl]at c4;rw[c4];have cQ:=Int.le_of_dvd q1 c2;simp only[rH,Z64,vH,Z66,Z67,Z68,vF];obtain⟨out2,g2,o1,o2⟩:=B4 (J:=J) (N:=N) (num:=num') (m:=m) hf (by omega) c1 (by omega) (λx hx=>⟨(q3 x hx).1,by have:=(q3 x hx).2.1;omega,(q3 x hx).2.2.1,c3 x hx⟩) out (λnum3 den4 out5 piece7 g19 t34 t35 m1_0 m1_1 m1_2=>rG N num3 den4 out5 piece7 g19 t34 t35 m1_0 m1_1 m1_2 (λnum3 den4 out5 t34 t35 m1_0 m1_1 m1_2=>Z76 N num3 den4 out5 t34 t35 m1_0 m1_1 m1_2 (λnum3 den4 out5 t34 t35 m1_0 m1_1 m1_2=>Z10L N (λout5=>Z77 N out5 kr) kr M num3 den4 out5 t34 t35 m1_0 m1_1 m1_2))) (m.1.toNat:Int) (i:Int) N 0 out 0 (by omega) (by omega) ⟨hO.ol,λ_ _ _=>rfl,λk hk=>by omega,rfl⟩;rw[show((0:Nat):Int)=0 from rfl]at o2;rw[o2];have hg2:=o1.g_range.2.2 hf.pos;have hval:∀x∈L,out2.getD x 0*den'.getD x 0=c*num'.getD x 0/\0<out2.getD x 0/\out2.getD x 0<=9227446944279201:=by intro x hx;obtain⟨k,hk,e⟩:=iJ hx;rw[<-e];exact o1.val k hk
     simp only[rG,Z72,Z73,vG];obtain⟨out3,p1,p2⟩:=B5 (J:=J) (N:=N) (num:=num') (m:=m) hf (by omega) hg2 (λx hx=>(hval x hx).2) (λnum3 den4 out5 t34 t35 m1_0 m1_1 m1_2=>Z76 N num3 den4 out5 t34 t35 m1_0 m1_1 m1_2 (λnum3 den4 out5 t34 t35 m1_0 m1_1 m1_2=>Z10L N (λout5=>Z77 N out5 kr) kr M num3 den4 out5 t34 t35 m1_0 m1_1 m1_2)) (m.1.toNat:Int) (i:Int) N 0 out2 (by omega) (by omega) ⟨o1.len,λ_ _ _=>rfl,λk hk=>by omega⟩;rw[show((0:Nat):Int)=0 from rfl]at p2;rw[p2];have hgl:g2=((bn (L.map λx=>out2.getD x 0):Nat):Int):=by rw[<-vq L (λx=>out2.getD x 0)];exact o1.gcd
     obtain⟨r1,r2,r3⟩:=hO.piece (out3:=out3) hf hE c1 hg2 (λx hx=>(hval x hx).1) hgl (λx hx=>by
      obtain⟨k,hk,e⟩:=iJ hx;have:=p1.val k hk;rw[<-e];rw[show out3.getD (L.getD k 0) 0=_ from this];refine Int.tdiv_mul_cancel ?_;rw[hgl];exact nz (List.mem_map.2 ⟨L.getD k 0,bS 0 hk,rfl⟩)) (λx hx hni=>by
      have hne:∀k',k'<L.length->x≠L.getD k' 0:=λk' hk' e=>hni (by rw[e];exact bS 0 hk');rw[p1.out x hx hne,o1.old x hx hne]) p1.len
     simp only[Z76];rw[bz (by rw[bR];omega)];exact ih (i+1) num' den' out3 r1 hf.dl hlt (λx hx=>by
      by_cases e:x=i;·subst e;exact r2
      ·exact r3 x (by omega) (hpos x (by omega))) (by omega)
   ·rw[ct (nt hz)];simp only[Z76];rw[bz (by rw[bR];omega)];exact ih (i+1) num den out hO hdl hlt (λx hx=>by
     by_cases e:x=i;·subst e;exact hz
     ·exact hpos x (by omega)) (by omega)
  ·rw[eD (by rw[aP];exact df (by omega))];simp only[Z77];rw[hO.fac (λx hx=>hpos x (by omega)),jC (by rw[hO.ol,Nat.blt_eq];omega)]
end
def ok:Spec:=λm hb hp=>⟨10,λN hN=>by
 have hm:cI m=true:=hp;have hdim:=eE hm;obtain⟨n,r,hn,hr,hn1,hn5,hnr,hr8,hl⟩:=cx hdim;have hz:∀x,(List.replicate m.1.toNat (0:Int)).getD x 0=0:=λx=>by rw[List.getD_eq_getElem?_getD,List.getElem?_replicate];split<;>rfl
 have hc:(bh 0 m.1&&decide (m.1<1099511627776))=true:=by rw[u7 (by omega),dt (by omega)];rfl
 simp only[Z0,Z1,Z2,Z3];rw[ct hc,ct hc];have key:Z4 N (List.replicate m.1.toNat 0) (List.replicate m.1.toNat 0) m.1 m.2.1 m.2.2 (λt2=>some ((),(t2,())))=some ((),(g m,())):=by simp only[Z4,Z5];rw[ct hc];simp only[Z6,Z7,Z8,Z9,Z10,List.length_replicate];have:=outer (J:=Unit×List Int×Unit) hN hm (λt2=>some ((),(t2,()))) N 0 (List.replicate m.1.toNat 0) (List.replicate m.1.toNat 0) (List.replicate m.1.toNat 0) ⟨by simp,by simp,λy hy h=>absurd (hz y) h,λj hj h=>absurd (hz j) h⟩ (by simp) (by omega) (λx hx=>by omega) (by omega);exact this
 rw[key];simp only[bo,qp]⟩
end aA
namespace dZ
def g(m:Int×Int×List Int):Bool:=cI m&&!decide (ca m=[])
def Z0{J:Type}(N:Nat)(a:MT)(kr:Bool->Option J):Option J :=
 cond (lk N ((fZ.g a)))
 (
  cond (lk N (aA.P a)) (
   kr (lk N (!(decide ((aA.g a).length=0))))) none)
 (
  kr false)
def Spec:Prop:=∀ (v0:MT),Ty.bd (.pair (.int .i64) (.pair (.int .i64) (.sl 0 (.int .i64)))) v0->∃N0,∀N,N0<=N->Z0 N v0 (λv2=>some ((),(v2,())))=some ((),((g v0),()))
def ok:Spec:=λm hb=>⟨0,λN hN=>by
 simp only[Z0,aP,g,fZ.g,aA.P,aA.g];cases cI m;·rfl
 ·by_cases h:ca m=[];·rw[dt h,dt (by rw[h];rfl)];rfl
  ·rw[df h,df (λe=>h (List.length_eq_zero_iff.1 e))];rfl⟩
end dZ
namespace dF
def g(e:Int):Bool:=!(bV e (-20) 20)
def Z0{J:Type}(N:Nat)(a:Int)(kr:Bool->Option J):Option J :=
 kr (!(lk N ((dj.g a (-20) 20))))
def Spec:Prop:=∀ (v0:Int),∃N0,∀N,N0<=N->Z0 N v0 (λv2=>some ((),(v2,())))=some ((),((g v0),()))
def ok:Spec:=λe=>⟨0,λN hN=>by simp only[Z0,aP,g,dj.g]⟩
end dF
namespace cX
def go(p:Int->Bool):List Int->Nat->Int
 |[],_=>-1
 |x::xs,j=>if p x=true then(j:Int)else go p xs (j+1)
def g(s:List Int)(_:Unit):Int:=go dF.g s 0
def Z1{J:Type}(N:Nat)(a:LI)(b:Unit)(kn:LI->Option J):Option J :=
 kn a
def Z4{J:Type}(N:Nat)(a:LI)(kn:LI->I2 (Option J)):Option J :=
 kn a (a.length:Int) 0
def Z7{J:Type}(N:Nat)(b:LI)(c a:Int)(kn:LI->I2 (Option J))(k0:Option J)(kr:Int->Option J):Option J :=
 cond (lk N (decide (a<c)))
 (
  cond (lk N (az a b.length)) (
   cond (lk N ((dF.g (b.getD a.toNat 0))))
   (
    kr a)
   (
    kn b c (av (a+1)))) none)
 (
  k0)
def Z6L{J:Type}(N:Nat)(k0:Option J)(kr:Int->Option J):Nat->LI->Int->Int->Option J
 |0,_,_,_=>none
 |M+1,a,b,c=>Z7 N a b c (λa b c=>Z6L N k0 kr M a b c) k0 kr
def Z6 N a b c k0 kr:=(Z6L N k0 kr N a b c:Option J)
def Z5 N a b c kn kr:=(Z6 N a b c kn kr:Option J)
def Z3 N a kn kr:=(Z4 N a (λa b c=>Z5 N a b c kn kr):Option J)
def Z8{J:Type}(N:Nat) (kr:Int->Option J):Option J :=
 kr (-1)
def Z2 N a kr:=(Z3 N a (Z8 N kr) kr:Option J)
def Z0 N a b kr:=(Z1 N a b (λa=>Z2 N a kr):Option J)
def Spec:Prop:=∀ (v0:LI) (v1:Unit),Ty.bd (.sl 0 (.int .i64)) v0->∃N0,∀N,N0<=N->Z0 N v0 v1 (λv4=>some ((),(v4,())))=some ((),((g v0 v1),()))
def loop{J:Type}(N:Nat)(kr:Int->Option J)(a:List Int)(ha:a.length<=maxLen):∀(M j:Nat),j<=a.length->a.length-j<M ->
  Z6L N (kr (-1)) kr M a (a.length:Int) (j:Int)=kr (go dF.g (a.drop j) j):=by
 intro M;induction M with
 |zero=>intro j _ h;omega
 |succ M ih =>
  intro j hj hM;simp only[Z6L,Z7];by_cases h:j<a.length
  ·rw[ct (dt (by omega)),ct (aL h),Int.toNat_natCast,bz (by omega),ih (j+1) h (by omega),cw 0 h,go];cases e:dF.g (a.getD j 0);·rw[cf rfl,if_neg (by simp)]
   ·rw[ct rfl,if_pos rfl]
  ·rw[cf (df (by omega)),List.drop_of_length_le (by omega),go]
def ok:Spec:=λa _ ha=>⟨a.length+1,λN hN=>by simp only[Z1,Z4,Z7,Z6,Z5,Z3,Z8,Z2,Z0];exact(loop N (λt=>some ((),(t,()))) a ha.1 N 0 (by omega) (by omega)).trans rfl⟩
def go_pos(p:Int->Bool):∀(l:List Int) (j:Nat),0<=go p l j↔∃x∈l,p x=true
 |[],j=>by simp[go]
 |x::xs,j=>by
  rw[go];by_cases h:p x=true;·rw[if_pos h];simp[h]
  ·rw[if_neg h,go_pos p xs];simp[h]
end cX
namespace f5
def g(s:List Int)(_:Unit):Bool:=s.any dF.g
def Z0{J:Type}(N:Nat)(a:LI)(b:Unit)(kr:Bool->Option J):Option J :=
 kr (lk N (decide (0<=(cX.g a ()))))
def Spec:Prop:=∀ (v0:LI) (v1:Unit),Ty.bd (.sl 0 (.int .i64)) v0->∃N0,∀N,N0<=N->Z0 N v0 v1 (λv4=>some ((),(v4,())))=some ((),((g v0 v1),()))
def ok:Spec:=λa _ ha=>⟨0,λN hN=>by
 simp only[Z0,aP,g];have:=(show 0<=cX.g a ()↔∃x∈a,dF.g x=true from cX.go_pos dF.g a 0);cases e:a.any dF.g;·rw[df (λh=>by have:=this.1 h;rw[<-List.any_eq_true,e]at this;cases this)]
 ·rw[dt (this.2 (List.any_eq_true.1 e))]⟩
end f5
namespace f7
def g(exp:List Int)(vars:Int):Bool:=jD vars exp
def Z0{J:Type}(N:Nat)(a:LI)(b:Int)(kr:Bool->Option J):Option J :=
 cond (lk N (decide ((a.length:Int)=b)))
 (
  kr (!(lk N ((f5.g a ())))))
 (
  kr false)
def Spec:Prop:=∀ (v0:LI) (v1:Int),Ty.bd (.sl 0 (.int .i64)) v0->∃N0,∀N,N0<=N->Z0 N v0 v1 (λv4=>some ((),(v4,())))=some ((),((g v0 v1),()))
def ok:Spec:=λexp vars hb=>⟨0,λN hN=>by
 simp only[Z0,aP,g,f5.g,jD];by_cases h:(exp.length:Int)=vars;·simp only[dt h,cond_true,Bool.true_and,List.not_any_eq_all_not];simp[dF.g]
 ·simp only[df h,cond_false,Bool.false_and]⟩
end f7
namespace f9
def g(c:Int):Bool:=lh c
def Z0{J:Type}(N:Nat)(a:Int)(kr:Bool->Option J):Option J :=
 cond (lk N (!(decide (a=0))))
 (
  kr (lk N ((dj.g a (-1000000) 1000000))))
 (
  kr false)
def Spec:Prop:=∀ (v0:Int),∃N0,∀N,N0<=N->Z0 N v0 (λv2=>some ((),(v2,())))=some ((),((g v0),()))
def ok:Spec:=λc=>⟨0,λN hN=>by simp only[Z0,aP,g,dj.g,lh];cases decide (c=0)<;>rfl⟩
end f9
namespace fq
def g(_:Int):Bool:=false
def Z0{J:Type}(N:Nat)(a:Int)(kr:Bool->Option J):Option J :=
 kr (lk N (!(decide (a=a))))
def Spec:Prop:=∀ (v0:Int),∃N0,∀N,N0<=N->Z0 N v0 (λv2=>some ((),(v2,())))=some ((),((g v0),()))
def ok:Spec:=λx=>⟨0,λN hN=>by simp[Z0,aP,g]⟩
end fq
namespace eV
def g(x y:Int):Int:=if x=y then 0 else if x<y then -1 else 1
def Z0{J:Type}(N:Nat)(b a:Int)(kr:Int->Option J):Option J :=
 cond (lk N ((fq.g b)))
 (
  cond (lk N ((fq.g a)))
  (
   kr 0)
  (
   kr (-1)))
 (
  cond (lk N ((fq.g a)))
  (
   kr 1)
  (
   cond (lk N (decide (b<a)))
   (
    kr (-1))
   (
    cond (lk N (decide (a<b)))
    (
     kr 1)
    (
     kr 0))))
def Spec:Prop:=∀ (v0 v1:Int),∃N0,∀N,N0<=N->Z0 N v0 v1 (λv4=>some ((),(v4,())))=some ((),((g v0 v1),()))
def ok:Spec:=λx y=>⟨0,λN hN=>by
 simp only[Z0,aP,g,fq.g,cond_false];by_cases h:x<y;·rw[dt h,if_neg (by omega),if_pos h];rfl
 ·rw[df h];by_cases h2:y<x;·rw[dt h2,if_neg (by omega),if_neg h];rfl
  ·rw[df h2,if_pos (by omega)];rfl⟩
end eV
namespace dk
abbrev g(a b:List Int):Int:=gD a b
def Z1{J:Type}(N:Nat)(a b:LI)(kn:LI->LI->Option J):Option J :=
 kn a b
def Z4{J:Type}(N:Nat)(a b:LI)(kn:LI->LI->LI->I2 (Option J)):Option J :=
 kn a b a (a.length:Int) 0
def Z7{J:Type}(N:Nat)(d b c:LI)(e a:Int)(kn:LI->LI->LI->I2 (Option J))(k0:LI->LI->Option J)(kr:Int->Option J):Option J :=
 cond (lk N (decide (a<e)))
 (
  cond (lk N (az a c.length)) (
   cond (lk N (decide ((b.length:Int)<=a)))
   (
    kr 1)
   (
    cond (lk N (az a b.length)) (
     cond (lk N (!(decide ((eV.g (c.getD a.toNat 0) (b.getD a.toNat 0))=0))))
     (
      kr (eV.g (c.getD a.toNat 0) (b.getD a.toNat 0)))
     (
      kn d b c e (av (a+1)))) none)) none)
 (
  k0 d b)
def Z6L{J:Type}(N:Nat)(k0:LI->LI->Option J)(kr:Int->Option J):Nat->LI->LI->LI->Int->Int->Option J
 |0,_,_,_,_,_=>none
 |M+1,a,b,c,d,e=>Z7 N a b c d e (λa b c d e=>Z6L N k0 kr M a b c d e) k0 kr
def Z6 N a b c d e k0 kr:=(Z6L N k0 kr N a b c d e:Option J)
def Z5 N a b c d e kn kr:=(Z6 N a b c d e kn kr:Option J)
def Z3 N a b kn kr:=(Z4 N a b (λa b c d e=>Z5 N a b c d e kn kr):Option J)
def Z8{J:Type}(N:Nat)(a b:LI)(kr:Int->Option J):Option J :=
 cond (lk N (decide ((a.length:Int)<(b.length:Int))))
 (
  kr (-1))
 (
  kr 0)
def Z2 N a b kr:=(Z3 N a b (λa b=>Z8 N a b kr) kr:Option J)
def Z0 N a b kr:=(Z1 N a b (λa b=>Z2 N a b kr):Option J)
def Spec:Prop:=∀ (v0 v1:LI),Ty.bd (.sl 0 (.int .i64)) v0->Ty.bd (.sl 0 (.int .i64)) v1->∃N0,∀N,N0<=N->Z0 N v0 v1 (λv4=>some ((),(v4,())))=some ((),((g v0 v1),()))
def loop{J:Type}(N:Nat)(k0:List Int->List Int->Option J)(kr:Int->Option J)(a b:List Int)(ha:a.length<=maxLen)(h0:k0 a b=if a.length<b.length then kr (-1)else kr 0):∀(M j:Nat),j<=a.length->j<=b.length->a.length-j<M ->
  Z6L N k0 kr M a b a (a.length:Int) (j:Int)=kr (gD (a.drop j) (b.drop j)):=by
 intro M;induction M with
 |zero=>intro j _ _ h;omega
 |succ M ih =>
  intro j hj hb hM;simp only[Z6L,Z7];by_cases h:j<a.length
  ·rw[ct (dt (by omega)),ct (aL h),cw 0 h];by_cases h2:j<b.length
   ·rw[cf (df (by omega)),ct (aL h2),Int.toNat_natCast,bz (by omega),cw (l:=b) 0 h2,gD,ih (j+1) h h2 (by omega)];by_cases e:a.getD j 0=b.getD j 0;·rw[cf (nf (by rw[eV.g,if_pos e])),if_pos e]
    ·rw[ct (nt (by simp only[eV.g,if_neg e];split<;>omega)),if_neg e];simp only[eV.g,if_neg e]
   ·rw[ct (dt (by omega)),List.drop_of_length_le (l:=b) (by omega)];rfl
  ·rw[cf (df (by omega)),List.drop_of_length_le (by omega),h0];by_cases h2:j<b.length;·rw[if_pos (by omega),cw (l:=b) 0 h2];rfl
   ·rw[if_neg (by omega),List.drop_of_length_le (l:=b) (by omega)];rfl
def ok:Spec:=λa b ha hb=>⟨a.length+1,λN hN=>by
 simp only[Z1,Z4,Z7,Z6,Z5,Z3,Z8,Z2,Z0];refine(loop N _ (λt=>some ((),(t,()))) a b ha.1 ?_ N 0 (by omega) (by omega) (by omega)).trans rfl;by_cases h:a.length<b.length;·rw[ct (dt (by omega)),if_pos h]
 ·rw[cf (df (by omega)),if_neg h]⟩
end dk
namespace cq
def g(f:Int×List (List Int×Int)):Bool:=ns f
def Z1{J:Type}(N:Nat)(a:Int×List (LI×Int))(kn:Int->(List (LI×Int))->Option J):Option J :=
 kn a.1 a.2
def Z3{J:Type}(N:Nat)(a:Int)(b:List (LI×Int))(kn:Int->(List (LI×Int))->Option J)(kr:Bool->Option J):Option J :=
 cond (!(lk N ((dj.g a 1 8))))
 (
  kr false)
 (
  cond (lk N (decide (600<(b.length:Int))))
  (
   kr false)
  (
   kn a b))
def Z6{J:Type}(N:Nat)(b:Int)(a:List (LI×Int))(kn:(List (LI×Int))->I3 ((List (LI×Int))->Option J)):Option J :=
 kn a (a.length:Int) 0 b a
def Z9{J:Type}(N:Nat)(b:List (LI×Int))(d a e:Int)(c:List (LI×Int))(kn:(List (LI×Int))->I3 ((List (LI×Int))->Option J))(k0:Option J)(kr:Bool->Option J):Option J :=
 cond (lk N (decide (a<d)))
 (
  cond (lk N (az a b.length)) (
   cond (!(lk N ((f7.g (b.getD a.toNat ([],0)).1 e))))
   (
    kr false)
   (
    cond (!(lk N ((f9.g (b.getD a.toNat ([],0)).2))))
    (
     kr false)
    (
     cond (lk N (decide (0<a)))
     (
      cond (lk N (az (av (a-1)) c.length)) (
       cond (lk N (decide ((dk.g (c.getD (av (a-1)).toNat ([],0)).1 (b.getD a.toNat ([],0)).1)<=0)))
       (
        kr false)
       (
        kn b d (av (a+1)) e c)) none)
     (
      kn b d (av (a+1)) e c)))) none)
 (
  k0)
def Z8L{J:Type}(N:Nat)(k0:Option J)(kr:Bool->Option J):Nat->(List (LI×Int))->Int->Int->Int->(List (LI×Int))->Option J
 |0,_,_,_,_,_=>none
 |M+1,a,b,c,d,e=>Z9 N a b c d e (λa b c d e=>Z8L N k0 kr M a b c d e) k0 kr
def Z8 N a b c d e k0 kr:=(Z8L N k0 kr N a b c d e:Option J)
def Z7 N a b c d e kn kr:=(Z8 N a b c d e kn kr:Option J)
def Z5 N a b kn kr:=(Z6 N a b (λc d e a b=>Z7 N c d e a b kn kr):Option J)
def Z10{J:Type}(N:Nat) (kr:Bool->Option J):Option J :=
 kr true
def Z4 N a b kr:=(Z5 N a b (Z10 N kr) kr:Option J)
def Z2 N a b kr:=(Z3 N a b (λa b=>Z4 N a b kr) kr:Option J)
def Z0 N a kr:=(Z1 N a (λb c=>Z2 N b c kr):Option J)
def Spec:Prop:=∀ (v0:Int×List (LI×Int)),Ty.bd (.pair (.int .i64) (.sl 0 (.pair (.sl 0 (.int .i64)) (.int .i64)))) v0->∃N0,∀N,N0<=N->Z0 N v0 (λv2=>some ((),(v2,())))=some ((),((g v0),()))
def loop{J:Type}(N:Nat)(kr:Bool->Option J)(v:Int)(l:List (List Int×Int))(hl:l.length<=maxLen):∀(M j:Nat),j<=l.length->l.length-j<M ->
  Z8L N (kr true) kr M l (l.length:Int) (j:Int) v l=kr (gE v (l.drop j) (nr l j)):=by
 intro M;induction M with
 |zero=>intro j _ h;omega
 |succ M ih =>
  intro j hj hM;simp only[Z8L,Z9];by_cases h:j<l.length
  ·rw[ct (dt (by omega)),ct (aL h),Int.toNat_natCast,bz (by omega),cw ([],0) h,gE,ih (j+1) h (by omega)];simp only[aP,f7.g,f9.g];cases jD v (l.getD j ([],0)).1;·rfl
   cases lh (l.getD j ([],0)).2;·rfl
   simp only[Bool.not_true,cond_false,Bool.true_and];cases j with
   |zero=>rfl
   |succ j =>rw[dt (show(0:Int)<((j+1:Nat):Int) by omega),show av (((j+1:Nat):Int)-1)=(j:Int) by rw[bJ (by omega) (by rw[bR]at hl;omega)];omega,aL (by omega)];simp only[cond_true,Int.toNat_natCast,dk.g,ve,nr,rr];cases fj (l.getD (j+1) ([],0)).1 (l.getD j ([],0)).1<;>rfl
  ·rw[cf (df (by omega)),List.drop_of_length_le (by omega),gE]
def ok:Spec:=λf hb=>⟨f.2.length+1,λN hN=>by
 simp only[Z1,Z3,Z6,Z9,Z8,Z7,Z5,Z10,Z4,Z2,Z0,g,ns,dj.g];cases h1:bV f.1 1 8;·simp[aP]
 by_cases h2:(600:Int)<f.2.length;·rw[eD (by simp[aP]),ct (dt h2),df (by omega)];simp
 ·rw[eD (by simp[aP]),cf (df h2),dt (show f.2.length<=600 by omega)];exact(loop N (λt=>some ((),(t,()))) _ f.2 hb.2.1 N 0 (by omega) (by omega)).trans rfl⟩
end cq
namespace dm
def badL(rows:Int)(x:Int×List (List Int×Int)):Bool:=!cq.g x||(decide (x.2.length=0)||!decide (x.1=rows))
def g(s:(Int×Int×List Int)×List (Int×List (List Int×Int))):Bool:=dZ.g s.1&&(decide ((s.2.length:Int)=s.1.2.1)&&!s.2.any (badL s.1.2.1))
def ok:True:=trivial
end dm
namespace cD
def g(a b:List Int):Bool:=decide (a=b)
def Z1{J:Type}(N:Nat)(a b:LI)(kn:LI->LI->Option J):Option J :=
 kn a b
def Z3{J:Type}(N:Nat)(a b:LI)(kn:LI->LI->Option J)(kr:Bool->Option J):Option J :=
 cond (lk N (!(decide ((a.length:Int)=(b.length:Int)))))
 (
  kr false)
 (
  kn a b)
def Z6{J:Type}(N:Nat)(a b:LI)(kn:LI->LI->Int->Option J):Option J :=
 kn a b 0
def Z9{J:Type}(N:Nat)(b c:LI)(a:Int)(kn:LI->LI->Int->Option J)(k0:Option J)(kr:Bool->Option J):Option J :=
 cond (lk N (decide (a<(b.length:Int))))
 (
  cond (lk N (az a b.length)) (
   cond (lk N (az a c.length)) (
    cond (lk N (!(decide ((b.getD a.toNat 0)=(c.getD a.toNat 0)))))
    (
     kr false)
    (
     kn b c (av (a+1)))) none) none)
 (
  k0)
def Z8L{J:Type}(N:Nat)(k0:Option J)(kr:Bool->Option J):Nat->LI->LI->Int->Option J
 |0,_,_,_=>none
 |M+1,a,b,c=>Z9 N a b c (λa b c=>Z8L N k0 kr M a b c) k0 kr
def Z8 N a b c k0 kr:=(Z8L N k0 kr N a b c:Option J)
def Z7 N a b c kn kr:=(Z8 N a b c kn kr:Option J)
def Z5 N a b kn kr:=(Z6 N a b (λa b c=>Z7 N a b c kn kr):Option J)
def Z10{J:Type}(N:Nat) (kr:Bool->Option J):Option J :=
 kr true
def Z4 N a b kr:=(Z5 N a b (Z10 N kr) kr:Option J)
def Z2 N a b kr:=(Z3 N a b (λa b=>Z4 N a b kr) kr:Option J)
def Z0 N a b kr:=(Z1 N a b (λa b=>Z2 N a b kr):Option J)
def Spec:Prop:=∀ (v0 v1:LI),Ty.bd (.sl 0 (.int .i64)) v0->Ty.bd (.sl 0 (.int .i64)) v1->∃N0,∀N,N0<=N->Z0 N v0 v1 (λv4=>some ((),(v4,())))=some ((),((g v0 v1),()))
def loop{J:Type}(N:Nat)(k0:Option J)(kr:Bool->Option J)(a b:List Int)(hl:a.length=b.length)(ha:a.length<=maxLen):∀(M j:Nat),j<=a.length->a.length-j<M ->
  Z8L N k0 kr M a b (j:Int)=if a.drop j=b.drop j then k0 else kr false:=by
 intro M;induction M with
 |zero=>intro j _ h;omega
 |succ M ih =>
  intro j hj hM;simp only[Z8L,Z9];by_cases h:j<a.length
  ·rw[ct (dt (by omega)),ct (aL h),ct (aL (by omega)),Int.toNat_natCast,bz (by omega),ih (j+1) h (by omega),cw 0 h,cw (l:=b) (j:=j) 0 (by omega)];by_cases e:a.getD j 0=b.getD j 0;·rw[cf (nf e),e];simp only[List.cons.injEq,true_and]
   ·rw[ct (nt e),if_neg (by simp only[List.cons.injEq];exact λh=>e h.1)]
  ·rw[cf (df (by omega)),if_pos (by rw[List.drop_of_length_le (by omega),List.drop_of_length_le (by omega)])]
def ok:Spec:=λa b ha hb=>⟨a.length+1,λN hN=>by
 simp only[Z1,Z3,Z6,Z9,Z8,Z7,Z5,Z10,Z4,Z2,Z0];by_cases hl:a.length=b.length;·rw[cf (nf (by omega))];rw[show(0:Int)=((0:Nat):Int)from rfl,loop _ _ _ a b hl ha.1 N 0 (by omega) (by omega)];by_cases e:a=b<;>simp[e,g]
 ·rw[ct (nt (by omega))];have:a≠b:=λe=>hl (by rw[e]);simp[g,this]⟩
end cD
namespace gb
def g(a b:Int×Int×List Int):Bool:=decide (a=b)
def Z0{J:Type}(N:Nat)(a b:MT)(kr:Bool->Option J):Option J :=
 cond (lk N (!(decide (a.1=b.1))))
 (
  kr false)
 (
  cond (lk N (!(decide (a.2.1=b.2.1))))
  (
   kr false)
  (
   cond (!(lk N ((cD.g a.2.2 b.2.2))))
   (
    kr false)
   (
    kr true)))
def Spec:Prop:=∀ (v0 v1:MT),Ty.bd (.pair (.int .i64) (.pair (.int .i64) (.sl 0 (.int .i64)))) v0->Ty.bd (.pair (.int .i64) (.pair (.int .i64) (.sl 0 (.int .i64)))) v1->∃N0,∀N,N0<=N->Z0 N v0 v1 (λv4=>some ((),(v4,())))=some ((),((g v0 v1),()))
def ok:Spec:=λa b ha hb=>⟨0,λN hN=>by obtain⟨a1,a2,a3⟩:=a;obtain⟨b1,b2,b3⟩:=b;simp only[Z0,aP,g,cD.g,Prod.mk.injEq];by_cases h1:a1=b1<;>by_cases h2:a2=b2<;>by_cases h3:a3=b3<;>simp[h1,h2,h3]⟩
end gb
namespace fF
def g(a b:List Int×Int):Bool:=decide (a=b)
def Z0{J:Type}(N:Nat)(a b:LI×Int)(kr:Bool->Option J):Option J :=
 cond (!(lk N ((cD.g a.1 b.1))))
 (
  kr false)
 (
  cond (lk N (!(decide (a.2=b.2))))
  (
   kr false)
  (
   kr true))
def Spec:Prop:=∀ (v0 v1:LI×Int),Ty.bd (.pair (.sl 0 (.int .i64)) (.int .i64)) v0->Ty.bd (.pair (.sl 0 (.int .i64)) (.int .i64)) v1->∃N0,∀N,N0<=N->Z0 N v0 v1 (λv4=>some ((),(v4,())))=some ((),((g v0 v1),()))
def ok:Spec:=λa b ha hb=>⟨0,λN hN=>by obtain⟨a1,a2⟩:=a;obtain⟨b1,b2⟩:=b;simp only[Z0,aP,g,cD.g,Prod.mk.injEq];by_cases h1:a1=b1<;>by_cases h2:a2=b2<;>simp[h1,h2]⟩
end fF
end
end Go.Fw
