/- The plain part: what the functions compute, in lists and numbers. Nothing is assumed. -/
import Derived.Test.YtkjnhmjfdfiklaaGreatDoorFwd
import Derived.Lib.ItoaLen
import Derived.Lib.Join
import Derived.Test.YtkjnhmjfdfiklaaGreatDoorFza
import Derived.Lib.AtoiAll
import Derived.Lib.SplitLaws
noncomputable section
set_option linter.defProp false
set_option linter.unusedVariables false
namespace Go.Fw
def z3e:List Int->List Int->Bool
 | [],[]=>false
 | [],_::_=>true
 | _::_,[]=>false
 | x::xs,y::ys=>if x=y then z3e xs ys else decide (x<y)
def z79:List Int->List Int->Int
 | [],[]=>0
 | [],_::_=>-1
 | _::_,[]=>1
 | x::xs,y::ys=>if x=y then z79 xs ys else if x<y then -1 else 1
def zb0:∀a b:List Int,decide (z79 a b<0)=z3e a b
 | [],[]=>rfl
 | [],_::_=>rfl
 | _::_,[]=>rfl
 | x::xs,y::ys=>by
  rw[z79,z3e]
  by_cases h:x=y
  ·rw[if_pos h,if_pos h,zb0 xs ys]
  ·rw[if_neg h,if_neg h]
   by_cases h2:x<y
   ·rw[if_pos h2,dt h2];rfl
   ·rw[if_neg h2,df h2];rfl
def inK(n lo hi:Int):Bool:=decide (lo<=n)&&decide (n<=hi)
def prevE(l:List (List Int×Int)):Nat->Option (List Int)
 | 0=>none
 | j+1=>some (l.getD j ([],0)).1
end Go.Fw
namespace Go.Fw
def zl6{α:Type}(n j:Nat)(F G:Nat->α):List α:=(List.range n).map λi=>if i<j then F i else G i
section
variable {α : Type} {n j : Nat} {F G : Nat → α}
def zak:(zl6 n j F G).length=n:=by simp[zl6]
def znl{i:Nat}(h:i<n)(d:α):((List.range n).map F).getD i d=F i:=by
 rw[List.getD_eq_getElem?_getD,List.getElem?_map,List.getElem?_range h]
 rfl
def upto_get{i:Nat}(h:i<n)(d:α):(zl6 n j F G).getD i d=if i<j then F i else G i:=znl h d
def zmz(h:j<n):(zl6 n j F G).set j (F j)=zl6 n (j+1) F G:=by
 apply List.ext_getElem?
 intro i
 by_cases hi:i<n
 ·by_cases e:j=i
  ·subst e
   rw[List.getElem?_set_self (by rw[zak];exact h)]
   simp[zl6,List.getElem?_map,List.getElem?_range h]
  ·rw[List.getElem?_set_ne e]
   simp only[zl6,List.getElem?_map,List.getElem?_range hi,Option.map_some]
   by_cases h1:i<j
   ·rw[if_pos h1,if_pos (by omega)]
   ·rw[if_neg h1,if_neg (by omega)]
 ·rw[List.getElem?_eq_none (by rw[List.length_set,zak];omega),List.getElem?_eq_none (by rw[zak];omega)]
def zig:zl6 n 0 F G=(List.range n).map G:=by simp[zl6]
def zii:zl6 n n F G=(List.range n).map F:=by
 unfold zl6
 apply List.map_congr_left
 intro i hi
 rw[if_pos (List.mem_range.1 hi)]
def zaz{l:List α}(d:α)(h:l.length=n):(List.range n).map (λi=>l.getD i d)=l:=by
 apply List.ext_getElem?
 intro i
 by_cases hi:i<n
 ·rw[List.getElem?_map,List.getElem?_range hi,Option.map_some,List.getD_eq_getElem?_getD,List.getElem?_eq_getElem (by omega),Option.getD_some]
 ·rw[List.getElem?_eq_none (by simp;omega),List.getElem?_eq_none (by omega)]
end
end Go.Fw
namespace Go.Fw
def atP(m:Int×Int×List Int)(i j:Int):Bool:=decide (0<=i)&&(decide (0<=j)&&(decide (0<=m.1)&&decide (i*m.1+j<(m.2.2.length:Int))))
def atK(m:Int×Int×List Int)(i j:Int):Int:=m.2.2.getD (i*m.1+j).toNat 0
def zog{m:Int×Int×List Int}{i j:Int}(hl:m.2.2.length<=maxLen)(h:atP m i j=true):w64 (w64 (i*m.1)+j)=i*m.1+j/\0<=i*m.1+j/\i*m.1+j<(m.2.2.length:Int):=by
 simp only[atP,Bool.and_eq_true,decide_eq_true_eq]at h
 obtain⟨h1,h2,h3,h4⟩:=h
 have h5:0<=i*m.1:=Int.mul_nonneg h1 h3
 rw[z0k]at hl
 have e:w64 (i*m.1)=i*m.1:=z1r (by omega) (by omega)
 rw[e,z1r (by omega) (by omega)]
 exact⟨rfl,by omega,h4⟩
def ent(m:Int×Int×List Int)(i j:Nat):Int:=m.2.2.getD (i*m.1.toNat+j) 0
def z5t{m:Int×Int×List Int}(h:0<=m.1)(i j:Nat):atK m (i:Int) (j:Int)=ent m i j:=by
 unfold atK ent
 congr 1
 obtain⟨n,hn⟩:=Int.eq_ofNat_of_zero_le h
 rw[hn]
 norm_cast
def z4q(m:Int×Int×List Int):Bool:=inK m.1 1 5&&(inK m.2.1 m.1 8&&decide ((m.2.2.length:Int)=m.1*m.2.1))
def entK(l:List Int):Bool:=l.all λx=>inK x (-99) 99
def z12(m:Int×Int×List Int):Bool:=z4q m&&entK m.2.2
def z9g(a b:Int):Bool:=(decide (0<a) == decide (b<0))&&(decide (a=0) == decide (b=0))
def z1y(m:Int×Int×List Int):Bool:=z12 m&&(List.range m.1.toNat).all λi=>(List.range m.1.toNat).all λj=>z9g (ent m i j) (ent m j i)
def z3r{n lo hi:Int}:inK n lo hi=true↔lo<=n/\n<=hi:=by simp[inK]
def z13{m:Int×Int×List Int}(h:z4q m=true):∃n r:Nat,m.1=(n:Int)/\m.2.1=(r:Int)/\1<=n/\n<=5/\n<=r/\r<=8/\m.2.2.length=r*n:=by
 simp only[z4q,Bool.and_eq_true,z3r,decide_eq_true_eq]at h
 obtain⟨⟨h1,h2⟩,⟨h3,h4⟩,h5⟩:=h
 obtain⟨n,hn⟩:=Int.eq_ofNat_of_zero_le (show 0<=m.1 by omega)
 obtain⟨r,hr⟩:=Int.eq_ofNat_of_zero_le (show 0<=m.2.1 by omega)
 refine⟨n,r,hn,hr,by omega,by omega,by omega,by omega, ?_⟩
 rw[hn,hr,Int.mul_comm]at h5
 exact_mod_cast h5
def z9n{n r i j:Nat}(hi:i<r)(hj:j<n):i*n+j<r*n:=by
 have:=Nat.mul_le_mul_right n (show i+1<=r from hi)
 rw[Nat.add_mul]at this
 omega
def zd9{m:Int×Int×List Int}(h:z4q m=true){i j:Nat}(hi:i<m.2.1.toNat)(hj:j<m.1.toNat):atP m (i:Int) (j:Int)=true:=by
 obtain⟨n,r,hn,hr,_,_,_,_,hl⟩:=z13 h
 have:=z9n (n:=n) (r:=r) (i:=i) (j:=j) (by omega) (by omega)
 simp only[atP,Bool.and_eq_true,decide_eq_true_eq,hn,hl]
 refine⟨by omega,by omega,by omega, ?_⟩
 exact_mod_cast this
def zui{l:List Int}(h:entK l=true)(i:Nat):-99<=l.getD i 0/\l.getD i 0<=99:=by
 by_cases hi:i<l.length
 ·have:=(List.all_eq_true.1 h) _ (z18 0 hi)
  exact z3r.1 this
 ·rw[List.getD_eq_getElem?_getD,List.getElem?_eq_none (by omega),Option.getD_none];omega
def z63{j n:Nat}(h:j<n):(List.range n).drop j=j::(List.range n).drop (j+1):=by
 rw[z2d 0 (by simpa using h),List.getD_eq_getElem?_getD,List.getElem?_range h,Option.getD_some]
end Go.Fw
namespace Go.Fw
def z7z:List Int->Nat
 | []=>0
 | x::xs=>Nat.gcd x.natAbs (z7z xs)
def zlw(l m:List Int):z7z (l++m)=Nat.gcd (z7z l) (z7z m):=by
 induction l with
 | nil=>simp[z7z]
 | cons x xs ih=>rw[List.cons_append,z7z,ih,z7z,Nat.gcd_assoc]
def zdg(c:Int)(l:List Int):z7z (l.map λx=>c*x)=c.natAbs*z7z l:=by
 induction l with
 | nil=>simp[z7z]
 | cons x xs ih=>rw[List.map_cons,z7z,ih,z7z,Int.natAbs_mul,Nat.gcd_mul_left]
def zdh{l:List Int}{x:Int}(h:x∈l):((z7z l:Nat):Int)∣x:=by
 induction l with
 | nil=>cases h
 | cons y ys ih =>
  rw[z7z]
  rcases List.mem_cons.1 h with e | e
  ·subst e;exact Int.ofNat_dvd_left.2 (Nat.gcd_dvd_left _ _)
  ·exact Int.dvd_trans (Int.natCast_dvd_natCast.2 (Nat.gcd_dvd_right _ _)) (ih e)
def zah(n:Nat)(A:Nat->Nat->Int)(d:Nat->Int):Prop:=∀i,i<n->0<d i/\∀j,j<n->d i*A i j=-(d j*A j i)
def Prim(n:Nat)(A:Nat->Nat->Int)(d:Nat->Int):Prop:=∀i,i<n->∃L:List Nat,(∀k∈L,k<n)/\z7z (L.map d)=1/\∀e,zah n A e->∀k∈L,d i*e k=d k*e i
def znc{n:Nat}{A:Nat->Nat->Int}{d e:Nat->Int}(hd:zah n A d)(he:zah n A e)(pd:Prim n A d){i:Nat}(hi:i<n):d i∣e i:=by
 obtain⟨L,h1,h2,h3⟩:=pd i hi
 have h4:(L.map d).map (λx=>e i*x)=(L.map e).map (λx=>d i*x):=by
  rw[List.map_map,List.map_map]
  apply List.map_congr_left
  intro k hk
  show e i*d k=d i*e k
  rw[h3 e he k hk,Int.mul_comm]
 have h5:(e i).natAbs*1=(d i).natAbs*z7z (L.map e):=by rw[<-h2,<-zdg,<-zdg,h4]
 exact Int.natAbs_dvd_natAbs.1 ⟨z7z (L.map e),by rw[<-h5,Nat.mul_one]⟩
def good_one{n:Nat}{A:Nat->Nat->Int}{d e:Nat->Int}(hd:zah n A d)(he:zah n A e)(pd:Prim n A d)(pe:Prim n A e){i:Nat}(hi:i<n):d i=e i:=by
 have h1:=znc hd he pd hi
 have h2:=znc he hd pe hi
 have:=(hd i hi).1
 have:=(he i hi).1
 exact Int.dvd_antisymm (by omega) (by omega) h1 h2
def zb2{n:Nat}{A:Nat->Nat->Int}{e:Nat->Int}(he:zah n A e){i j:Nat}(hi:i<n)(hj:j<n)(h:A i j=0):A j i=0:=by
 have h1:=(he i hi).2 j hj
 rw[h,Int.mul_zero]at h1
 have h2:e j*A j i=0:=by omega
 rcases Int.mul_eq_zero.1 h2 with h3 | h3
 ·have:=(he j hj).1;omega
 ·exact h3
def zj2{a b e f p q:Int}(he:0<e)(hf:0<f)(h:a*f=b*e)(hg:e*p=-(f*q)):a*p=-(b*q):=by
 have h1:f*(a*p)=f*(-(b*q)):=by
  calc f*(a*p)=(a*f)*p:=by rw[<-Int.mul_assoc,Int.mul_comm f a]
   _=b*(e*p):=by rw[h,Int.mul_assoc]
   _=f*(-(b*q)):=by rw[hg,Int.mul_neg,Int.mul_neg,Int.mul_left_comm]
 exact Int.eq_of_mul_eq_mul_left (by omega) h1
def zp2{a b e f p q:Int}(hp:p≠0)(he:0<e)(h:a*p=-(b*q))(hg:e*p=-(f*q))(hq:q≠0):a*f=b*e:=by
 have h1:q*(a*f)=q*(b*e):=by
  calc q*(a*f)=a*(f*q):=by rw[Int.mul_left_comm,Int.mul_comm q f]
   _=a * -(e*p):=by rw[hg,Int.neg_neg]
   _=e*(-(a*p)):=by rw[Int.mul_neg,Int.mul_neg,Int.mul_left_comm]
   _=q*(b*e):=by rw[h,Int.neg_neg,Int.mul_left_comm,Int.mul_comm e q,Int.mul_left_comm]
 exact Int.eq_of_mul_eq_mul_left hq h1
def zfp{a b c e f g:Int}(hf:f≠0)(h1:a*f=b*e)(h2:b*g=c*f):a*g=c*e:=by
 have h3:f*(a*g)=f*(c*e):=by
  calc f*(a*g)=(a*f)*g:=by rw[<-Int.mul_assoc,Int.mul_comm f a]
   _=e*(b*g):=by rw[h1,Int.mul_comm b e,Int.mul_assoc]
   _=f*(c*e):=by rw[h2,Int.mul_left_comm,Int.mul_comm e f,Int.mul_left_comm]
 exact Int.eq_of_mul_eq_mul_left hf h3
open Classical in
def z4y(m:Int×Int×List Int):List Int :=
 if h:∃l:List Int,l.length=m.1.toNat/\zah m.1.toNat (ent m) (λi=>l.getD i 0)/\Prim m.1.toNat (ent m) (λi=>l.getD i 0)then Classical.choose h else[]
def zsg{m:Int×Int×List Int}{l:List Int}(h1:l.length=m.1.toNat)(h2:zah m.1.toNat (ent m) (λi=>l.getD i 0))(h3:Prim m.1.toNat (ent m) (λi=>l.getD i 0)):z4y m=l:=by
 have h:∃l:List Int,l.length=m.1.toNat/\zah m.1.toNat (ent m) (λi=>l.getD i 0)/\Prim m.1.toNat (ent m) (λi=>l.getD i 0):=⟨l,h1,h2,h3⟩
 have hc:=Classical.choose_spec h
 rw[z4y,dif_pos h]
 generalize Classical.choose h=c at hc
 obtain⟨c1,c2,c3⟩:=hc
 apply List.ext_getElem?
 intro i
 by_cases hi:i<m.1.toNat
 ·have:=good_one c2 h2 c3 h3 hi
  simp only[List.getD_eq_getElem?_getD]at this
  rw[List.getElem?_eq_getElem (by omega),List.getElem?_eq_getElem (by omega)]at this ⊢
  simpa using this
 ·rw[List.getElem?_eq_none (by omega),List.getElem?_eq_none (by omega)]
def znw{m:Int×Int×List Int}(h:¬ ∃e,zah m.1.toNat (ent m) e):z4y m=[]:=by
 rw[z4y,dif_neg]
 rintro ⟨l,_,h2,_⟩
 exact h ⟨_,h2⟩
def zdi{m:Int×Int×List Int}(h:z4y m≠[]):(z4y m).length=m.1.toNat/\zah m.1.toNat (ent m) (λi=>(z4y m).getD i 0)/\Prim m.1.toNat (ent m) (λi=>(z4y m).getD i 0):=by
 by_cases hx:∃l:List Int,l.length=m.1.toNat/\zah m.1.toNat (ent m) (λi=>l.getD i 0)/\Prim m.1.toNat (ent m) (λi=>l.getD i 0)
 ·have:z4y m=Classical.choose hx:=by rw[z4y,dif_pos hx]
  rw[this]
  exact Classical.choose_spec hx
 ·exact absurd (by rw[z4y,dif_neg hx]) h
def z7a{n:Nat}{A:Nat->Nat->Int}{e:Nat->Int}(he:zah n A e){i j:Nat}(hi:i<n)(hj:j<n):z9g (A i j) (A j i)=true:=by
 have h1:=(he i hi).2 j hj
 have h2:=(he i hi).1
 have h3:=(he j hj).1
 have e1:decide (0<A i j)=decide (A j i<0):=by
  rw[decide_eq_decide]
  constructor
  ·intro h
   have:=Int.mul_pos h2 h
   rcases Int.lt_or_le (A j i) 0 with h4 | h4
   ·exact h4
   ·have:=Int.mul_nonneg (Int.le_of_lt h3) h4;omega
  ·intro h
   have:=Int.mul_neg_of_pos_of_neg h3 h
   rcases Int.lt_or_le 0 (A i j)with h4 | h4
   ·exact h4
   ·have:=Int.mul_nonpos_of_nonneg_of_nonpos (Int.le_of_lt h2) h4;omega
 have e2:decide (A i j=0)=decide (A j i=0):=by
  rw[decide_eq_decide]
  exact⟨zb2 he hi hj,zb2 he hj hi⟩
 rw[z9g,e1,e2]
 simp
def zsf{m:Int×Int×List Int}(hs:z12 m=true)(h:z4y m≠[]):z1y m=true:=by
 obtain⟨h1,h2,h3⟩:=zdi h
 rw[z1y,hs,Bool.true_and,List.all_eq_true]
 intro i hi
 rw[List.all_eq_true]
 intro j hj
 exact z7a h2 (List.mem_range.1 hi) (List.mem_range.1 hj)
end Go.Fw
namespace Go.Fw
def z33(l:List Nat):List Int:=l.map λ(x:Nat)=>(x:Int)
def z1p(l:List Nat):(z33 l).length=l.length:=by simp[z33]
def z3i(l:List Nat)(k:Nat):(z33 l).getD k 0=((l.getD k 0:Nat):Int):=by
 simp only[z33,List.getD_eq_getElem?_getD,List.getElem?_map]
 cases l[k]?<;>rfl
def za5(l:List Nat)(x:Nat):z33 l++[(x:Int)]=z33 (l++[x]):=by simp[z33]
def znk{l:List Nat}{x:Nat}:((x:Int)∈z33 l)↔x∈l:=by
 simp only[z33,List.mem_map]
 constructor
 ·rintro ⟨a,h1,h2⟩
  rwa [<-Int.ofNat.inj h2]
 ·exact λh=>⟨x,h,rfl⟩
def zau:∀(n:Nat) (l:List Nat),l.Nodup->(∀x∈l,x<n)->l.length<=n
 | 0,l,_,h=>by
  cases l with
  | nil=>simp
  | cons x xs=>exact absurd (h x (by simp)) (by omega)
 | n+1,l,hn,h=>by
  have:=zau n (l.erase n) (hn.erase n) (λx hx=>by
   have h1:=(hn.mem_erase_iff).1 hx
   have:=h x h1.2
   omega)
  rw[List.length_erase]at this
  split at this<;>omega
def pIn(A:Nat->Nat->Int)(x:Nat):List Nat->List Nat×List Nat->List Nat×List Nat
 | [],s=>s
 | j::js,s=>pIn A x js (if A x j≠0/\j∉s.1 then(s.1++[j],s.2++[x])else s)
def pGo(A:Nat->Nat->Int)(n:Nat):Nat->Nat->List Nat×List Nat->List Nat×List Nat
 | 0,_,s=>s
 | f+1,p,s=>if p<s.1.length then pGo A n f (p+1) (pIn A (s.1.getD p 0) (List.range n) s)else s
def zch(m:Int×Int×List Int)(i:Nat):List Nat×List Nat:=pGo (ent m) m.1.toNat m.1.toNat 0 ([i],[i])
structure zda(n:Nat)(A:Nat->Nat->Int)(i:Nat)(s:List Nat×List Nat):Prop where
 nd:s.1.Nodup
 lt:∀x∈s.1,x<n
 len:s.2.length=s.1.length
 hd:s.1.getD 0 0=i
 pos:0<s.1.length
 src:∀k,1<=k->k<s.1.length->∃k',k'<k/\s.2.getD k 0=s.1.getD k' 0/\A (s.2.getD k 0) (s.1.getD k 0)≠0
def zda.le{n:Nat}{A:Nat->Nat->Int}{i:Nat}{s:List Nat×List Nat}(h:zda n A i s):s.1.length<=n:=zau n s.1 h.nd h.lt
def z2n{α:Type}{l m:List α}{k:Nat}{d:α}(h:k<l.length):(l++m).getD k d=l.getD k d:=by
 simp only[List.getD_eq_getElem?_getD]
 rw[List.getElem?_append_left h]
def z6v{α:Type}{l:List α}{x d:α}{k:Nat}(h:k=l.length):(l++[x]).getD k d=x:=by
 subst h
 simp[List.getD_eq_getElem?_getD]
def zda.step{n:Nat}{A:Nat->Nat->Int}{i p j:Nat}{s:List Nat×List Nat}(h:zda n A i s)(hp:p<s.1.length)(hj:j<n)(ha:A (s.1.getD p 0) j≠0/\j∉s.1):zda n A i (s.1++[j],s.2++[s.1.getD p 0]):=by
 refine⟨?_, ?_, ?_, ?_, ?_, ?_⟩
 ·exact List.nodup_append.2 ⟨h.nd,by simp,λa ha' b hb e=>by
   rw[List.mem_singleton]at hb;subst hb;subst e;exact ha.2 ha'⟩
 ·intro x hx
  rcases List.mem_append.1 hx with hx | hx
  ·exact h.lt x hx
  ·rw[List.mem_singleton]at hx;omega
 ·simp[h.len]
 ·exact(z2n h.pos).trans h.hd
 ·simp
 ·intro k h1 h2
  simp only[List.length_append,List.length_cons,List.length_nil]at h2
  by_cases hk:k<s.1.length
  ·obtain⟨k',h3,h4,h5⟩:=h.src k h1 hk
   refine⟨k',h3, ?_, ?_⟩
   ·show(s.2++_).getD k 0=(s.1++_).getD k' 0
    rw[z2n (by rw[h.len];exact hk),z2n (by omega),h4]
   ·show A ((s.2++_).getD k 0) ((s.1++_).getD k 0)≠0
    rw[z2n (by rw[h.len];exact hk),z2n hk]
    exact h5
  ·have e:k=s.1.length:=by omega
   refine⟨p,by omega, ?_, ?_⟩
   ·show(s.2++_).getD k 0=(s.1++_).getD p 0
    rw[z6v (by rw[h.len];exact e),z2n hp]
   ·show A ((s.2++_).getD k 0) ((s.1++_).getD k 0)≠0
    rw[z6v (by rw[h.len];exact e),z6v e]
    exact ha.1
def zmv(s t:List Nat×List Nat):Prop:=∃u,t.1=s.1++u
def zmv.getD{s t:List Nat×List Nat}(h:zmv s t){k:Nat}(hk:k<s.1.length):t.1.getD k 0=s.1.getD k 0:=by
 obtain⟨u,h⟩:=h
 rw[h,z2n hk]
def zmv.len{s t:List Nat×List Nat}(h:zmv s t):s.1.length<=t.1.length:=by
 obtain⟨u,h⟩:=h
 rw[h];simp
def zmv.mem{s t:List Nat×List Nat}(h:zmv s t){x:Nat}(hx:x∈s.1):x∈t.1:=by
 obtain⟨u,h⟩:=h
 rw[h];exact List.mem_append_left _ hx
def zgu{n:Nat}{A:Nat->Nat->Int}{i p:Nat}:∀(js:List Nat) (s:List Nat×List Nat),zda n A i s->p<s.1.length->(∀j∈js,j<n) ->
  zda n A i (pIn A (s.1.getD p 0) js s)/\zmv s (pIn A (s.1.getD p 0) js s)/\∀j∈js,A (s.1.getD p 0) j≠0->j∈(pIn A (s.1.getD p 0) js s).1
 | [],s,h,_,_=>⟨h,⟨[],by simp[pIn]⟩,λj hj=>by cases hj⟩
 | j::js,s,h,hp,hl=>by
  by_cases ha:A (s.1.getD p 0) j≠0/\j∉s.1
  ·have e:(s.1++[j]).getD p 0=s.1.getD p 0:=z2n hp
   have:=zgu (p:=p) js (s.1++[j],s.2++[s.1.getD p 0]) (h.step hp (hl j (by simp)) ha) (by simp;omega) (λx hx=>hl x (by simp[hx]))
   simp only[e]at this
   obtain⟨h1,⟨u,h2⟩,h3⟩:=this
   rw[pIn,if_pos ha]
   refine⟨h1,⟨[j]++u,by rw[h2];simp⟩,λx hx hax=>?_⟩
   rcases List.mem_cons.1 hx with hx | hx
   ·subst hx;rw[h2];simp
   ·exact h3 x hx hax
  ·have:=zgu (p:=p) js s h hp (λx hx=>hl x (by simp[hx]))
   obtain⟨h1,h2,h3⟩:=this
   rw[pIn,if_neg ha]
   refine⟨h1,h2,λx hx hax=>?_⟩
   rcases List.mem_cons.1 hx with hx | hx
   ·subst hx
    exact h2.mem (Classical.byContradiction λhc=>ha ⟨hax,hc⟩)
   ·exact h3 x hx hax
def zrc{n:Nat}{A:Nat->Nat->Int}{i:Nat}:∀(f p:Nat) (s:List Nat×List Nat),zda n A i s->n<=f+p->p<=s.1.length->(∀k,k<p->∀j,j<n->A (s.1.getD k 0) j≠0->j∈s.1) ->
  zda n A i (pGo A n f p s)/\∀x∈(pGo A n f p s).1,∀j,j<n->A x j≠0->j∈(pGo A n f p s).1
 | 0,p,s,h,hf,hp,hc=>⟨h,λx hx j hj ha=>by
   change x∈s.1 at hx
   show j∈s.1
   obtain⟨k,hk,rfl⟩:=List.getElem_of_mem hx
   have:=h.le
   refine hc k (by omega) j hj ?_
   rw[List.getD_eq_getElem?_getD,List.getElem?_eq_getElem hk]
   exact ha⟩
 | f+1,p,s,h,hf,hp,hc=>by
  rw[pGo]
  by_cases hlt:p<s.1.length
  ·rw[if_pos hlt]
   obtain⟨h1,h2,h3⟩:=zgu (p:=p) (List.range n) s h hlt (λx hx=>List.mem_range.1 hx)
   refine zrc f (p+1) _ h1 (by omega) (by have:=h2.len;omega) ?_
   intro k hk j hj ha
   by_cases e:k=p
   ·subst e
    rw[h2.getD hlt]at ha
    exact h3 j (List.mem_range.2 hj) ha
   ·rw[h2.getD (by omega)]at ha
    exact h2.mem (hc k (by omega) j hj ha)
  ·rw[if_neg hlt]
   refine⟨h,λx hx j hj ha=>?_⟩
   obtain⟨k,hk,rfl⟩:=List.getElem_of_mem hx
   refine hc k (by omega) j hj ?_
   rw[List.getD_eq_getElem?_getD,List.getElem?_eq_getElem hk]
   exact ha
def zda.first{n:Nat}{A:Nat->Nat->Int}{i:Nat}(h:i<n):zda n A i ([i],[i]) :=
 ⟨by simp,by simpa using h,rfl,rfl,by simp,λk h1 h2=>by simp at h2;omega⟩
def piece_ok{m:Int×Int×List Int}{i:Nat}(h:i<m.1.toNat):zda m.1.toNat (ent m) i (zch m i)/\∀x∈(zch m i).1,∀j,j<m.1.toNat->ent m x j≠0->j∈(zch m i).1 :=
 zrc m.1.toNat 0 _ (zda.first h) (by omega) (by simp) (λk hk=>by omega)
end Go.Fw
namespace Go.Fw
def z1v{α:Type}{l:List α}{x y:Nat}{v d:α}(h:x<l.length):(l.set x v).getD y d=if x=y then v else l.getD y d:=by
 by_cases e:x=y
 ·subst e
  rw[if_pos rfl,zha h]
 ·rw[if_neg e,List.getD_eq_getElem?_getD,List.getElem?_set_ne e,List.getD_eq_getElem?_getD]
def z4u{l:List Nat}(h:l.Nodup){a b:Nat}(ha:a<l.length)(hb:b<l.length)(e:l.getD a 0=l.getD b 0):a=b:=by
 rw[List.getD_eq_getElem?_getD,List.getD_eq_getElem?_getD,List.getElem?_eq_getElem ha,List.getElem?_eq_getElem hb,Option.getD_some,Option.getD_some]at e
 rcases Nat.lt_trichotomy a b with h1 | h1 | h1
 ·exact absurd e (List.pairwise_iff_getElem.1 h a b ha hb h1)
 ·exact h1
 ·exact absurd e.symm (List.pairwise_iff_getElem.1 h b a hb ha h1)
def z7m{l:List Nat}{x:Nat}(h:x∈l):∃k,k<l.length/\l.getD k 0=x:=by
 obtain⟨k,hk,rfl⟩:=List.getElem_of_mem h
 exact⟨k,hk,by rw[List.getD_eq_getElem?_getD,List.getElem?_eq_getElem hk,Option.getD_some]⟩
def zfo{α:Type}(l:List Nat)(f:Nat->α):(List.range l.length).map (λt=>f (l.getD t 0))=l.map f:=by
 have:=zaz (n:=l.length) (l:=l) 0 rfl
 conv=>rhs;rw[<-this]
 rw[List.map_map]
 rfl
def z60(a:Int):Int:=(a.natAbs:Int)
def z9d{a:Int}(h:a≠0):0<z60 a:=by unfold z60;omega
def zeu{a:Int}(h:-99<=a/\a<=99):z60 a<=99:=by unfold z60;omega
def zol{e f p q:Int}(he:0<e)(hf:0<f)(h:e*p=-(f*q)):e*z60 p=f*z60 q:=by
 have h1:(e*p).natAbs=(f*q).natAbs:=by rw[h,Int.natAbs_neg]
 rw[Int.natAbs_mul,Int.natAbs_mul]at h1
 have:((e.natAbs*p.natAbs:Nat):Int)=((f.natAbs*q.natAbs:Nat):Int):=by rw[h1]
 rw[Int.natCast_mul,Int.natCast_mul,Int.natAbs_of_nonneg (Int.le_of_lt he),Int.natAbs_of_nonneg (Int.le_of_lt hf)]at this
 exact this
def z5n(q:Nat->Int):Nat->Int
 | 0=>1
 | k+1=>z5n q k*q k
def zr2(q:Nat->Int){a b:Nat}(h:a<=b):z5n q a∣z5n q b:=by
 induction b with
 | zero=>rw[show a=0 by omega];exact Int.dvd_refl _
 | succ b ih =>
  by_cases e:a=b+1
  ·subst e;exact Int.dvd_refl _
  ·exact Int.dvd_trans (ih (by omega)) ⟨q b,rfl⟩
def z68{q:Nat->Int}{n:Nat}(h:∀k,k<n->0<q k/\q k<=99):∀k,k<=n->0<z5n q k/\z5n q k<=99 ^ k
 | 0,_=>by simp[z5n]
 | k+1,hk=>by
  obtain⟨h1,h2⟩:=z68 h k (by omega)
  obtain⟨h3,h4⟩:=h k (by omega)
  refine⟨Int.mul_pos h1 h3, ?_⟩
  rw[Int.pow_succ]
  exact Int.mul_le_mul h2 h4 (by omega) (Int.pow_nonneg (by omega))
def zr3{k:Nat}(h:k<=8):(99:Int) ^ k<=9227446944279201:=by
 have h1:99 ^ k<=99 ^ 8:=Nat.pow_le_pow_right (by omega) h
 have h2:(99:Int) ^ k=((99 ^ k:Nat):Int):=by rw[Int.natCast_pow];rfl
 rw[h2]
 omega
def tree_div{H D Hk q p a:Int}(hH:0<Hk)(hq:0<q)(hp:0<p)(ha:0<a)(h1:Hk*q∣D)(h2:D∣a*Hk) :
  (Int.tdiv (a*p) q)*q=a*p/\0<Int.tdiv (a*p) q/\D∣Int.tdiv (a*p) q*(Hk*q):=by
 obtain⟨R,hR⟩:=h1
 obtain⟨c,hc⟩:=h2
 have e:a=q*(R*c):=by
  have:Hk*a=Hk*(q*(R*c)):=by
   rw[Int.mul_comm Hk a,hc,hR,<-Int.mul_assoc Hk q,Int.mul_assoc]
  exact Int.eq_of_mul_eq_mul_left (by omega) this
 have e2:Int.tdiv (a*p) q=R*c*p:=by
  rw[e,Int.mul_assoc,Int.mul_tdiv_cancel_left _ (by omega)]
 rw[e2]
 refine⟨by rw[e,Int.mul_comm (R*c*p) q,Int.mul_assoc q], ?_, ?_⟩
 ·have h3:0<q*(R*c*p):=by rw[<-Int.mul_assoc,<-e];exact Int.mul_pos ha hp
  rcases Int.lt_or_le 0 (R*c*p)with h | h
  ·exact h
  ·have:=Int.mul_nonpos_of_nonneg_of_nonpos (Int.le_of_lt hq) h;omega
 ·refine⟨c*p, ?_⟩
  rw[hR,Int.mul_comm (R*c*p),Int.mul_assoc,Int.mul_assoc,Int.mul_assoc,Int.mul_assoc]
def zns(g:Nat)(l:List Int)(x:Int)(hx:0<=x)(hg:g=z7z l):(Int.gcd (g:Int) x:Int)=((z7z (l++[x]):Nat):Int):=by
 subst hg
 rw[zlw,z7z,z7z,Nat.gcd_zero_right]
 rfl
end Go.Fw
namespace Go.Fw
def qK(m:Int×Int×List Int)(s:List Nat×List Nat)(k:Nat):Int:=if k=0 then 1 else z60 (ent m (s.1.getD k 0) (s.2.getD k 0))
def pK(m:Int×Int×List Int)(s:List Nat×List Nat)(k:Nat):Int:=z60 (ent m (s.2.getD k 0) (s.1.getD k 0))
def z96{m:Int×Int×List Int}(h:z1y m=true){i j:Nat}(hi:i<m.1.toNat)(hj:j<m.1.toNat):ent m i j=0↔ent m j i=0:=by
 rw[z1y,Bool.and_eq_true,List.all_eq_true]at h
 have h1:=List.all_eq_true.1 (h.2 i (List.mem_range.2 hi)) j (List.mem_range.2 hj)
 rw[z9g,Bool.and_eq_true]at h1
 have h2:=h1.2
 rw[beq_iff_eq,decide_eq_decide]at h2
 exact h2
def z3j{m:Int×Int×List Int}(h:z12 m=true)(i j:Nat):-99<=ent m i j/\ent m i j<=99:=by
 rw[z12,Bool.and_eq_true]at h
 exact zui h.2 _
def z26{m:Int×Int×List Int}(h:z1y m=true):z12 m=true:=by
 rw[z1y,Bool.and_eq_true]at h
 exact h.1
def z1j{m:Int×Int×List Int}(h:z12 m=true):z4q m=true:=by
 rw[z12,Bool.and_eq_true]at h
 exact h.1
def zio{n:Nat}{A:Nat->Nat->Int}{i:Nat}{s:List Nat×List Nat}(h:zda n A i s){k:Nat}(h1:1<=k)(h2:k<s.1.length):s.2.getD k 0<n:=by
 obtain⟨k',h3,h4,h5⟩:=h.src k h1 h2
 rw[h4]
 exact h.lt _ (z18 0 (by omega))
def zde{m:Int×Int×List Int}(hs:z1y m=true){i:Nat}{s:List Nat×List Nat}(h:zda m.1.toNat (ent m) i s){k:Nat}(h1:1<=k)(h2:k<s.1.length) :
  (0<qK m s k/\qK m s k<=99)/\(0<pK m s k/\pK m s k<=99):=by
 obtain⟨k',h3,h4,h5⟩:=h.src k h1 h2
 have h6:ent m (s.1.getD k 0) (s.2.getD k 0)≠0:=λe=>h5 ((z96 hs (h.lt _ (z18 0 h2)) (zio h h1 h2)).1 e)
 have hb:=z26 hs
 rw[qK,if_neg (by omega),pK]
 exact⟨⟨z9d h6,zeu (z3j hb _ _)⟩,⟨z9d h5,zeu (z3j hb _ _)⟩⟩
def zdy{m:Int×Int×List Int}(hs:z1y m=true){i:Nat}{s:List Nat×List Nat}(h:zda m.1.toNat (ent m) i s)(k:Nat)(h2:k<s.1.length):0<qK m s k/\qK m s k<=99:=by
 by_cases e:k=0
 ·subst e
  rw[qK,if_pos rfl]
  omega
 ·exact(zde hs h (by omega) h2).1
structure T2(m:Int×Int×List Int)(s:List Nat×List Nat)(d0:List Int)(k:Nat)(d:List Int)(g:Int):Prop where
 len:d.length=m.1.toNat
 out:∀x,x<m.1.toNat->(∀k',k'<k->x≠s.1.getD k' 0)->d.getD x 0=d0.getD x 0
 val:∀k',k'<k->0<d.getD (s.1.getD k' 0) 0/\d.getD (s.1.getD k' 0) 0<=99 ^ (4+k')/\z5n (qK m s) s.1.length∣d.getD (s.1.getD k' 0) 0*z5n (qK m s) k
 tree:∀k',1<=k'->k'<k->d.getD (s.1.getD k' 0) 0*qK m s k'=d.getD (s.2.getD k' 0) 0*pK m s k'
 gcd:g=((z7z ((List.range k).map λt=>d.getD (s.1.getD t 0) 0):Nat):Int)
def T2.step{m:Int×Int×List Int}{s:List Nat×List Nat}{d0 d:List Int}{g:Int}{i k:Nat}(hs:z1y m=true)(h:zda m.1.toNat (ent m) i s)(hn:m.1.toNat<=5)(h1:1<=k)(h2:k<s.1.length)(ht:T2 m s d0 k d g) :
  (0<d.getD (s.2.getD k 0) 0*pK m s k/\d.getD (s.2.getD k 0) 0*pK m s k<=9227446944279201) /\
  (0<Int.tdiv (d.getD (s.2.getD k 0) 0*pK m s k) (qK m s k)/\Int.tdiv (d.getD (s.2.getD k 0) 0*pK m s k) (qK m s k)<=9227446944279201) /\
  T2 m s d0 (k+1) (d.set (s.1.getD k 0) (Int.tdiv (d.getD (s.2.getD k 0) 0*pK m s k) (qK m s k))) (Int.gcd g (Int.tdiv (d.getD (s.2.getD k 0) 0*pK m s k) (qK m s k))):=by
 obtain⟨⟨hq,hq9⟩,hp,hp9⟩:=zde hs h h1 h2
 obtain⟨k',h3,h4,h5⟩:=h.src k h1 h2
 obtain⟨a1,a2,a3⟩:=ht.val k' h3
 have hle:=h.le
 rw[<-h4]at a1 a2 a3
 have hH:=(z68 (zdy hs h) k (by omega)).1
 have hx:s.1.getD k 0<d.length:=by rw[ht.len];exact h.lt _ (z18 0 h2)
 have hdv:z5n (qK m s) k*qK m s k∣z5n (qK m s) s.1.length:=zr2 (qK m s) (show k+1<=s.1.length from h2)
 obtain⟨b1,b2,b3⟩:=tree_div (H:=0) hH hq hp a1 hdv a3
 have hb:d.getD (s.2.getD k 0) 0*pK m s k<=99 ^ (4+k):=by
  have:d.getD (s.2.getD k 0) 0*pK m s k<=99 ^ (4+k')*99:=Int.mul_le_mul a2 hp9 (by omega) (Int.pow_nonneg (by omega))
  rw[<-Int.pow_succ]at this
  refine Int.le_trans this ?_
  have h6:99 ^ (4+k'+1)<=99 ^ (4+k):=Nat.pow_le_pow_right (by omega) (by omega)
  exact_mod_cast h6
 have hp8:=zr3 (k:=4+k) (by omega)
 generalize hv:Int.tdiv (d.getD (s.2.getD k 0) 0*pK m s k) (qK m s k)=v at b1 b2 b3
 have hvle:v<=d.getD (s.2.getD k 0) 0*pK m s k:=by
  rw[<-b1]
  have:=Int.mul_le_mul_of_nonneg_left (show(1:Int)<=qK m s k by omega) (Int.le_of_lt b2)
  omega
 have hne:∀t,t<k->s.1.getD k 0≠s.1.getD t 0:=λt ht' e=>by
  have:=z4u h.nd h2 (by omega) e;omega
 have hget:∀t,t<k->(d.set (s.1.getD k 0) v).getD (s.1.getD t 0) 0=d.getD (s.1.getD t 0) 0:=λt ht'=>by
  rw[z1v hx,if_neg (hne t ht')]
 have hself:(d.set (s.1.getD k 0) v).getD (s.1.getD k 0) 0=v:=by rw[z1v hx,if_pos rfl]
 refine⟨⟨Int.mul_pos a1 hp,by omega⟩,⟨b2,by omega⟩,⟨?_, ?_, ?_, ?_, ?_⟩⟩
 ·rw[List.length_set,ht.len]
 ·intro x hx' hall
  rw[z1v hx,if_neg (λe=>hall k (by omega) e.symm)]
  exact ht.out x hx' (λt ht'=>hall t (by omega))
 ·intro t ht'
  by_cases e:t=k
  ·subst e
   rw[hself]
   exact⟨b2,by omega,b3⟩
  ·rw[hget t (by omega)]
   obtain⟨c1,c2,c3⟩:=ht.val t (by omega)
   refine⟨c1,c2, ?_⟩
   rw[z5n,<-Int.mul_assoc]
   exact Int.dvd_trans c3 ⟨_,rfl⟩
 ·intro t ht1 ht2
  by_cases e:t=k
  ·subst e
   rw[hself,h4,hget k' h3,<-h4]
   exact b1
  ·obtain⟨t',c1,c2,_⟩:=h.src t ht1 (by omega)
   rw[hget t (by omega),c2,hget t' (by omega),<-c2]
   exact ht.tree t ht1 (by omega)
 ·rw[List.range_succ,List.map_append,List.map_cons,List.map_nil,hself]
  rw[show(List.range k).map (λt=>(d.set (s.1.getD k 0) v).getD (s.1.getD t 0) 0)=(List.range k).map (λt=>d.getD (s.1.getD t 0) 0)from List.map_congr_left (λt ht'=>hget t (List.mem_range.1 ht'))]
  rw[ht.gcd]
  exact zns _ _ v (by omega) rfl
def T2.g_range{m:Int×Int×List Int}{s:List Nat×List Nat}{d0 d:List Int}{g:Int}{k:Nat}(h1:1<=k)(ht:T2 m s d0 k d g):0<g/\g<=9227446944279201:=by
 obtain⟨a1,a2,_⟩:=ht.val 0 (by omega)
 have hd:g∣d.getD (s.1.getD 0 0) 0:=by
  rw[ht.gcd]
  exact zdh (List.mem_map.2 ⟨0,List.mem_range.2 (by omega),rfl⟩)
 have:=Int.le_of_dvd a1 hd
 have hp:=zr3 (k:=4+0) (by omega)
 refine⟨?_,by omega⟩
 rcases Int.lt_or_le 0 g with h | h
 ·exact h
 ·have h0:0<=g:=by rw[ht.gcd];omega
  have e:g=0:=by omega
  rw[e]at hd
  have:=Int.zero_dvd.1 hd
  omega
structure T3(m:Int×Int×List Int)(s:List Nat×List Nat)(d2:List Int)(g:Int)(k:Nat)(d:List Int):Prop where
 len:d.length=m.1.toNat
 out:∀x,x<m.1.toNat->(∀k',k'<k->x≠s.1.getD k' 0)->d.getD x 0=d2.getD x 0
 val:∀k',k'<k->d.getD (s.1.getD k' 0) 0=Int.tdiv (d2.getD (s.1.getD k' 0) 0) g
def T3.step{m:Int×Int×List Int}{s:List Nat×List Nat}{d2 d:List Int}{g:Int}{k:Nat}(hnd:s.1.Nodup)(hlt:∀x∈s.1,x<m.1.toNat)(h2:k<s.1.length)(ht:T3 m s d2 g k d) :
  T3 m s d2 g (k+1) (d.set (s.1.getD k 0) (Int.tdiv (d2.getD (s.1.getD k 0) 0) g)):=by
 have hx:s.1.getD k 0<d.length:=by rw[ht.len];exact hlt _ (z18 0 h2)
 refine⟨by rw[List.length_set,ht.len], ?_, ?_⟩
 ·intro x hx' hall
  rw[z1v hx,if_neg (λe=>hall k (by omega) e.symm)]
  exact ht.out x hx' (λt ht'=>hall t (by omega))
 ·intro t ht'
  by_cases e:t=k
  ·subst e
   rw[z1v hx,if_pos rfl]
  ·rw[z1v hx,if_neg (λe'=>e (z4u hnd h2 (by omega) e').symm)]
   exact ht.val t (by omega)
def T3.cur{m:Int×Int×List Int}{s:List Nat×List Nat}{d2 d:List Int}{g:Int}{k:Nat}(hnd:s.1.Nodup)(hlt:∀x∈s.1,x<m.1.toNat)(h2:k<s.1.length)(ht:T3 m s d2 g k d) :
  d.getD (s.1.getD k 0) 0=d2.getD (s.1.getD k 0) 0 :=
 ht.out _ (hlt _ (z18 0 h2)) (λt ht' e=>by have:=z4u hnd h2 (by omega) e;omega)
def Part(n:Nat)(A:Nat->Nat->Int)(d:Nat->Int):Prop:=∀j,j<n->0<=d j/\d j<=9227446944279201 /\
 (0<d j->∃L:List Nat,j∈L/\(∀k∈L,k<n/\0<d k)/\(∀k,k<n->A j k≠0->k∈L)/\z7z (L.map d)=1/\∀e,zah n A e->∀k∈L,d j*e k=d k*e j)
def zqs{m:Int×Int×List Int}{s:List Nat×List Nat}{d0 d:List Int}{g:Int}{i:Nat}(hs:z1y m=true)(h:zda m.1.toNat (ent m) i s)(ht:T2 m s d0 s.1.length d g){e:Nat->Int}(he:zah m.1.toNat (ent m) e) :
  ∀k,k<s.1.length->d.getD i 0*e (s.1.getD k 0)=d.getD (s.1.getD k 0) 0*e i:=by
 intro k
 induction k using Nat.strongRecOn with
 | _ k ih =>
  intro hk
  by_cases h0:k=0
  ·subst h0
   rw[h.hd]
  ·obtain⟨k',h3,h4,h5⟩:=h.src k (by omega) hk
   have h6:=ih k' h3 (by omega)
   rw[<-h4]at h6
   have hlk:=h.lt _ (z18 0 hk)
   have hfk:=zio h (show 1<=k by omega) hk
   have h7:=zol (he _ hfk).1 (he _ hlk).1 ((he _ hfk).2 _ hlk)
   have h8:=ht.tree k (by omega) hk
   obtain⟨⟨hq,_⟩,hp,_⟩:=zde hs h (show 1<=k by omega) hk
   rw[show z60 (ent m (s.1.getD k 0) (s.2.getD k 0))=qK m s k by rw[qK,if_neg h0]]at h7
   have h7':e (s.2.getD k 0)*pK m s k=e (s.1.getD k 0)*qK m s k:=h7
   have h9:d.getD (s.2.getD k 0) 0*e (s.1.getD k 0)=d.getD (s.1.getD k 0) 0*e (s.2.getD k 0) :=
    zp2 (p:=pK m s k) (q:=-(qK m s k)) (by omega) (he _ hfk).1 (by rw[Int.mul_neg,Int.neg_neg];exact h8.symm) (by rw[Int.mul_neg,Int.neg_neg];exact h7') (by omega)
   have:=(he _ hfk).1
   exact zfp (by omega) h6 h9
def zr4{m:Int×Int×List Int}{s:List Nat×List Nat}{d0 d2 d:List Int}{g:Int}{i:Nat}(hs:z1y m=true)(hi:i<m.1.toNat)(h:zda m.1.toNat (ent m) i s)(hn:m.1.toNat<=5)
  (hcl:∀x∈s.1,∀j,j<m.1.toNat->ent m x j≠0->j∈s.1)
  (h0:Part m.1.toNat (ent m) (λx=>d0.getD x 0)) (hz:d0.getD i 0<=0) (h2:T2 m s d0 s.1.length d2 g) (h3:T3 m s d2 g s.1.length d) :
  Part m.1.toNat (ent m) (λx=>d.getD x 0)/\0<d.getD i 0/\∀x,x<m.1.toNat->0<d0.getD x 0->0<d.getD x 0:=by
 have hg:=h2.g_range h.pos
 have hle:=h.le
 have hnew:∀k,k<s.1.length->d0.getD (s.1.getD k 0) 0<=0:=by
  intro k
  induction k using Nat.strongRecOn with
  | _ k ih =>
   intro hk
   by_cases hk0:k=0
   ·subst hk0;rw[h.hd];exact hz
   ·obtain⟨k',a1,a2,a3⟩:=h.src k (by omega) hk
    have b1:=ih k' a1 (by omega)
    rw[<-a2]at b1
    rcases Int.lt_or_le 0 (d0.getD (s.1.getD k 0) 0)with hc | hc
    ·have hlk:=h.lt _ (z18 0 hk)
     have hfk:=zio h (show 1<=k by omega) hk
     obtain⟨L,c1,c2,c3,_⟩:=(h0 _ hlk).2.2 hc
     have b4:0<d0.getD (s.2.getD k 0) 0:=(c2 _ (c3 _ hfk (λe=>a3 ((z96 hs hlk hfk).1 e)))).2
     have b2:d0.getD (s.2.getD k 0) 0<=0:=b1
     omega
    ·exact hc
 have hin:∀x∈s.1,d.getD x 0*g=d2.getD x 0/\0<d.getD x 0/\d.getD x 0<=9227446944279201:=by
  intro x hx
  obtain⟨k,hk,rfl⟩:=z7m hx
  have a1:=h3.val k hk
  obtain⟨b1,b2,_⟩:=h2.val k hk
  have b3:g∣d2.getD (s.1.getD k 0) 0:=by
   rw[h2.gcd]
   exact zdh (List.mem_map.2 ⟨k,List.mem_range.2 hk,rfl⟩)
  have b4:d.getD (s.1.getD k 0) 0*g=d2.getD (s.1.getD k 0) 0:=by rw[a1];exact Int.tdiv_mul_cancel b3
  have b5:=zr3 (k:=4+k) (by omega)
  have b6:0<d.getD (s.1.getD k 0) 0:=by
   rcases Int.lt_or_le 0 (d.getD (s.1.getD k 0) 0)with hc | hc
   ·exact hc
   ·have:=Int.mul_nonpos_of_nonpos_of_nonneg hc (Int.le_of_lt hg.1);omega
  refine⟨b4,b6, ?_⟩
  have:=Int.mul_le_mul_of_nonneg_left (show(1:Int)<=g by omega) (Int.le_of_lt b6)
  omega
 have hout:∀x,x<m.1.toNat->x∉s.1->d.getD x 0=d0.getD x 0:=by
  intro x hx hni
  have hne:∀k',k'<s.1.length->x≠s.1.getD k' 0:=λk' hk' e=>hni (by rw[e];exact z18 0 hk')
  rw[h3.out x hx hne,h2.out x hx hne]
 have himem:i∈s.1:=by rw[<-h.hd];exact z18 0 h.pos
 refine⟨?_,(hin i himem).2.1, ?_⟩
 ·intro j hj
  by_cases hm:j∈s.1
  ·obtain⟨a1,a2,a3⟩:=hin j hm
   refine⟨Int.le_of_lt a2,a3,λ_=>⟨s.1,hm,λk hk=>⟨h.lt k hk,(hin k hk).2.1⟩,λk hk ha=>hcl j hm k hk ha, ?_, ?_⟩⟩
   ·have e1:s.1.map (λx=>g*d.getD x 0)=s.1.map (λx=>d2.getD x 0):=List.map_congr_left (λx hx=>by rw[Int.mul_comm];exact(hin x hx).1)
    have e2:=zdg g (s.1.map (λx=>d.getD x 0))
    rw[List.map_map]at e2
    have e3:z7z (s.1.map (λx=>d2.getD x 0))=g.natAbs*z7z (s.1.map (λx=>d.getD x 0)):=by rw[<-e1];exact e2
    have e4:g=((z7z (s.1.map (λx=>d2.getD x 0)):Nat):Int):=by
     rw[<-zfo s.1 (λx=>d2.getD x 0)]
     exact h2.gcd
    have e5:z7z (s.1.map (λx=>d2.getD x 0))=g.natAbs:=by
     have:=congrArg Int.natAbs e4
     simpa using this.symm
    rw[e5]at e3
    exact Nat.eq_of_mul_eq_mul_left (show 0<g.natAbs by omega) (by rw[Nat.mul_one];exact e3.symm)
   ·intro e he k hk
    have key:∀x∈s.1,d.getD i 0*e x=d.getD x 0*e i:=by
     intro x hx
     obtain⟨kx,hkx,rfl⟩:=z7m hx
     have c1:=zqs hs h h2 he kx hkx
     rw[<-(hin i himem).1,<-(hin _ hx).1]at c1
     have c2:g*(d.getD i 0*e (s.1.getD kx 0))=g*(d.getD (s.1.getD kx 0) 0*e i):=by
      rw[<-Int.mul_assoc,<-Int.mul_assoc,Int.mul_comm g,Int.mul_comm g]
      exact c1
     exact Int.eq_of_mul_eq_mul_left (by omega) c2
    have:=(he i hi).1
    exact zfp (b:=d.getD i 0) (f:=e i) (by omega) (key j hm).symm (key k hk)
  ·have e:=hout j hj hm
   obtain⟨a1,a2,a3⟩:=h0 j hj
   show 0<=d.getD j 0/\d.getD j 0<=_/\(0<d.getD j 0->_)
   rw[e]
   refine⟨a1,a2,λhpos=>?_⟩
   obtain⟨L,b1,b2,b3,b4,b5⟩:=a3 hpos
   have hL:∀k∈L,d.getD k 0=d0.getD k 0:=λk hk=>hout k (b2 k hk).1 (λhc=>by
    obtain⟨kx,hkx,e'⟩:=z7m hc
    have:=hnew kx hkx
    rw[e']at this
    have b6:0<d0.getD k 0:=(b2 k hk).2
    omega)
   refine⟨L,b1,λk hk=>⟨(b2 k hk).1,by show 0<d.getD k 0;rw[hL k hk];exact(b2 k hk).2⟩,b3, ?_, ?_⟩
   ·rw[show L.map (λx=>d.getD x 0)=L.map (λx=>d0.getD x 0)from List.map_congr_left hL];exact b4
   ·intro e' he' k hk
    show d.getD j 0*e' k=d.getD k 0*e' j
    rw[hL k hk,e]
    exact b5 e' he' k hk
 ·intro x hx hp
  by_cases hm:x∈s.1
  ·exact(hin x hm).2.1
  ·rw[hout x hx hm];exact hp
def znd{m:Int×Int×List Int}{d:List Int}(hl:d.length=m.1.toNat)(h:Part m.1.toNat (ent m) (λx=>d.getD x 0))(hp:∀x,x<m.1.toNat->0<d.getD x 0)
  (hc:∀i,i<m.1.toNat->∀j,j<m.1.toNat->d.getD i 0*ent m i j=-(d.getD j 0*ent m j i)):z4y m=d:=by
 refine zsg hl (λi hi=>⟨hp i hi,hc i hi⟩) (λi hi=>?_)
 obtain⟨L,a1,a2,a3,a4,a5⟩:=(h i hi).2.2 (hp i hi)
 exact⟨L,λk hk=>(a2 k hk).1,a4,a5⟩
def zr7{m:Int×Int×List Int}{d:List Int}(hs:z1y m=true)(h:Part m.1.toNat (ent m) (λx=>d.getD x 0))(hp:∀x,x<m.1.toNat->0<d.getD x 0){e:Nat->Int}(he:zah m.1.toNat (ent m) e)
  {i j:Nat} (hi:i<m.1.toNat) (hj:j<m.1.toNat):d.getD i 0*ent m i j=-(d.getD j 0*ent m j i):=by
 by_cases ha:ent m i j=0
 ·rw[ha,(z96 hs hi hj).1 ha];simp
 ·obtain⟨L,a1,a2,a3,a4,a5⟩:=(h i hi).2.2 (hp i hi)
  exact zj2 (he i hi).1 (he j hj).1 (a5 e he j (a3 j hj ha)) ((he i hi).2 j hj)
def zr6{m:Int×Int×List Int}{d:List Int}(hs:z1y m=true)(h:Part m.1.toNat (ent m) (λx=>d.getD x 0))(hp:∀x,x<m.1.toNat->0<d.getD x 0)
  {i j:Nat} (hi:i<m.1.toNat) (hj:j<m.1.toNat) (hc:d.getD i 0*ent m i j≠-(d.getD j 0*ent m j i)):z4y m=[]:=by
 refine znw (λ⟨e,he⟩=>hc ?_)
 by_cases ha:ent m i j=0
 ·rw[ha,(z96 hs hi hj).1 ha];simp
 ·obtain⟨L,a1,a2,a3,a4,a5⟩:=(h i hi).2.2 (hp i hi)
  exact zj2 (he i hi).1 (he j hj).1 (a5 e he j (a3 j hj ha)) ((he i hi).2 j hj)
end Go.Fw
namespace Go.Fw
def z5r(m:Int×Int×List Int):Int×Int×List Int:=(m.1,m.1,m.2.2.take (m.1*m.1).toNat)
def zip{m:Int×Int×List Int}(hd:z4q m=true):w64 (m.1*m.1)=m.1*m.1/\0<=m.1*m.1/\m.1*m.1<=25/\m.1*m.1<=(m.2.2.length:Int):=by
 obtain⟨n,r,hn,hr,hn1,hn5,hnr,hr8,hl⟩:=z13 hd
 have h1:n*n<=r*n:=Nat.mul_le_mul_right n hnr
 have h2:n*n<=5*5:=Nat.mul_le_mul hn5 hn5
 rw[hn,hl]
 have e:(n:Int)*(n:Int)=((n*n:Nat):Int):=by rw[Int.natCast_mul]
 rw[e]
 rw[z1r (by omega) (by omega)]
 exact⟨rfl,by omega,by omega,by omega⟩
end Go.Fw
set_option linter.unusedSectionVars false
namespace Go.Fw
def ze5(l:List Int)(n:Int)(i:Nat):Bool:=inK (l.getD i 0) 0 (n-1)&&!((l.take i).any λx=>decide (x=l.getD i 0))
def z4g(l:List Int)(n:Int):Bool:=decide ((l.length:Int)=n)&&(List.range l.length).all (ze5 l n)
def z6b{l:List Int}{n:Int}(h:z4g l n=true):∃L:List Nat,l=z33 L/\L.Nodup/\(∀x∈L,x<n.toNat)/\L.length=n.toNat:=by
 simp only[z4g,Bool.and_eq_true,decide_eq_true_eq,List.all_eq_true,List.mem_range,ze5,z3r]at h
 obtain⟨h1,h2⟩:=h
 have e:l=z33 (l.map Int.toNat):=by
  apply List.ext_getElem?
  intro i
  by_cases hi:i<l.length
  ·have:=(h2 i hi).1
   rw[List.getD_eq_getElem?_getD,List.getElem?_eq_getElem hi,Option.getD_some]at this
   simp only[z33,List.map_map,List.getElem?_map,List.getElem?_eq_getElem hi,Option.map_some,Function.comp]
   congr 1
   omega
  ·rw[List.getElem?_eq_none (by omega),List.getElem?_eq_none (by rw[z1p];simp;omega)]
 refine⟨l.map Int.toNat,e, ?_, ?_,by simp;omega⟩
 ·refine List.pairwise_iff_getElem.2 (λi j hi hj hij=>?_)
  have hi':i<l.length:=by simpa using hi
  have hj':j<l.length:=by simpa using hj
  have h3:=h2 j hj'
  have h4:=h2 i hi'
  rw[List.getD_eq_getElem?_getD,List.getElem?_eq_getElem hj',Option.getD_some]at h3
  rw[List.getD_eq_getElem?_getD,List.getElem?_eq_getElem hi',Option.getD_some]at h4
  simp only[List.getElem_map]
  intro hc
  have hne:l[i]=l[j]:=by omega
  have h5:=h3.2
  rw[Bool.not_eq_true',List.any_eq_false]at h5
  have:=h5 l[i] (by
   rw[List.mem_iff_getElem]
   exact⟨i,by rw[List.length_take];omega,by rw[List.getElem_take]⟩)
  simp[hne]at this
 ·intro x hx
  obtain⟨y,hy,rfl⟩:=List.mem_map.1 hx
  obtain⟨i,hi,rfl⟩:=List.getElem_of_mem hy
  have:=(h2 i hi).1
  rw[List.getD_eq_getElem?_getD,List.getElem?_eq_getElem hi,Option.getD_some]at this
  omega
def zaq:List Nat->Nat->Nat
 | [],_=>0
 | x::xs,b=>if x=b then 0 else zaq xs b+1
def z36:∀{L:List Nat} {b:Nat},b∈L->zaq L b<L.length/\L.getD (zaq L b) 0=b
 | [],b,h=>by cases h
 | x::xs,b,h=>by
  rw[zaq]
  by_cases e:x=b
  ·rw[if_pos e]
   exact⟨by simp,by simpa using e⟩
  ·rw[if_neg e]
   rcases List.mem_cons.1 h with h | h
   ·exact absurd h.symm e
   ·obtain⟨h1,h2⟩:=z36 h
    exact⟨by simp;omega,by simpa[List.getD_cons_succ]using h2⟩
def z32{L:List Nat}{n:Nat}(h1:L.Nodup)(h2:∀x∈L,x<n)(h3:L.length=n){b:Nat}(hb:b<n):b∈L:=by
 refine Classical.byContradiction λhc=>?_
 have:=zau n (b::L) (List.nodup_cons.2 ⟨hc,h1⟩) (λx hx=>by
  rcases List.mem_cons.1 hx with e | e
  ·omega
  ·exact h2 x e)
 simp at this
 omega
def z5o{L:List Nat}(h:L.Nodup){j:Nat}(hj:j<L.length):zaq L (L.getD j 0)=j:=by
 obtain⟨h1,h2⟩:=z36 (z18 (l:=L) 0 hj)
 exact z4u h h1 hj h2
def z85(n:Nat)(L:List Nat)(i:Nat):Nat:=if i<n then L.getD i 0 else i
def zfl(n:Nat)(L:List Nat)(p:Nat):Nat:=if p<n then zaq L p else p
def z7w(n:Nat)(L:List Nat)(p:Nat):Nat:=zfl n L (p / n)*n+zaq L (p%n)
def z71(m:Int×Int×List Int)(names:List Int):Int×Int×List Int:=(m.1,m.2.1,(List.range m.2.2.length).map λp=>m.2.2.getD (z7w m.1.toNat (names.map Int.toNat) p) 0)
def z3p(L:List Nat):(z33 L).map Int.toNat=L:=by
 simp only[z33,List.map_map]
 conv=>rhs;rw[<-List.map_id L]
 apply List.map_congr_left
 intro x _
 simp
def zqi(total t:Nat)(back:Nat->Nat)(F G:Nat->Int):List Int:=(List.range total).map λp=>if back p<t then F p else G p
def zao{total t:Nat}{back:Nat->Nat}{F G:Nat->Int}:(zqi total t back F G).length=total:=by simp[zqi]
def zn3{total t p:Nat}{back:Nat->Nat}{F G:Nat->Int}(hp:p<total)(hb:back p=t)(hinj:∀q,q<total->back q=t->q=p):(zqi total t back F G).set p (F p)=zqi total (t+1) back F G:=by
 apply List.ext_getElem?
 intro q
 by_cases hq:q<total
 ·by_cases e:p=q
  ·subst e
   rw[List.getElem?_set_self (by rw[zao];exact hp)]
   simp only[zqi,List.getElem?_map,List.getElem?_range hp,Option.map_some]
   rw[if_pos (by omega)]
  ·rw[List.getElem?_set_ne e]
   simp only[zqi,List.getElem?_map,List.getElem?_range hq,Option.map_some]
   have hne:back q≠t:=λh=>e (hinj q hq h).symm
   by_cases h1:back q<t
   ·rw[if_pos h1,if_pos (by omega)]
   ·rw[if_neg h1,if_neg (by omega)]
 ·rw[List.getElem?_eq_none (by rw[List.length_set,zao];omega),List.getElem?_eq_none (by rw[zao];omega)]
def ziv{total:Nat}{back:Nat->Nat}{F G:Nat->Int}:zqi total 0 back F G=(List.range total).map G:=by simp[zqi]
def ziw{total:Nat}{back:Nat->Nat}{F G:Nat->Int}(h:∀p,p<total->back p<total):zqi total total back F G=(List.range total).map F:=by
 unfold zqi
 apply List.map_congr_left
 intro i hi
 rw[if_pos (h i (List.mem_range.1 hi))]
section
variable {n r : Nat} {L : List Nat} (h1 : L.Nodup) (h2 : ∀ x ∈ L, x < n) (h3 : L.length = n) (hnr : n ≤ r)
include h1 h2 h3
theorem ziy{i:Nat}:zfl n L (z85 n L i)=i:=by
 unfold z85 zfl
 by_cases h:i<n
 ·have:=h2 _ (z18 (l:=L) (j:=i) 0 (by omega))
  rw[if_pos h,if_pos this,z5o h1 (by omega)]
 ·rw[if_neg h,if_neg h]
theorem zj0{p:Nat}:z85 n L (zfl n L p)=p:=by
 unfold z85 zfl
 by_cases h:p<n
 ·obtain⟨a,b⟩:=z36 (z32 h1 h2 h3 h)
  rw[if_pos h,if_pos (by omega),b]
 ·rw[if_neg h,if_neg h]
include hnr
theorem zlm{i:Nat}(h:i<r):z85 n L i<r:=by
 unfold z85
 split
 ·rename_i h'
  have:=h2 _ (z18 (l:=L) (j:=i) 0 (by omega))
  omega
 ·exact h
theorem zln{p:Nat}(h:p<r):zfl n L p<r:=by
 unfold zfl
 split
 ·rename_i h'
  have:=(z36 (z32 h1 h2 h3 h')).1
  omega
 ·exact h
theorem zdk{i j:Nat}(hj:j<n):z7w n L (z85 n L i*n+L.getD j 0)=i*n+j:=by
 have:=h2 _ (z18 (l:=L) (j:=j) 0 (by omega))
 unfold z7w
 rw[Nat.add_comm (z85 n L i*n),Nat.add_mul_div_right _ _ (by omega),Nat.div_eq_of_lt this,Nat.zero_add,Nat.add_mul_mod_self_right,Nat.mod_eq_of_lt this,ziy h1 h2 h3,z5o h1 (by omega)]
theorem zof{i j q:Nat}(hj:j<n)(h:z7w n L q=i*n+j):q=z85 n L i*n+L.getD j 0:=by
 have hn:0<n:=by omega
 obtain⟨a,b⟩:=z36 (z32 h1 h2 h3 (Nat.mod_lt q hn))
 unfold z7w at h
 have e1:zfl n L (q / n)=i:=by
  have:(zfl n L (q / n)*n+zaq L (q%n)) / n=(i*n+j) / n:=by rw[h]
  rw[Nat.add_comm,Nat.add_mul_div_right _ _ hn,Nat.div_eq_of_lt (by omega),Nat.zero_add,Nat.add_comm (i*n),Nat.add_mul_div_right _ _ hn,Nat.div_eq_of_lt hj,Nat.zero_add]at this
  exact this
 have e2:zaq L (q%n)=j:=by rw[e1]at h;omega
 have e3:z85 n L i=q / n:=by rw[<-e1,zj0 h1 h2 h3]
 rw[e3,<-e2,b,Nat.mul_comm]
 exact(Nat.div_add_mod q n).symm
theorem zuc{q:Nat}(hn:0<n)(h:q<r*n):z7w n L q<r*n:=by
 obtain⟨a,b⟩:=z36 (z32 h1 h2 h3 (Nat.mod_lt q hn))
 have h4:q / n<r:=(Nat.div_lt_iff_lt_mul hn).2 h
 exact z9n (zln h1 h2 h3 hnr h4) (by omega)
end
end Go.Fw
namespace Go.Fw
def insAll(k:Int)(l:List Int):List (List Int):=(List.range (l.length+1)).map λi=>zno l ((i:Nat):Int) [k]
def zfw:Nat->List (List Int)
 | 0=>[[]]
 | k+1=>(zfw k).flatMap (insAll (k:Nat))
def zbj(n:Nat):Nat->List Int->List (List Int)
 | 0,f=>[f]
 | k+1,f=>(List.range n).flatMap λx=>cond (f.any λy=>decide (y=((x:Nat):Int))) [] (zbj n k (f++[((x:Nat):Int)]))
def zgv(n:Nat)(hn:n<=5):∀(k:Nat) (f:List Int),(zbj n k f).length<=5 ^ k
 | 0,f=>Nat.le_refl _
 | k+1,f=>by
  rw[zbj,List.length_flatMap]
  have:∀(l:List Nat),((l.map λx=>(cond (f.any λy=>decide (y=((x:Nat):Int))) [] (zbj n k (f++[((x:Nat):Int)]))).length).sum)<=l.length*5 ^ k:=by
   intro l
   induction l with
   | nil=>exact Nat.zero_le _
   | cons x l ih =>
    rw[List.map_cons,List.sum_cons,List.length_cons,Nat.succ_mul]
    have h:(cond (f.any λy=>decide (y=((x:Nat):Int))) [] (zbj n k (f++[((x:Nat):Int)]))).length<=5 ^ k:=by
     cases f.any λy=>decide (y=((x:Nat):Int))
     ·exact zgv n hn k _
     ·exact Nat.zero_le _
    omega
  refine Nat.le_trans (this (List.range n)) ?_
  rw[List.length_range,Nat.pow_succ,Nat.mul_comm]
  exact Nat.mul_le_mul_left _ hn
set_option maxRecDepth 100000 in
def ze6:((List.range 6).all λn=>(zfw n).all (λo=>(zbj n n []).contains o&&z4g o n)&&(zbj n n []).all (λo=>(zfw n).contains o)&&(zfw n).contains ((List.range n).map Int.ofNat))=true:=by decide +kernel
def zas{n:Nat}(hn:n<=5)(o:List Int):o∈zfw n↔o∈zbj n n []:=by
 have h:=List.all_eq_true.1 ze6 n (List.mem_range.2 (by omega))
 simp only[Bool.and_eq_true,List.all_eq_true]at h
 obtain⟨⟨h1,h2⟩,h3⟩:=h
 exact⟨λho=>List.contains_iff_mem.1 (h1 o ho).1,λho=>List.contains_iff_mem.1 (h2 o ho)⟩
def z74{n:Nat}(hn:n<=5){o:List Int}(ho:o∈zfw n):z4g o n=true:=by
 have h:=List.all_eq_true.1 ze6 n (List.mem_range.2 (by omega))
 simp only[Bool.and_eq_true,List.all_eq_true]at h
 exact(h.1.1 o ho).2
def znh{n:Nat}(hn:n<=5):(List.range n).map Int.ofNat∈zfw n:=by
 have h:=List.all_eq_true.1 ze6 n (List.mem_range.2 (by omega))
 simp only[Bool.and_eq_true,List.all_eq_true]at h
 exact List.contains_iff_mem.1 h.2
def zq8:((List.range 6).all λn=>(List.range (n*n)).all λp=>decide (z7w n (((List.range n).map Int.ofNat).map Int.toNat) p=p))=true:=by decide +kernel
def zn9{m:Int×Int×List Int}(h:z4q m=true)(hr:m.2.1=m.1):z71 m ((List.range m.1.toNat).map Int.ofNat)=m:=by
 obtain⟨n,r,hn,hr',hn1,hn5,hnr,hr8,hl⟩:=z13 h
 have e:r=n:=by omega
 subst e
 have hb:=List.all_eq_true.1 zq8 r (List.mem_range.2 (by omega))
 rw[List.all_eq_true]at hb
 have e1:m.1.toNat=r:=by omega
 unfold z71
 rw[e1]
 refine congrArg (λz=>(m.1,m.2.1,z)) ?_
 apply List.ext_getElem?
 intro p
 by_cases hp:p<m.2.2.length
 ·rw[List.getElem?_map,List.getElem?_range hp,Option.map_some]
  have:=of_decide_eq_true (hb p (List.mem_range.2 (by omega)))
  rw[this,List.getD_eq_getElem?_getD,List.getElem?_eq_getElem hp,Option.getD_some]
 ·rw[List.getElem?_eq_none (by simp;omega),List.getElem?_eq_none (Nat.le_of_not_lt hp)]
def ordN_len:∀{n:Nat},n<=5->∀o∈zfw n,o.length=n:=λ{n} hn o ho=>by
 have:=z74 hn ho
 simp only[z4g,Bool.and_eq_true,decide_eq_true_eq]at this
 omega
def z6l:∀a:List Int,z3e a a=false
 | []=>rfl
 | x::xs=>by rw[z3e,if_pos rfl];exact z6l xs
def z5i:∀{a b c:List Int},z3e a b=true->z3e b c=true->z3e a c=true
 | [],[],_,h,_=>by cases h
 | [],_::_,[],_,h=>by cases h
 | [],_::_,_::_,_,_=>rfl
 | _::_,[],_,h,_=>by cases h
 | _::_,_::_,[],_,h=>by cases h
 | x::xs,y::ys,z::zs,h1,h2=>by
  rw[z3e]at h1 h2 ⊢
  by_cases e1:x=y
  ·subst e1
   rw[if_pos rfl]at h1
   by_cases e2:x=z
   ·rw[if_pos e2]at h2 ⊢
    exact z5i h1 h2
   ·rw[if_neg e2]at h2 ⊢
    exact h2
  ·rw[if_neg e1]at h1
   have h1:=of_decide_eq_true h1
   by_cases e2:y=z
   ·subst e2
    rw[if_neg e1]
    exact decide_eq_true h1
   ·rw[if_neg e2]at h2
    have h2:=of_decide_eq_true h2
    rw[if_neg (by omega)]
    exact decide_eq_true (by omega)
def z78:∀{a b:List Int},z3e a b=false->z3e b a=false->a=b
 | [],[],_,_=>rfl
 | [],_::_,h,_=>by cases h
 | _::_,[],_,h=>by cases h
 | x::xs,y::ys,h1,h2=>by
  rw[z3e]at h1 h2
  by_cases e:x=y
  ·subst e
   rw[if_pos rfl]at h1 h2
   rw[z78 h1 h2]
  ·rw[if_neg e]at h1
   rw[if_neg (Ne.symm e)]at h2
   have h1:=of_decide_eq_false h1
   have h2:=of_decide_eq_false h2
   omega
def za2(f:List Int->List Int)(b:List Int)(os:List (List Int)):List Int:=os.foldl (λb o=>if z3e (f o) b=true then f o else b) b
def zax(f:List Int->List Int):∀(os:List (List Int)) (b:List Int),za2 f b os=b\/∃o∈os,za2 f b os=f o
 | [],b=>.inl rfl
 | o::os,b=>by
  have e:za2 f b (o::os)=za2 f (if z3e (f o) b=true then f o else b) os:=rfl
  rw[e]
  rcases zax f os (if z3e (f o) b=true then f o else b)with h | ⟨o',h1,h2⟩
  ·rw[h]
   split
   ·exact .inr ⟨o,List.mem_cons_self ..,rfl⟩
   ·exact .inl rfl
  ·exact .inr ⟨o',List.mem_cons_of_mem _ h1,h2⟩
def zgx(f:List Int->List Int):∀(os:List (List Int)) (b:List Int),z3e b (za2 f b os)=false/\∀o∈os,z3e (f o) (za2 f b os)=false
 | [],b=>⟨z6l b,λo ho=>by cases ho⟩
 | o::os,b=>by
  have e:za2 f b (o::os)=za2 f (if z3e (f o) b=true then f o else b) os:=rfl
  rw[e]
  obtain⟨h1,h2⟩:=zgx f os (if z3e (f o) b=true then f o else b)
  generalize za2 f (if z3e (f o) b=true then f o else b) os=r at h1 h2
  have fin:z3e b r=false/\z3e (f o) r=false:=by
   by_cases h:z3e (f o) b=true
   ·rw[if_pos h]at h1
    refine⟨?_,h1⟩
    cases hc:z3e b r
    ·rfl
    ·rw[z5i h hc]at h1;cases h1
   ·rw[if_neg h]at h1
    refine⟨h1, ?_⟩
    cases hc:z3e (f o) r
    ·rfl
    ·cases hd:z3e b (f o)
     ·have:=z78 hd (by simpa using h)
      rw[this]at h1
      rw[h1]at hc;cases hc
     ·rw[z5i hd hc]at h1;cases h1
  exact⟨fin.1,λo' ho'=>by
   rcases List.mem_cons.1 ho' with rfl | ho'
   ·exact fin.2
   ·exact h2 o' ho'⟩
def zro{f:List Int->List Int}{os os':List (List Int)}{b b':List Int}(hm:∀o∈os,o∈os')(hm':∀o∈os',o∈os)(hb:∃o∈os,b=f o)(hb':∃o∈os',b'=f o):za2 f b os=za2 f b' os':=by
 have key:∀{os os':List (List Int)} {b b':List Int},(∀o∈os,o∈os')->(∃o∈os,b=f o)->z3e (za2 f b os) (za2 f b' os')=false:=by
  intro os os' b b' hm hb
  have hx:∃o∈os,za2 f b os=f o:=by
   rcases zax f os b with h | h
   ·rw[h];exact hb
   ·exact h
  obtain⟨o,ho,e⟩:=hx
  rw[e]
  exact(zgx f os' b').2 o (hm o ho)
 exact z78 (key hm hb) (key hm' hb')
def z6t(m:Int×Int×List Int)(o:List Int):List Int:=(z71 m o).2.2
def zb9(m:Int×Int×List Int):Int×Int×List Int:=(m.1,m.2.1,za2 (z6t m) m.2.2 (zbj m.1.toNat m.1.toNat []))
def minI(f:List Int->List Int):List (List Int)->List Int
 | []=>[]
 | o::os=>za2 f (f o) os
def canI(m:Int×Int×List Int):Int×Int×List Int:=(m.1,m.2.1,minI (z6t m) (zfw m.1.toNat))
def zoe{m:Int×Int×List Int}(h:z4q m=true)(hr:m.2.1=m.1):canI m=zb9 m:=by
 obtain⟨n,r,hn,hr',hn1,hn5,hnr,hr8,hl⟩:=z13 h
 have e1:m.1.toNat=n:=by omega
 unfold canI zb9
 have hid:=zn9 h hr
 rw[e1]at hid ⊢
 refine congrArg (λz=>(m.1,m.2.1,z)) ?_
 have hm:=zas hn5
 have hi:=znh hn5
 have hi':z6t m ((List.range n).map Int.ofNat)=m.2.2:=by unfold z6t;rw[hid]
 generalize zbj n n []=S at hm
 generalize hN:zfw n=O at hm hi
 cases O with
 | nil=>cases hi
 | cons o os =>
  rw[minI]
  have e:za2 (z6t m) (z6t m o) os=za2 (z6t m) (z6t m o) (o::os):=by
   show _=za2 (z6t m) (if z3e (z6t m o) (z6t m o)=true then z6t m o else z6t m o) os
   rw[ite_self]
  rw[e]
  exact zro (λo' ho'=>(hm o').1 ho') (λo' ho'=>(hm o').2 ho') ⟨o,List.mem_cons_self ..,rfl⟩ ⟨_,(hm _).1 hi,hi'.symm⟩
end Go.Fw
namespace Go.Fw
def zmb:((List.range 6).all λn=>decide ((zfw n).length<=120))=true:=by decide +kernel
def zfv{n:Nat}(hn:n<=5):(zfw n).length<=120:=of_decide_eq_true (List.all_eq_true.1 zmb n (List.mem_range.2 (by omega)))
end Go.Fw
namespace Go.Fw
def mutE(f:Bool)(a b c:Int):Int:=if f=true then -a else if 0<b/\0<c then a+b*c else if b<0/\c<0 then a-b*c else a
def mutF(m:Int×Int×List Int)(k p:Nat):Int:=mutE (decide (p / m.1.toNat=k)||decide (p%m.1.toNat=k)) (m.2.2.getD p 0) (ent m (p / m.1.toNat) k) (ent m k (p%m.1.toNat))
def z5p(m:Int×Int×List Int)(k:Nat):Int×Int×List Int:=(m.1,m.2.1,(List.range m.2.2.length).map (mutF m k))
def ztz{i j n:Nat}(h:j<n):(i*n+j) / n=i:=by
 rw[Nat.add_comm,Nat.add_mul_div_right _ _ (by omega),Nat.div_eq_of_lt h,Nat.zero_add]
def zrn{i j n:Nat}(h:j<n):(i*n+j)%n=j:=by
 rw[Nat.add_comm,Nat.add_mul_mod_self_right,Nat.mod_eq_of_lt h]
def zlt{m:Int×Int×List Int}{k i j:Nat}(hj:j<m.1.toNat):mutF m k (i*m.1.toNat+j)=mutE (decide (i=k)||decide (j=k)) (ent m i j) (ent m i k) (ent m k j):=by
 unfold mutF
 rw[ztz hj,zrn hj]
 rfl
def z8r{m:Int×Int×List Int}(hd:z4q m=true){k i j:Nat}(hi:i<m.2.1.toNat)(hj:j<m.1.toNat):ent (z5p m k) i j=mutE (decide (i=k)||decide (j=k)) (ent m i j) (ent m i k) (ent m k j):=by
 obtain⟨n,r,hn,hr,hn1,hn5,hnr,hr8,hl⟩:=z13 hd
 rw[<-zlt hj]
 show((List.range m.2.2.length).map (mutF m k)).getD (i*m.1.toNat+j) 0=_
 refine znl ?_ 0
 have:=z9n (n:=n) (r:=r) (i:=i) (j:=j) (by omega) (by omega)
 rw[hl,hn]
 exact this
def zfy{f:Bool}{a b c:Int}(ha:-99<=a/\a<=99)(hb:-99<=b/\b<=99)(hc:-99<=c/\c<=99):-9801<=b*c/\b*c<=9801:=by
 have h1:(b*c).natAbs<=99*99:=by
  rw[Int.natAbs_mul]
  exact Nat.mul_le_mul (by omega) (by omega)
 omega
def zdf{m:Int×Int×List Int}(hd:z4q m=true){k:Nat}(hk:k<m.1.toNat){d:Nat->Int}(h:zah m.1.toNat (ent m) d):zah (z5p m k).1.toNat (ent (z5p m k)) d:=by
 obtain⟨n,r,hn,hr,hn1,hn5,hnr,hr8,hl⟩:=z13 hd
 show zah m.1.toNat _ d
 intro i hi
 refine⟨(h i hi).1,λj hj=>?_⟩
 rw[z8r hd (by omega) hj,z8r hd (by omega) hi]
 have e1:=(h i hi).2 j hj
 have e2:=(h i hi).2 k hk
 have e3:=(h k hk).2 j hj
 have p1:=(h i hi).1
 have p2:=(h j hj).1
 have p3:=(h k hk).1
 have s1:=z7a h hi hk
 have s2:=z7a h hk hj
 simp only[z9g,Bool.and_eq_true,beq_iff_eq,decide_eq_decide]at s1 s2
 generalize ent m i j=a at *
 generalize ent m j i=a' at *
 generalize ent m i k=b at *
 generalize ent m k j=c at *
 generalize ent m j k=b' at *
 generalize ent m k i=c' at *
 rw[Bool.or_comm (decide (j=k))]
 cases(decide (i=k)||decide (j=k))
 ·unfold mutE
  simp only[Bool.false_eq_true,if_false]
  by_cases h1:0<b/\0<c
  ·rw[if_pos h1,if_neg (by omega),if_pos (by omega)]
   grind
  ·rw[if_neg h1]
   by_cases h2:b<0/\c<0
   ·rw[if_pos h2,if_pos (by omega)]
    grind
   ·rw[if_neg h2,if_neg (by omega),if_neg (by omega)]
    exact e1
 ·unfold mutE
  simp only[if_true]
  grind
def zih{α:Type}{n p:Nat}{F G:Nat->α}(h:F p=G p):zl6 n (p+1) F G=zl6 n p F G:=by
 unfold zl6
 apply List.map_congr_left
 intro i hi
 by_cases h1:i<p
 ·rw[if_pos h1,if_pos (by omega)]
 ·rw[if_neg h1]
  by_cases h2:i=p
  ·subst h2;rw[if_pos (by omega)];exact h
  ·rw[if_neg (by omega)]
end Go.Fw
set_option linter.defProp false
set_option linter.unusedSimpArgs false
set_option maxRecDepth 100000
namespace Go.Fw
section
variable {ρ : Type}
namespace z0l
def P(m:Int×Int×List Int)(i j:Int):Bool:=atP m i j
def g(m:Int×Int×List Int)(i j:Int):Int:=atK m i j
end z0l
namespace z0l
def Z0{ρ:Type}(N:Nat)(a:MT)(b c:Int)(kr:Int->Option ρ):Option ρ :=
 cond (lk N (inB (w64 ((w64 (b*a.1))+c)) a.2.2.length)) (
  kr (a.2.2.getD (w64 ((w64 (b*a.1))+c)).toNat 0)) none
def Spec:Prop:=∀ (v0:MT) (v1 v2:Int),Ty.bd (.pair (.int .i64) (.pair (.int .i64) (.sl 0 (.int .i64)))) v0->P v0 v1 v2=true->∃N0,∀N,N0<=N->Z0 N v0 v1 v2 (λv6=>some ((),(v6,())))=some ((),((g v0 v1 v2),()))
def ok:Spec:=λm i j hb hp=>⟨0,λN hN=>by
 obtain⟨h1,h2,h3⟩:=zog hb.2.2.1 hp
 simp only[Z0,g,atK,h1]
 rw[ct (zs8 h2 h3)]⟩
end z0l
end
end Go.Fw
namespace Go.Fw
section
variable {ρ : Type}
namespace z1x
def g(l:List Int)(n:Int):Bool:=l.any λx=>decide (x=n)
end z1x
namespace z1x
def Z1{ρ:Type}(N:Nat)(a:LI)(b:Int)(kn:LI->Int->Option ρ):Option ρ :=
 kn a b
def Z4{ρ:Type}(N:Nat)(a:LI)(b:Int)(kn:LI->I2 (Option ρ)):Option ρ :=
 kn a b 0
def Z7{ρ:Type}(N:Nat)(a:LI)(c b:Int)(kn:LI->I2 (Option ρ))(k0:Option ρ)(kr:Bool->Option ρ):Option ρ :=
 cond (lk N (decide (b<(a.length:Int))))
 (
  cond (lk N (inB b a.length)) (
   cond (lk N (decide ((a.getD b.toNat 0)=c)))
   (
    kr true)
   (
    kn a c (w64 (b+1)))) none)
 (
  k0)
def Z6L{ρ:Type}(N:Nat)(k0:Option ρ)(kr:Bool->Option ρ):Nat->LI->Int->Int->Option ρ
 | 0,_,_,_=>none
 | M+1,a,b,c=>Z7 N a b c (λa b c=>Z6L N k0 kr M a b c) k0 kr
def Z6 N a b c k0 kr:=(Z6L N k0 kr N a b c:Option ρ)
def Z5 N a b c kn kr:=(Z6 N a b c kn kr:Option ρ)
def Z3 N a b kn kr:=(Z4 N a b (λa b c=>Z5 N a b c kn kr):Option ρ)
def Z8{ρ:Type}(N:Nat) (kr:Bool->Option ρ):Option ρ :=
 kr false
def Z2 N a b kr:=(Z3 N a b (Z8 N kr) kr:Option ρ)
def Z0 N a b kr:=(Z1 N a b (λa b=>Z2 N a b kr):Option ρ)
def Spec:Prop:=∀ (v0:LI) (v1:Int),Ty.bd (.sl 0 (.int .i64)) v0->∃N0,∀N,N0<=N->Z0 N v0 v1 (λv4=>some ((),(v4,())))=some ((),((g v0 v1),()))
def loop{ρ:Type}(N:Nat)(kr:Bool->Option ρ)(n:Int)(a:List Int)(ha:a.length<=maxLen):∀(M j:Nat),j<=a.length->a.length-j<M ->
  Z6L N (kr false) kr M a n (j:Int)=kr (g (a.drop j) n):=by
 intro M
 induction M with
 | zero=>intro j _ h;omega
 | succ M ih =>
  intro j hj hM
  simp only[Z6L,Z7]
  by_cases h:j<a.length
  ·rw[ct (dt (by omega)),ct (z0u h),Int.toNat_natCast,z0w (by omega),ih (j+1) h (by omega),z2d 0 h]
   simp only[g,List.any_cons,z2c]
   cases decide (a.getD j 0=n)<;>rfl
  ·rw[cf (df (by omega)),List.drop_of_length_le (by omega)];rfl
def ok:Spec:=λa n ha=>⟨a.length+1,λN hN=>by
 simp only[Z1,Z4,Z7,Z6,Z5,Z3,Z8,Z2,Z0]
 exact(loop N (λt=>some ((),(t,()))) n a ha.1 N 0 (by omega) (by omega)).trans rfl⟩
def g_iff{l:List Int}{n:Int}:g l n=true↔n∈l:=by
 simp[g]
end z1x
end
end Go.Fw
namespace Go.Fw
section
variable {ρ : Type}
namespace z0q
def P(m:Int×Int×List Int)(i:Int):Bool:=z4q m&&(decide (0<=i)&&decide (i<m.1))
def g(m:Int×Int×List Int)(i:Int):List Int×List Int:=(z33 (zch m i.toNat).1,z33 (zch m i.toNat).2)
end z0q
namespace z0q
def Z1{ρ:Type}(N:Nat)(a:MT)(b:Int)(kn:I3 (LI->Option ρ)):Option ρ :=
 kn b a.1 a.2.1 a.2.2
def Z3{ρ:Type}(N:Nat)(a b c:Int)(d:LI)(kn:LI->I3 (LI->Option ρ)):Option ρ :=
 kn ([a]:List Int) a b c d
def Z5{ρ:Type}(N:Nat)(a:LI)(b c d:Int)(e:LI)(kn:LI->LI->I2 (LI->Option ρ)):Option ρ :=
 kn a ([b]:List Int) c d e
def Z8{ρ:Type}(N:Nat)(a b:LI)(c d:Int)(e:LI)(kn:LI->LI->I3 (LI->Option ρ)):Option ρ :=
 kn a b 0 c d e
def Z12{ρ:Type}(N:Nat)(a b:LI)(c d e:Int)(f:LI)(kn:LI->LI->I3 (LI->Option ρ))(k0:LI->LI->Option ρ):Option ρ :=
 cond (lk N (decide (c<(a.length:Int))))
 (
  kn a b c d e f)
 (
  k0 a b)
def Z16{ρ:Type}(N:Nat)(a b:LI)(c d e:Int)(f:LI)(kn:LI->LI->I4 (LI->Option ρ)):Option ρ :=
 kn a b c 0 d e f
def Z19{ρ:Type}(N:Nat)(a h:LI)(c b d e:Int)(f:LI)(kn:LI->LI->I4 (LI->Option ρ))(k2:LI->LI->I3 (LI->Option ρ)):Option ρ :=
 cond (lk N (decide (b<d)))
 (
  cond (lk N (inB c a.length)) (
   cond (lk N (z0l.P (d,(e,f)) (a.getD c.toNat 0) b)) (
    cond (lk N (!(decide ((z0l.g (d,(e,f)) (a.getD c.toNat 0) b)=0))))
    (
     cond (!(lk N ((z1x.g a b))))
     (
      cond (lk N (Nat.blt (a.length+([b]:List Int).length) 1099511627776)) (
       cond (lk N (inB c (a++([b]:List Int)).length)) (
        cond (lk N (Nat.blt (h.length+([((a++([b]:List Int)).getD c.toNat 0)]:List Int).length) 1099511627776)) (
         kn (a++([b]:List Int)) (h++([((a++([b]:List Int)).getD c.toNat 0)]:List Int)) c (w64 (b+1)) d e f) none) none) none)
     (
      kn a h c (w64 (b+1)) d e f))
    (
     kn a h c (w64 (b+1)) d e f)) none) none)
 (
  k2 a h c d e f)
def Z18L{ρ:Type}(N:Nat)(k2:LI->LI->I3 (LI->Option ρ)):Nat->LI->LI->Int->Int->Int->Int->LI->Option ρ
 | 0,_,_,_,_,_,_,_=>none
 | M+1,a,b,c,d,e,f,g=>Z19 N a b c d e f g (λa b c d e f g=>Z18L N k2 M a b c d e f g) k2
def Z18 N a b c d e f g k2:=(Z18L N k2 N a b c d e f g:Option ρ)
def Z17 N a b c d e f g kn:=(Z18 N a b c d e f g kn:Option ρ)
def Z15 N a b c d e f kn:=(Z16 N a b c d e f (λa b c g d e f=>Z17 N a b c g d e f kn):Option ρ)
def Z14 N a b c d e f kn:=(Z15 N a b c d e f kn:Option ρ)
def Z20{ρ:Type}(N:Nat)(a b:LI)(c d e:Int)(f:LI)(kn:LI->LI->I3 (LI->Option ρ)):Option ρ :=
 kn a b (w64 (c+1)) d e f
def Z13 N a b c d e f kn:=(Z14 N a b c d e f (λa b c d e f=>Z20 N a b c d e f kn):Option ρ)
def Z11 N a b c d e f kn k0:=(Z12 N a b c d e f (λa b c d e f=>Z13 N a b c d e f kn) k0:Option ρ)
def Z10L{ρ:Type}(N:Nat)(k0:LI->LI->Option ρ):Nat->LI->LI->Int->Int->Int->LI->Option ρ
 | 0,_,_,_,_,_,_=>none
 | M+1,a,b,c,d,e,f=>Z11 N a b c d e f (λa b c d e f=>Z10L N k0 M a b c d e f) k0
def Z10 N a b c d e f k0:=(Z10L N k0 N a b c d e f:Option ρ)
def Z9 N a b c d e f kn:=(Z10 N a b c d e f kn:Option ρ)
def Z7 N a b c d e kn:=(Z8 N a b c d e (λa b f c d e=>Z9 N a b f c d e kn):Option ρ)
def Z21{ρ:Type}(N:Nat)(a b:LI)(kr:LI->LI->Option ρ):Option ρ :=
 kr a b
def Z6 N a b c d e kr:=(Z7 N a b c d e (λa b=>Z21 N a b kr):Option ρ)
def Z4 N a e b c d kr:=(Z5 N a e b c d (λa f b c d=>Z6 N a f b c d kr):Option ρ)
def Z2 N a b c d kr:=(Z3 N a b c d (λe a b c d=>Z4 N e a b c d kr):Option ρ)
def Z0 N b a kr:=(Z1 N b a (λa c d e=>Z2 N a c d e kr):Option ρ)
def Spec:Prop:=∀ (v0:MT) (v1:Int),Ty.bd (.pair (.int .i64) (.pair (.int .i64) (.sl 0 (.int .i64)))) v0->P v0 v1=true->∃N0,∀N,N0<=N->Z0 N v0 v1 (λv4 v5=>some ((),(v4,(v5,()))))=some ((),((g v0 v1).1,((g v0 v1).2,())))
def inner{ρ:Type}(N:Nat)(k2:List Int->List Int->Int->Int->Int->List Int->Option ρ)(m:Int×Int×List Int)(hd:z4q m=true)(i p:Nat):∀(M j:Nat) (s:List Nat×List Nat),zda m.1.toNat (ent m) i s->p<s.1.length->j<=m.1.toNat->m.1.toNat-j<M ->
  Z18L N k2 M (z33 s.1) (z33 s.2) (p:Int) (j:Int) m.1 m.2.1 m.2.2 =
   k2 (z33 (pIn (ent m) (s.1.getD p 0) ((List.range m.1.toNat).drop j) s).1) (z33 (pIn (ent m) (s.1.getD p 0) ((List.range m.1.toNat).drop j) s).2) (p:Int) m.1 m.2.1 m.2.2:=by
 obtain⟨n,r,hn,hr,hn1,hn5,hnr,hr8,hl⟩:=z13 hd
 intro M
 induction M with
 | zero=>intro j s _ _ _ h;omega
 | succ M ih =>
  intro j s hs hp hj hM
  have hle:=hs.le
  have hlen:=hs.len
  simp only[Z18L,Z19]
  by_cases h:j<m.1.toNat
  ·have hx:s.1.getD p 0<m.1.toNat:=hs.lt _ (z18 0 hp)
   have h1:Nat.blt ((z33 s.1).length+([(j:Int)]).length) 1099511627776=true:=by
    simp[z1p,Nat.blt_eq];omega
   have h2:Nat.blt ((z33 s.2).length+([((z33 (s.1++[j])).getD (p:Int).toNat 0)]).length) 1099511627776=true:=by
    simp[z1p,Nat.blt_eq];omega
   rw[ct (dt (by omega)),ct (z0u (by rw[z1p];exact hp)),z63 h,pIn]
   simp only[Int.toNat_natCast,z3i]
   rw[ct (show z0l.P (m.1,(m.2.1,m.2.2)) _ _=true from zd9 hd (by omega) h),z0w (by rw[z0k];omega)]
   have hA:z0l.g (m.1,(m.2.1,m.2.2)) ((s.1.getD p 0:Nat):Int) (j:Int)=ent m (s.1.getD p 0) j:=z5t (by omega) _ _
   by_cases ha:ent m (s.1.getD p 0) j=0
   ·rw[cf (nf (hA.trans ha)),if_neg (λhc=>hc.1 ha)]
    exact ih (j+1) s hs hp h (by omega)
   ·rw[ct (nt (λhc=>ha (hA.symm.trans hc)))]
    by_cases hm:j∈s.1
    ·rw[cf' (by rw[z2c,z1x.g_iff.2 (znk.2 hm)];rfl),if_neg (λhc=>hc.2 hm)]
     exact ih (j+1) s hs hp h (by omega)
    ·have hf:z1x.g (z33 s.1) (j:Int)=false:=by
      cases hc:z1x.g (z33 s.1) (j:Int)
      ·rfl
      ·exact absurd (znk.1 (z1x.g_iff.1 hc)) hm
     rw[ct' (by rw[z2c,hf];rfl),ct h1,za5,ct (z0u (by rw[z1p];simp;omega)),if_pos ⟨ha,hm⟩]
     have e:(s.1++[j]).getD p 0=s.1.getD p 0:=z2n hp
     rw[z3i,e,za5]
     rw[z3i,Int.toNat_natCast,e]at h2
     rw[ct h2]
     have:=ih (j+1) (s.1++[j],s.2++[s.1.getD p 0]) (hs.step hp h ⟨ha,hm⟩) (by simp;omega) h (by omega)
     simp only[e]at this
     exact this
  ·rw[cf (df (by omega)),List.drop_of_length_le (by simp;omega),pIn]
def loop{ρ:Type}(N:Nat)(hN:10<=N)(k0:List Int->List Int->Option ρ)(m:Int×Int×List Int)(hd:z4q m=true)(i:Nat):∀(M p:Nat) (s:List Nat×List Nat),zda m.1.toNat (ent m) i s->p<=m.1.toNat->m.1.toNat-p<M ->
  Z10L N k0 M (z33 s.1) (z33 s.2) (p:Int) m.1 m.2.1 m.2.2=k0 (z33 (pGo (ent m) m.1.toNat (m.1.toNat-p) p s).1) (z33 (pGo (ent m) m.1.toNat (m.1.toNat-p) p s).2):=by
 obtain⟨n,r,hn,hr,hn1,hn5,hnr,hr8,hl⟩:=z13 hd
 intro M
 induction M with
 | zero=>intro p s _ _ h;omega
 | succ M ih =>
  intro p s hs hp hM
  have hle:=hs.le
  simp only[Z10L,Z11,Z12]
  by_cases h:p<s.1.length
  ·rw[ct (dt (by rw[z1p];omega))]
   simp only[Z13,Z14,Z15,Z16,Z17,Z18,Z20]
   have hin:=inner (ρ:=ρ) N (λa b c d e f=>Z10L N k0 M a b (w64 (c+1)) d e f) m hd i p N 0 s hs h (by omega) (by omega)
   rw[show((0:Nat):Int)=0 from rfl]at hin
   rw[hin,z0w (by rw[z0k];omega),List.drop_zero]
   obtain⟨h1,h2,h3⟩:=zgu (p:=p) (List.range m.1.toNat) s hs h (λx hx=>List.mem_range.1 hx)
   rw[ih (p+1) _ h1 (by omega) (by omega),show m.1.toNat-p=(m.1.toNat-(p+1))+1 by omega,pGo,if_pos h]
  ·rw[cf (df (by rw[z1p];omega))]
   cases hc:m.1.toNat-p with
   | zero=>rfl
   | succ f=>rw[pGo,if_neg h]
def ok:Spec:=λm i hb hp=>⟨10,λN hN=>by
 simp only[P,Bool.and_eq_true,decide_eq_true_eq]at hp
 obtain⟨hd,h0,h1⟩:=hp
 obtain⟨x,rfl⟩:=Int.eq_ofNat_of_zero_le h0
 obtain⟨n,r,hn,hr,hn1,hn5,hnr,hr8,hl⟩:=z13 hd
 simp only[Z0,Z1,Z2,Z3,Z4,Z5,Z6,Z7,Z8,Z9,Z10,Z21]
 have:=loop (ρ:=Unit×List Int×List Int×Unit) N hN (λa b=>some ((),(a,(b,())))) m hd x N 0 ([x],[x]) (zda.first (by omega)) (by omega) (by omega)
 exact this⟩
end z0q
end
end Go.Fw
namespace Go.Fw
section
variable {ρ : Type}
namespace z2l
def g(n:Int):Int:=mx n (w64 (0-n))
end z2l
namespace z2l
def Z0{ρ:Type}(N:Nat)(a:Int)(kr:Int->Option ρ):Option ρ :=
 kr (mx a (w64 (0-a)))
def Spec:Prop:=∀ (v0:Int),∃N0,∀N,N0<=N->Z0 N v0 (λv2=>some ((),(v2,())))=some ((),((g v0),()))
def ok:Spec:=λn=>⟨0,λN hN=>by
 simp only[Z0,g]⟩
end z2l
end
end Go.Fw
namespace Go.Fw
section
variable {ρ : Type}
namespace z2f
def P(a b:Int):Bool:=decide (0<=a)&&(decide (a<9223372036854775808)&&(decide (0<=b)&&decide (b<9223372036854775808)))
def g(a b:Int):Int:=(Int.gcd a b:Int)
end z2f
namespace z2f
def Z1{ρ:Type}(N:Nat)(a b:Int)(kn:I2 (Option ρ)):Option ρ :=
 kn a b
def Z5{ρ:Type}(N:Nat)(b a:Int)(kn:I2 (Option ρ))(k0:Int->Option ρ):Option ρ :=
 cond (lk N (!(decide (a=0))))
 (
  cond (lk N (!(decide (a=0)))) (
   kn a (Int.tmod b a)) none)
 (
  k0 b)
def Z4L{ρ:Type}(N:Nat)(k0:Int->Option ρ):Nat->Int->Int->Option ρ
 | 0,_,_=>none
 | M+1,a,b=>Z5 N a b (λa b=>Z4L N k0 M a b) k0
def Z4 N a b k0:=(Z4L N k0 N a b:Option ρ)
def Z3 N a b kn:=(Z4 N a b kn:Option ρ)
def Z6{ρ:Type}(N:Nat)(a:Int)(kr:Int->Option ρ):Option ρ :=
 kr a
def Z2 N a b kr:=(Z3 N a b (λa=>Z6 N a kr):Option ρ)
def Z0 N a b kr:=(Z1 N a b (λa b=>Z2 N a b kr):Option ρ)
def Spec:Prop:=∀ (v0 v1:Int),P v0 v1=true->∃N0,∀N,N0<=N->Z0 N v0 v1 (λv4=>some ((),(v4,())))=some ((),((g v0 v1),()))
def loop{ρ:Type}(N:Nat)(k0:Int->Option ρ):∀(M:Nat) (a b:Nat),b<M->Z4L N k0 M (a:Int) (b:Int)=k0 (Nat.gcd b a:Nat):=by
 intro M
 induction M with
 | zero=>intro a b h;omega
 | succ M ih =>
  intro a b hM
  simp only[Z4L,Z5]
  by_cases h:b=0
  ·subst h
   rw[cf (by simp),Nat.gcd_zero_left]
  ·rw[ct (nt (by omega)),ct (nt (by omega)),show Int.tmod (a:Int) (b:Int)=((a%b:Nat):Int)from rfl,ih _ _ (by have:=Nat.mod_lt a (Nat.pos_of_ne_zero h);omega),<-Nat.gcd_rec]
def ok:Spec:=λa b hp=>⟨b.toNat+1,λN hN=>by
 simp only[P,Bool.and_eq_true,decide_eq_true_eq]at hp
 obtain⟨h1,h2,h3,h4⟩:=hp
 obtain⟨x,rfl⟩:=Int.eq_ofNat_of_zero_le h1
 obtain⟨y,rfl⟩:=Int.eq_ofNat_of_zero_le h3
 simp only[Z1,Z5,Z4,Z3,Z6,Z2,Z0,g]
 rw[loop N _ N x y (by omega),Nat.gcd_comm]
 rfl⟩
end z2f
end
end Go.Fw
namespace Go.Fw
section
variable {ρ : Type}
namespace z02
def P(m:Int×Int×List Int):Bool:=z1y m
def g(m:Int×Int×List Int):List Int×Bool:=(z4y m,!decide (z4y m=[]))
end z02
namespace z02
def Z1{ρ:Type}(N:Nat)(a:MT)(kn:I2 (LI->Option ρ)):Option ρ :=
 kn a.1 a.2.1 a.2.2
def Z3{ρ:Type}(N:Nat)(a b:Int)(c:LI)(kn:LI->I2 (LI->Option ρ)):Option ρ :=
 cond (lk N (leB 0 a&&decide (a<1099511627776))) (
  kn (List.replicate a.toNat (0:Int)) a b c) none
def Z6{ρ:Type}(N:Nat)(a:LI)(b c:Int)(d:LI)(kn:LI->I3 (LI->Option ρ)):Option ρ :=
 kn a 0 b c d
def Z10{ρ:Type}(N:Nat)(b:LI)(c a d:Int)(e:LI)(kn:LI->I3 (LI->Option ρ))(k0:LI->I2 (LI->Option ρ)):Option ρ :=
 cond (lk N (decide (c<a)))
 (
  kn b c a d e)
 (
  k0 b a d e)
def Z14{ρ:Type}(N:Nat)(a:LI)(b c d:Int)(e:LI)(kn k1:LI->I3 (LI->Option ρ)):Option ρ :=
 cond (lk N (inB b a.length)) (
  cond (lk N (decide (0<(a.getD b.toNat 0))))
  (
   k1 a b c d e)
  (
   kn a b c d e)) none
def Z16{ρ:Type}(N:Nat)(e:LI)(a b c:Int)(d:LI)(kn:LI->LI->LI->I3 (LI->Option ρ)):Option ρ :=
 cond (lk N (z0q.P (b,(c,d)) a)) (
  kn e (z0q.g (b,(c,d)) a).1 (z0q.g (b,(c,d)) a).2 a b c d) none
def Z18{ρ:Type}(N:Nat)(b c d:LI)(a e f:Int)(g:LI)(kn:LI->LI->LI->I3 (LI->Option ρ)):Option ρ :=
 cond (lk N (inB a b.length)) (
  kn (b.set a.toNat 1) c d a e f g) none
def Z21{ρ:Type}(N:Nat)(a b c:LI)(d e f:Int)(g:LI)(kn:LI->LI->LI->I4 (LI->Option ρ)):Option ρ :=
 kn a b c d 1 e f g
def Z24{ρ:Type}(N:Nat)(d b e:LI)(c a f h:Int)(i:LI)(kn:LI->LI->LI->I4 (LI->Option ρ))(k2:LI->LI->LI->I3 (LI->Option ρ)):Option ρ :=
 cond (lk N (decide (a<(b.length:Int))))
 (
  cond (lk N (inB c d.length)) (
   cond (lk N (inB a b.length)) (
    cond (lk N (inB a e.length)) (
     cond (lk N (z0l.P (f,(h,i)) (b.getD a.toNat 0) (e.getD a.toNat 0))) (
      cond (lk N (inB c d.length)) (
       kn (d.set c.toNat (w64 ((d.getD c.toNat 0)*(z2l.g (z0l.g (f,(h,i)) (b.getD a.toNat 0) (e.getD a.toNat 0)))))) b e c (w64 (a+1)) f h i) none) none) none) none) none)
 (
  k2 d b e c f h i)
def Z23L{ρ:Type}(N:Nat)(k2:LI->LI->LI->I3 (LI->Option ρ)):Nat->LI->LI->LI->Int->Int->Int->Int->LI->Option ρ
 | 0,_,_,_,_,_,_,_,_=>none
 | M+1,a,b,c,d,e,f,g,h=>Z24 N a b c d e f g h (λa b c d e f g h=>Z23L N k2 M a b c d e f g h) k2
def Z23 N a b c d e f g h k2:=(Z23L N k2 N a b c d e f g h:Option ρ)
def Z22 N a b c d e f g h kn:=(Z23 N a b c d e f g h kn:Option ρ)
def Z20 N a b c d e f g kn:=(Z21 N a b c d e f g (λa b c d h e f g=>Z22 N a b c d h e f g kn):Option ρ)
def Z26{ρ:Type}(N:Nat)(a c d:LI)(b e f:Int)(g:LI)(kn:LI->LI->LI->I4 (LI->Option ρ)):Option ρ :=
 cond (lk N (inB b a.length)) (
  kn a c d b (a.getD b.toNat 0) e f g) none
def Z29{ρ:Type}(N:Nat)(a b c:LI)(d e f g:Int)(h:LI)(kn:LI->LI->LI->I5 (LI->Option ρ)):Option ρ :=
 kn a b c d e 1 f g h
def Z32{ρ:Type}(N:Nat)(h b c:LI)(j i a d e:Int)(f:LI)(kn:LI->LI->LI->I5 (LI->Option ρ))(k4:LI->LI->I4 (LI->Option ρ)):Option ρ :=
 let x1_:=(z2l.g (z0l.g (d,(e,f)) (b.getD a.toNat 0) (c.getD a.toNat 0)))
 let x2_:=(lk N (inB a b.length))
 let x0_:=(h.set (b.getD a.toNat 0).toNat (w64 (Int.tdiv (w64 ((h.getD (c.getD a.toNat 0).toNat 0)*(z2l.g (z0l.g (d,(e,f)) (c.getD a.toNat 0) (b.getD a.toNat 0))))) x1_)))
 cond (lk N (decide (a<(b.length:Int))))
 (
 cond x2_ (
 cond (lk N (inB a c.length)) (
 cond (lk N (inB (c.getD a.toNat 0) h.length)) (
 cond (lk N (inB a c.length)) (
 cond x2_ (
 cond x2_ (
 cond (lk N (inB a c.length)) (
 cond (lk N (z0l.P (d,(e,f)) (c.getD a.toNat 0) (b.getD a.toNat 0))) (
 cond (lk N (z0l.P (d,(e,f)) (b.getD a.toNat 0) (c.getD a.toNat 0))) (
 cond (lk N (!(decide (x1_=0)))) (
 cond (lk N (inB (b.getD a.toNat 0) h.length)) (
 cond x2_ (
 cond (lk N (inB (b.getD a.toNat 0) x0_.length)) (
 cond (lk N (z2f.P i (x0_.getD (b.getD a.toNat 0).toNat 0))) (
 kn x0_ b c j (z2f.g i (x0_.getD (b.getD a.toNat 0).toNat 0)) (w64 (a+1)) d e f) none) none) none) none) none) none) none) none) none) none) none) none) none) none)
 (
 k4 h b j i d e f)
def Z31L{ρ:Type}(N:Nat)(k4:LI->LI->I4 (LI->Option ρ)):Nat->LI->LI->LI->Int->Int->Int->Int->Int->LI->Option ρ
 | 0,_,_,_,_,_,_,_,_,_=>none
 | M+1,a,b,c,d,e,f,g,h,i=>Z32 N a b c d e f g h i (λa b c d e f g h i=>Z31L N k4 M a b c d e f g h i) k4
def Z31 N a b c d e f g h i k4:=(Z31L N k4 N a b c d e f g h i:Option ρ)
def Z30 N a b c d e f g h i kn:=(Z31 N a b c d e f g h i kn:Option ρ)
def Z28 N a b c d e f g h kn:=(Z29 N a b c d e f g h (λa b c d e i f g h=>Z30 N a b c d e i f g h kn):Option ρ)
def Z34{ρ:Type}(N:Nat)(a b:LI)(c d e f:Int)(g:LI)(kn:LI->LI->I5 (LI->Option ρ)):Option ρ :=
 kn a b c d 0 e f g
def Z37{ρ:Type}(N:Nat)(c a:LI)(e d b f g:Int)(h:LI)(kn:LI->LI->I5 (LI->Option ρ))(k6:LI->I3 (LI->Option ρ)):Option ρ :=
 cond (lk N (decide (b<(a.length:Int))))
 (
  cond (lk N (inB b a.length)) (
   cond (lk N (inB b a.length)) (
    cond (lk N (inB (a.getD b.toNat 0) c.length)) (
     cond (lk N (!(decide (d=0)))) (
      cond (lk N (inB (a.getD b.toNat 0) c.length)) (
       kn (c.set (a.getD b.toNat 0).toNat (w64 (Int.tdiv (c.getD (a.getD b.toNat 0).toNat 0) d))) a e d (w64 (b+1)) f g h) none) none) none) none) none)
 (
  k6 c e f g h)
def Z36L{ρ:Type}(N:Nat)(k6:LI->I3 (LI->Option ρ)):Nat->LI->LI->Int->Int->Int->Int->Int->LI->Option ρ
 | 0,_,_,_,_,_,_,_,_=>none
 | M+1,a,b,c,d,e,f,g,h=>Z37 N a b c d e f g h (λa b c d e f g h=>Z36L N k6 M a b c d e f g h) k6
def Z36 N a b c d e f g h k6:=(Z36L N k6 N a b c d e f g h:Option ρ)
def Z35 N a b c d e f g h kn:=(Z36 N a b c d e f g h kn:Option ρ)
def Z33 N a b c d e f g kn:=(Z34 N a b c d e f g (λa b c d h e f g=>Z35 N a b c d h e f g kn):Option ρ)
def Z27 N a b h c d e f g kn:=(Z28 N a b h c d e f g (λa b c d e f g=>Z33 N a b c d e f g kn):Option ρ)
def Z25 N a b c d e f g kn:=(Z26 N a b c d e f g (λa b c d h e f g=>Z27 N a b c d h e f g kn):Option ρ)
def Z19 N a b c d e f g kn:=(Z20 N a b c d e f g (λa b c d e f g=>Z25 N a b c d e f g kn):Option ρ)
def Z17 N a b c d e f g kn:=(Z18 N a b c d e f g (λa b c d e f g=>Z19 N a b c d e f g kn):Option ρ)
def Z15 N a b c d e kn:=(Z16 N a b c d e (λa f g b c d e=>Z17 N a f g b c d e kn):Option ρ)
def Z13 N a b c d e kn k1:=(Z14 N a b c d e (λa b c d e=>Z15 N a b c d e kn) k1:Option ρ)
def Z12 N a b c d e kn:=(Z13 N a b c d e kn kn:Option ρ)
def Z38{ρ:Type}(N:Nat)(a:LI)(b c d:Int)(e:LI)(kn:LI->I3 (LI->Option ρ)):Option ρ :=
 kn a (w64 (b+1)) c d e
def Z11 N a b c d e kn:=(Z12 N a b c d e (λa b c d e=>Z38 N a b c d e kn):Option ρ)
def Z9 N a b c d e kn k0:=(Z10 N a b c d e (λa b c d e=>Z11 N a b c d e kn) k0:Option ρ)
def Z8L{ρ:Type}(N:Nat)(k0:LI->I2 (LI->Option ρ)):Nat->LI->Int->Int->Int->LI->Option ρ
 | 0,_,_,_,_,_=>none
 | M+1,a,b,c,d,e=>Z9 N a b c d e (λa b c d e=>Z8L N k0 M a b c d e) k0
def Z8 N a b c d e k0:=(Z8L N k0 N a b c d e:Option ρ)
def Z7 N a b c d e kn:=(Z8 N a b c d e kn:Option ρ)
def Z5 N a b c d kn:=(Z6 N a b c d (λa e b c d=>Z7 N a e b c d kn):Option ρ)
def Z41{ρ:Type}(N:Nat)(a:LI)(b c:Int)(d:LI)(kn:LI->I3 (LI->Option ρ)):Option ρ :=
 kn a 0 b c d
def Z45{ρ:Type}(N:Nat)(a:LI)(b c d:Int)(e:LI)(kn:LI->I3 (LI->Option ρ))(k8:LI->Option ρ):Option ρ :=
 cond (lk N (decide (b<c)))
 (
  kn a b c d e)
 (
  k8 a)
def Z49{ρ:Type}(N:Nat)(a:LI)(b c d:Int)(e:LI)(kn:LI->I4 (LI->Option ρ)):Option ρ :=
 kn a b 0 c d e
def Z52{ρ:Type}(N:Nat)(d:LI)(a b c e:Int)(f:LI)(kn:LI->I4 (LI->Option ρ))(k10:LI->I3 (LI->Option ρ))(kr:LI->Bool->Option ρ):Option ρ :=
 cond (lk N (decide (b<c)))
 (
  cond (lk N (inB a d.length)) (
   cond (lk N (inB b d.length)) (
    cond (lk N (z0l.P (c,(e,f)) a b)) (
     cond (lk N (z0l.P (c,(e,f)) b a)) (
      cond (lk N (!(decide ((w64 ((d.getD a.toNat 0)*(z0l.g (c,(e,f)) a b)))=(w64 (0-(w64 ((d.getD b.toNat 0)*(z0l.g (c,(e,f)) b a)))))))))
      (
       kr ([]:List Int) false)
      (
       kn d a (w64 (b+1)) c e f)) none) none) none) none)
 (
  k10 d a c e f)
def Z51L{ρ:Type}(N:Nat)(k10:LI->I3 (LI->Option ρ))(kr:LI->Bool->Option ρ):Nat->LI->Int->Int->Int->Int->LI->Option ρ
 | 0,_,_,_,_,_,_=>none
 | M+1,a,b,c,d,e,f=>Z52 N a b c d e f (λa b c d e f=>Z51L N k10 kr M a b c d e f) k10 kr
def Z51 N a b c d e f k10 kr:=(Z51L N k10 kr N a b c d e f:Option ρ)
def Z50 N a b c d e f kn kr:=(Z51 N a b c d e f kn kr:Option ρ)
def Z48 N a b c d e kn kr:=(Z49 N a b c d e (λa b f c d e=>Z50 N a b f c d e kn kr):Option ρ)
def Z47 N a b c d e kn kr:=(Z48 N a b c d e kn kr:Option ρ)
def Z53{ρ:Type}(N:Nat)(a:LI)(b c d:Int)(e:LI)(kn:LI->I3 (LI->Option ρ)):Option ρ :=
 kn a (w64 (b+1)) c d e
def Z46 N a b c d e kn kr:=(Z47 N a b c d e (λa b c d e=>Z53 N a b c d e kn) kr:Option ρ)
def Z44 N a b c d e kn k8 kr:=(Z45 N a b c d e (λa b c d e=>Z46 N a b c d e kn kr) k8:Option ρ)
def Z43L{ρ:Type}(N:Nat)(k8:LI->Option ρ)(kr:LI->Bool->Option ρ):Nat->LI->Int->Int->Int->LI->Option ρ
 | 0,_,_,_,_,_=>none
 | M+1,a,b,c,d,e=>Z44 N a b c d e (λa b c d e=>Z43L N k8 kr M a b c d e) k8 kr
def Z43 N a b c d e k8 kr:=(Z43L N k8 kr N a b c d e:Option ρ)
def Z42 N a b c d e kn kr:=(Z43 N a b c d e kn kr:Option ρ)
def Z40 N a b c d kn kr:=(Z41 N a b c d (λa e b c d=>Z42 N a e b c d kn kr):Option ρ)
def Z54{ρ:Type}(N:Nat)(a:LI)(kr:LI->Bool->Option ρ):Option ρ :=
 kr a true
def Z39 N a b c d kr:=(Z40 N a b c d (λa=>Z54 N a kr) kr:Option ρ)
def Z4 N a b c d kr:=(Z5 N a b c d (λa b c d=>Z39 N a b c d kr):Option ρ)
def Z2 N a b c kr:=(Z3 N a b c (λd a b c=>Z4 N d a b c kr):Option ρ)
def Z0 N a kr:=(Z1 N a (λb c d=>Z2 N b c d kr):Option ρ)
def Spec:Prop:=∀ (v0:MT),Ty.bd (.pair (.int .i64) (.pair (.int .i64) (.sl 0 (.int .i64)))) v0->P v0=true->∃N0,∀N,N0<=N->Z0 N v0 (λv2 v3=>some ((),(v2,(v3,()))))=some ((),((g v0).1,((g v0).2,())))
def abs_eq{a:Int}(h:-99<=a/\a<=99):z2l.g a=z60 a:=by
 unfold z2l.g
 rw[z1r (by omega) (by omega),mx_eq]
 unfold z60
 omega
section
variable {ρ : Type} {N : Nat} {m : Int × Int × List Int} {s : List Nat × List Nat} {i : Nat}
def at_g(hd:0<=m.1)(a b:Nat):z0l.g (m.1,(m.2.1,m.2.2)) (a:Int) (b:Int)=ent m a b:=z5t hd a b
def at_p(hd:z4q m=true){a b:Nat}(ha:a<m.1.toNat)(hb:b<m.1.toNat):z0l.P (m.1,(m.2.1,m.2.2)) (a:Int) (b:Int)=true:=by
 obtain⟨n,r,hn,hr,hn1,hn5,hnr,hr8,hl⟩:=z13 hd
 exact zd9 hd (by omega) hb
def loop1(hs:z1y m=true)(h:zda m.1.toNat (ent m) i s)(hi:i<m.1.toNat)(k2:List Int->List Int->List Int->Int->Int->Int->List Int->Option ρ)(d0:List Int)(hd0:d0.length=m.1.toNat):∀(M k:Nat),1<=k->k<=s.1.length->s.1.length-k<M ->
  Z23L N k2 M (d0.set i (z5n (qK m s) k)) (z33 s.1) (z33 s.2) (i:Int) (k:Int) m.1 m.2.1 m.2.2=k2 (d0.set i (z5n (qK m s) s.1.length)) (z33 s.1) (z33 s.2) (i:Int) m.1 m.2.1 m.2.2:=by
 have hdim:=z1j (z26 hs)
 obtain⟨n,r,hn,hr,hn1,hn5,hnr,hr8,hl⟩:=z13 hdim
 have hle:=h.le
 intro M
 induction M with
 | zero=>intro k _ _ hM;omega
 | succ M ih =>
  intro k h1 hk hM
  simp only[Z23L,Z24]
  by_cases hlt:k<s.1.length
  ·have hb:=z68 (zdy hs h) (k+1) (by omega)
   have hp9:=zr3 (k:=k+1) (by omega)
   have e:qK m s k=z2l.g (ent m (s.1.getD k 0) (s.2.getD k 0)):=by
    rw[abs_eq (z3j (z26 hs) _ _),qK,if_neg (by omega)]
   rw[ct (dt (by rw[z1p];omega)),ct (z0u (by rw[List.length_set];omega)),ct (z0u (by rw[z1p];omega)),ct (z0u (by rw[z1p,h.len];omega))]
   simp only[Int.toNat_natCast,z3i]
   rw[ct (at_p hdim (h.lt _ (z18 0 hlt)) (zio h h1 hlt)),ct (z0u (by rw[List.length_set];omega)),List.set_set,z1v (by omega),if_pos rfl,at_g (by omega),<-e,
    show z5n (qK m s) k*qK m s k=z5n (qK m s) (k+1)from rfl,z1r (by omega) (by omega),z0w (by rw[z0k];omega)]
   exact ih (k+1) (by omega) (by omega) (by omega)
  ·rw[cf (df (by rw[z1p];omega)),show k=s.1.length by omega]
def loop2(hs:z1y m=true)(h:zda m.1.toNat (ent m) i s)(k4:List Int->List Int->Int->Int->Int->Int->List Int->Option ρ)(d0:List Int):∀(M k:Nat) (d:List Int) (g:Int),1<=k->k<=s.1.length->s.1.length-k<M->T2 m s d0 k d g ->
  ∃d' g',T2 m s d0 s.1.length d' g'/\Z31L N k4 M d (z33 s.1) (z33 s.2) (i:Int) g (k:Int) m.1 m.2.1 m.2.2=k4 d' (z33 s.1) (i:Int) g' m.1 m.2.1 m.2.2:=by
 have hdim:=z1j (z26 hs)
 obtain⟨n,r,hn,hr,hn1,hn5,hnr,hr8,hl⟩:=z13 hdim
 have hle:=h.le
 intro M
 induction M with
 | zero=>intro k _ _ _ _ hM;omega
 | succ M ih =>
  intro k d g h1 hk hM ht
  simp only[Z31L,Z32]
  by_cases hlt:k<s.1.length
  ·obtain⟨⟨a1,a2⟩,⟨b1,b2⟩,hst⟩:=ht.step hs h (by omega) h1 hlt
   obtain⟨⟨hq,_⟩,hp,_⟩:=zde hs h h1 hlt
   have hg:=ht.g_range h1
   have hx:=h.lt _ (z18 0 hlt)
   have hf:=zio h h1 hlt
   have e1:z2l.g (ent m (s.1.getD k 0) (s.2.getD k 0))=qK m s k:=by
    rw[abs_eq (z3j (z26 hs) _ _),qK,if_neg (by omega)]
   have e2:z2l.g (ent m (s.2.getD k 0) (s.1.getD k 0))=pK m s k:=by
    rw[abs_eq (z3j (z26 hs) _ _),pK]
   have c1:inB (k:Int) (z33 s.1).length=true:=z0u (by rw[z1p];omega)
   have c2:inB (k:Int) (z33 s.2).length=true:=z0u (by rw[z1p,h.len];omega)
   rw[ct (dt (by rw[z1p];omega)),ct c1,ct c2]
   simp only[Int.toNat_natCast,z3i]
   rw[ct (z0u (by rw[ht.len];exact hf)),ct c2,ct c1,ct c1,ct c2,ct (at_p hdim hf hx),ct (at_p hdim hx hf)]
   simp only[at_g (show 0<=m.1 by omega),e1,e2]
   rw[ct (nt (by omega)),ct (z0u (by rw[ht.len];exact hx)),ct c1]
   simp only[z1r (show -9223372036854775808<=d.getD (s.2.getD k 0) 0*pK m s k by omega) (by omega)]
   simp only[z1r (show -9223372036854775808<=Int.tdiv (d.getD (s.2.getD k 0) 0*pK m s k) (qK m s k) by omega) (by omega)]
   rw[ct (z0u (by rw[List.length_set,ht.len];exact hx)),z1v (by rw[ht.len];exact hx),if_pos rfl]
   rw[ct (show z2f.P g _=true by
    simp only[z2f.P,Bool.and_eq_true,decide_eq_true_eq]
    exact⟨by omega,by omega,by omega,by omega⟩),z0w (by rw[z0k];omega)]
   exact ih (k+1) _ _ (by omega) (by omega) (by omega) hst
  ·have e:k=s.1.length:=by omega
   subst e
   exact⟨d,g,ht,by rw[cf (df (by rw[z1p];omega))]⟩
def loop3(hs:z1y m=true)(h:zda m.1.toNat (ent m) i s)(k6:List Int->Int->Int->Int->List Int->Option ρ)(d0 d2:List Int)(g:Int)(h2:T2 m s d0 s.1.length d2 g):∀(M k:Nat) (d:List Int),k<=s.1.length->s.1.length-k<M->T3 m s d2 g k d ->
  ∃d',T3 m s d2 g s.1.length d'/\Z36L N k6 M d (z33 s.1) (i:Int) g (k:Int) m.1 m.2.1 m.2.2=k6 d' (i:Int) m.1 m.2.1 m.2.2:=by
 have hle:=h.le
 have hdim:=z1j (z26 hs)
 obtain⟨n,r,hn,hr,hn1,hn5,hnr,hr8,hl⟩:=z13 hdim
 have hg:=h2.g_range h.pos
 intro M
 induction M with
 | zero=>intro k _ _ hM;omega
 | succ M ih =>
  intro k d hk hM ht
  simp only[Z36L,Z37]
  by_cases hlt:k<s.1.length
  ·have hx:=h.lt _ (z18 0 hlt)
   have c1:inB (k:Int) (z33 s.1).length=true:=z0u (by rw[z1p];omega)
   have hv:=h2.val k hlt
   have hp8:=zr3 (k:=4+k) (by omega)
   have hdv:0<=Int.tdiv (d2.getD (s.1.getD k 0) 0) g/\Int.tdiv (d2.getD (s.1.getD k 0) 0) g<=9227446944279201:=by
    rw[Int.tdiv_eq_ediv_of_nonneg (by omega)]
    refine⟨Int.ediv_nonneg (by omega) (by omega), ?_⟩
    have:=Int.ediv_le_self (a:=d2.getD (s.1.getD k 0) 0) g (by omega)
    omega
   rw[ct (dt (by rw[z1p];omega)),ct c1,ct c1]
   simp only[Int.toNat_natCast,z3i]
   rw[ct (z0u (by rw[ht.len];exact hx)),ct (nt (by omega)),ct (z0u (by rw[ht.len];exact hx)),ht.cur h.nd h.lt hlt,z1r (by omega) (by omega),z0w (by rw[z0k];omega)]
   exact ih (k+1) _ (by omega) (by omega) (ht.step h.nd h.lt hlt)
  ·have e:k=s.1.length:=by omega
   subst e
   exact⟨d,ht,by rw[cf (df (by rw[z1p];omega))]⟩
def outer(hN:10<=N)(hs:z1y m=true)(k0:List Int->Int->Int->List Int->Option ρ):∀(M i:Nat) (d:List Int),i<=m.1.toNat->m.1.toNat-i<M->d.length=m.1.toNat->Part m.1.toNat (ent m) (λx=>d.getD x 0)->(∀x,x<i->0<d.getD x 0) ->
  ∃d',(d'.length=m.1.toNat/\Part m.1.toNat (ent m) (λx=>d'.getD x 0)/\∀x,x<m.1.toNat->0<d'.getD x 0)/\Z8L N k0 M d (i:Int) m.1 m.2.1 m.2.2=k0 d' m.1 m.2.1 m.2.2:=by
 have hdim:=z1j (z26 hs)
 obtain⟨n,r,hn,hr,hn1,hn5,hnr,hr8,hl⟩:=z13 hdim
 intro M
 induction M with
 | zero=>intro i _ _ hM;omega
 | succ M ih =>
  intro i d hi hM hdl hpt hpos
  simp only[Z8L,Z9,Z10]
  by_cases hlt:i<m.1.toNat
  ·rw[ct (dt (by omega))]
   simp only[Z11,Z12,Z13,Z14]
   rw[ct (z0u (by omega)),Int.toNat_natCast]
   by_cases hd:0<d.getD i 0
   ·rw[ct (dt hd)]
    simp only[Z38]
    rw[z0w (by rw[z0k];omega)]
    exact ih (i+1) d hlt (by omega) hdl hpt (λx hx=>by
     by_cases e:x=i
     ·subst e;exact hd
     ·exact hpos x (by omega))
   ·rw[cf (df hd)]
    obtain⟨h,hcl⟩:=piece_ok hlt
    simp only[Z15,Z16]
    rw[ct (show z0q.P (m.1,(m.2.1,m.2.2)) (i:Int)=true by
     simp only[z0q.P,Bool.and_eq_true,decide_eq_true_eq]
     exact⟨hdim,by omega,by omega⟩)]
    simp only[Z17,Z18]
    rw[ct (z0u (by omega)),Int.toNat_natCast]
    have eP:z0q.g (m.1,(m.2.1,m.2.2)) (i:Int)=(z33 (zch m i).1,z33 (zch m i).2):=rfl
    rw[eP]
    generalize zch m i=s at h hcl
    have hle:=h.le
    simp only[Z19,Z20,Z21,Z22,Z23]
    have l1:=loop1 (ρ:=ρ) (N:=N) hs h hlt (λa b c d e f g=>Z25 N a b c d e f g (λa b c d e=>Z38 N a b c d e (λa b c d e=>Z8L N k0 M a b c d e))) d hdl N 1 (by omega) h.pos (by omega)
    rw[show z5n (qK m s) 1=1 by simp[z5n,qK]]at l1
    rw[show(((1:Nat):Int))=1 from rfl]at l1
    rw[l1]
    simp only[Z25,Z26]
    have hset:∀v,(d.set i v).length=m.1.toNat:=λv=>by rw[List.length_set];exact hdl
    rw[ct (z0u (by rw[hset];exact hlt)),Int.toNat_natCast,z1v (by omega),if_pos rfl]
    simp only[Z27,Z28,Z29,Z30,Z31]
    have hH:=z68 (zdy hs h) s.1.length (by omega)
    have hHp:(99:Int) ^ s.1.length<=99 ^ (4+0)\/s.1.length=5:=by
     by_cases e:s.1.length=5
     ·exact Or.inr e
     ·left
      have:99 ^ s.1.length<=99 ^ (4+0):=Nat.pow_le_pow_right (by omega) (by omega)
      exact_mod_cast this
    have hH4:z5n (qK m s) s.1.length<=99 ^ (4+0):=by
     rcases hHp with hc | hc
     ·omega
     ·rw[hc]
      have q1:z5n (qK m s) 1=1:=by simp[z5n,qK]
      have b:∀k,1<=k->k<=s.1.length->z5n (qK m s) k<=99 ^ (k-1):=by
       intro k
       induction k with
       | zero=>intro h _;omega
       | succ k ihk =>
        intro _ hk
        by_cases e:k=0
        ·subst e;rw[q1];decide
        ·have c1:=ihk (by omega) (by omega)
         have c2:=zdy hs h k (by omega)
         have c3:=z68 (zdy hs h) k (by omega)
         have:z5n (qK m s) k*qK m s k<=99 ^ (k-1)*99:=Int.mul_le_mul c1 c2.2 (by omega) (Int.pow_nonneg (by omega))
         rw[<-Int.pow_succ,show(k-1).succ=k by omega]at this
         exact this
      exact b 5 (by omega) (by omega)
    have t0:T2 m s d 1 (d.set i (z5n (qK m s) s.1.length)) (z5n (qK m s) s.1.length):=by
     refine⟨hset _, ?_, ?_,λk h1 h2=>by omega, ?_⟩
     ·intro x hx hall
      rw[z1v (by omega),if_neg (λe=>hall 0 (by omega) (by rw[h.hd];exact e.symm))]
     ·intro k hk
      have e:k=0:=by omega
      subst e
      rw[h.hd,z1v (by omega),if_pos rfl]
      refine⟨hH.1,hH4,⟨z5n (qK m s) 1,rfl⟩⟩
     ·show _=((z7z [(d.set i (z5n (qK m s) s.1.length)).getD (s.1.getD 0 0) 0]:Nat):Int)
      rw[h.hd,z1v (by omega),if_pos rfl,z7z,z7z,Nat.gcd_zero_right]
      omega
    obtain⟨d2,g2,ht2,l2⟩:=loop2 (ρ:=ρ) (N:=N) hs h (λa b c d e f g=>Z33 N a b c d e f g (λa b c d e=>Z38 N a b c d e (λa b c d e=>Z8L N k0 M a b c d e))) d N 1 _ _ (by omega) h.pos (by omega) t0
    rw[show(((1:Nat):Int))=1 from rfl]at l2
    rw[l2]
    simp only[Z33,Z34,Z35,Z36]
    obtain⟨d3,ht3,l3⟩:=loop3 (ρ:=ρ) (N:=N) hs h (λa b c d e=>Z38 N a b c d e (λa b c d e=>Z8L N k0 M a b c d e)) d d2 g2 ht2 N 0 d2 (by omega) (by omega) ⟨ht2.len,λ_ _ _=>rfl,λk hk=>by omega⟩
    rw[show(((0:Nat):Int))=0 from rfl]at l3
    rw[l3]
    obtain⟨p1,p2,p3⟩:=zr4 hs hlt h (by omega) hcl hpt (by omega) ht2 ht3
    simp only[Z38]
    rw[z0w (by rw[z0k];omega)]
    exact ih (i+1) d3 hlt (by omega) ht3.len p1 (λx hx=>by
     by_cases e:x=i
     ·subst e;exact p2
     ·exact p3 x (by omega) (hpos x (by omega)))
  ·rw[cf (df (by omega))]
   exact⟨d,⟨hdl,hpt,λx hx=>hpos x (by omega)⟩,rfl⟩
def edge(m:Int×Int×List Int)(d:List Int)(i j:Nat):Prop:=d.getD i 0*ent m i j=-(d.getD j 0*ent m j i)
def edge_w(hs:z12 m=true){d:List Int}(hd:Part m.1.toNat (ent m) (λx=>d.getD x 0)){i j:Nat}(hi:i<m.1.toNat)(hj:j<m.1.toNat) :
  (w64 (d.getD i 0*ent m i j)=w64 (0-w64 (d.getD j 0*ent m j i)))↔edge m d i j:=by
 have key:∀a b:Nat,a<m.1.toNat->-913517247483640899<=d.getD a 0*ent m a b/\d.getD a 0*ent m a b<=913517247483640899:=by
  intro a b ha
  obtain⟨h1,h2,_⟩:=hd a ha
  have h3:=z3j hs a b
  have h1':0<=d.getD a 0:=h1
  have h2':d.getD a 0<=9227446944279201:=h2
  have c1:d.getD a 0*ent m a b<=d.getD a 0*99:=Int.mul_le_mul_of_nonneg_left h3.2 h1'
  have c2:d.getD a 0*(-99)<=d.getD a 0*ent m a b:=Int.mul_le_mul_of_nonneg_left h3.1 h1'
  omega
 have k1:=key i j hi
 have k2:=key j i hj
 rw[z1r (by omega) (by omega),z1r (n:=d.getD j 0*ent m j i) (by omega) (by omega),z1r (by omega) (by omega),Int.zero_sub]
 rfl
def check1(hs:z1y m=true){d:List Int}(hdl:d.length=m.1.toNat)(hd:Part m.1.toNat (ent m) (λx=>d.getD x 0))(k10:List Int->Int->Int->Int->List Int->Option ρ)(kr:List Int->Bool->Option ρ){i:Nat}(hi:i<m.1.toNat):∀(M j:Nat),j<=m.1.toNat->m.1.toNat-j<M ->
  (Z51L N k10 kr M d (i:Int) (j:Int) m.1 m.2.1 m.2.2=kr [] false/\∃j',j'<m.1.toNat/\¬ edge m d i j') \/
  (Z51L N k10 kr M d (i:Int) (j:Int) m.1 m.2.1 m.2.2=k10 d (i:Int) m.1 m.2.1 m.2.2/\∀j',j<=j'->j'<m.1.toNat->edge m d i j'):=by
 have hdim:=z1j (z26 hs)
 obtain⟨n,r,hn,hr,hn1,hn5,hnr,hr8,hl⟩:=z13 hdim
 intro M
 induction M with
 | zero=>intro j _ hM;omega
 | succ M ih =>
  intro j hj hM
  simp only[Z51L,Z52]
  by_cases hlt:j<m.1.toNat
  ·rw[ct (dt (by omega)),ct (z0u (by omega)),ct (z0u (by omega)),ct (at_p hdim hi hlt),ct (at_p hdim hlt hi)]
   have hA:z0l.g (m.1,(m.2.1,m.2.2)) (i:Int) (j:Int)=ent m i j:=at_g (by omega) _ _
   have hB:z0l.g (m.1,(m.2.1,m.2.2)) (j:Int) (i:Int)=ent m j i:=at_g (by omega) _ _
   simp only[Int.toNat_natCast,hA,hB]
   by_cases he:edge m d i j
   ·rw[cf (nf ((edge_w (z26 hs) hd hi hlt).2 he)),z0w (by rw[z0k];omega)]
    rcases ih (j+1) hlt (by omega)with hc | hc
    ·exact Or.inl hc
    ·refine Or.inr ⟨hc.1,λj' h1 h2=>?_⟩
     by_cases e:j'=j
     ·subst e;exact he
     ·exact hc.2 j' (by omega) h2
   ·rw[ct (nt (λhc=>he ((edge_w (z26 hs) hd hi hlt).1 hc)))]
    exact Or.inl ⟨rfl,j,hlt,he⟩
  ·rw[cf (df (by omega))]
   exact Or.inr ⟨rfl,λj' h1 h2=>by omega⟩
def check2(hN:10<=N)(hs:z1y m=true){d:List Int}(hdl:d.length=m.1.toNat)(hd:Part m.1.toNat (ent m) (λx=>d.getD x 0))(k8:List Int->Option ρ)(kr:List Int->Bool->Option ρ):∀(M i:Nat),i<=m.1.toNat->m.1.toNat-i<M ->
  (Z43L N k8 kr M d (i:Int) m.1 m.2.1 m.2.2=kr [] false/\∃i' j',i'<m.1.toNat/\j'<m.1.toNat/\¬ edge m d i' j') \/
  (Z43L N k8 kr M d (i:Int) m.1 m.2.1 m.2.2=k8 d/\∀i',i<=i'->i'<m.1.toNat->∀j',j'<m.1.toNat->edge m d i' j'):=by
 have hdim:=z1j (z26 hs)
 obtain⟨n,r,hn,hr,hn1,hn5,hnr,hr8,hl⟩:=z13 hdim
 intro M
 induction M with
 | zero=>intro i _ hM;omega
 | succ M ih =>
  intro i hi hM
  simp only[Z43L,Z44,Z45]
  by_cases hlt:i<m.1.toNat
  ·rw[ct (dt (by omega))]
   simp only[Z46,Z47,Z48,Z49,Z50,Z51]
   have hc:=check1 (ρ:=ρ) (N:=N) hs hdl hd (λa b c d e=>Z53 N a b c d e (λa b c d e=>Z43L N k8 kr M a b c d e)) kr hlt N 0 (by omega) (by omega)
   rw[show((0:Nat):Int)=0 from rfl]at hc
   rcases hc with⟨hc,j',h1,h2⟩ | ⟨hc,h1⟩
   ·exact Or.inl ⟨hc,i,j',hlt,h1,h2⟩
   ·rw[hc]
    simp only[Z53]
    rw[z0w (by rw[z0k];omega)]
    rcases ih (i+1) hlt (by omega)with h2 | h2
    ·exact Or.inl h2
    ·refine Or.inr ⟨h2.1,λi' h3 h4=>?_⟩
     by_cases e:i'=i
     ·subst e;exact λj' hj'=>h1 j' (by omega) hj'
     ·exact h2.2 i' (by omega) h4
  ·rw[cf (df (by omega))]
   exact Or.inr ⟨rfl,λi' h1 h2=>by omega⟩
end
def ok:Spec:=λm hb hp=>⟨10,λN hN=>by
 have hs:z1y m=true:=hp
 have hdim:=z1j (z26 hs)
 obtain⟨n,r,hn,hr,hn1,hn5,hnr,hr8,hl⟩:=z13 hdim
 simp only[Z0,Z1,Z2,Z3]
 rw[ct (by rw[zh4 (by omega),dt (by omega)];rfl)]
 simp only[Z4,Z5,Z6,Z7,Z8]
 have hz:∀x,(List.replicate m.1.toNat (0:Int)).getD x 0=0:=λx=>by
  rw[List.getD_eq_getElem?_getD,List.getElem?_replicate]
  split<;>rfl
 obtain⟨d,⟨h1,h2,h3⟩,h4⟩:=outer (ρ:=Unit×List Int×Bool×Unit) hN hs (λa b c d=>Z39 N a b c d (λt2 t3=>some ((),(t2,(t3,()))))) N 0 (List.replicate m.1.toNat 0) (by omega) (by omega) (by simp) (λj hj=>by
  show 0<=(List.replicate m.1.toNat (0:Int)).getD j 0/\(List.replicate m.1.toNat (0:Int)).getD j 0<=_/\(0<(List.replicate m.1.toNat (0:Int)).getD j 0->_)
  rw[hz]
  exact⟨by omega,by omega,λhc=>by omega⟩) (λx hx=>by omega)
 rw[show((0:Nat):Int)=0 from rfl]at h4
 rw[h4]
 simp only[Z39,Z40,Z41,Z42,Z43]
 have hc:=check2 (ρ:=Unit×List Int×Bool×Unit) hN hs h1 h2 (λd4=>Z54 N d4 (λt2 t3=>some ((),(t2,(t3,()))))) (λt2 t3=>some ((),(t2,(t3,())))) N 0 (by omega) (by omega)
 rw[show((0:Nat):Int)=0 from rfl]at hc
 rcases hc with⟨hc,i',j',h5,h6,h7⟩ | ⟨hc,h5⟩
 ·rw[hc,g,zr6 hs h2 h3 h5 h6 h7]
  rfl
 ·have h6:=znd h1 h2 h3 (λi hi j hj=>h5 i (by omega) hi j hj)
  rw[hc,g,h6]
  simp only[Z54]
  rw[df (λe=>by rw[e]at h1;simp at h1;omega)]
  rfl⟩
def fac_ex{m:Int×Int×List Int}(hs:z1y m=true)(h:∃e,zah m.1.toNat (ent m) e):z4y m≠[]:=by
 have hdim:=z1j (z26 hs)
 obtain⟨n,r,hn,hr,hn1,hn5,hnr,hr8,hl⟩:=z13 hdim
 have hz:∀x,(List.replicate m.1.toNat (0:Int)).getD x 0=0:=λx=>by
  rw[List.getD_eq_getElem?_getD,List.getElem?_replicate]
  split<;>rfl
 obtain⟨d,⟨h1,h2,h3⟩,h4⟩:=outer (ρ:=Unit) (N:=10) (Nat.le_refl _) hs (λ_ _ _ _=>none) 10 0 (List.replicate m.1.toNat 0) (by omega) (by omega) (by simp) (λj hj=>by
  show 0<=(List.replicate m.1.toNat (0:Int)).getD j 0/\(List.replicate m.1.toNat (0:Int)).getD j 0<=_/\(0<(List.replicate m.1.toNat (0:Int)).getD j 0->_)
  rw[hz]
  exact⟨by omega,by omega,λhc=>by omega⟩) (λx hx=>by omega)
 obtain⟨e,he⟩:=h
 rw[znd h1 h2 h3 (λi hi j hj=>zr7 hs h2 h3 he hi hj)]
 intro hc
 rw[hc]at h1
 simp at h1
 omega
end z02
end
end Go.Fw
namespace Go.Fw
def z7l(m:Int×Int×List Int):(z12 m&&!decide (z4y m=[]))=(z1y m&&!decide (z4y m=[])):=by
 by_cases h:z4y m=[]
 ·rw[dt h];simp
 ·cases hs:z12 m
  ·simp[z1y,hs]
  ·rw[zsf hs h]
def zjh{m:Int×Int×List Int}{k:Nat}(h:(z1y m&&!decide (z4y m=[]))=true)(hk:k<m.1.toNat):(z12 (z5p m k)&&!decide (z4y (z5p m k)=[]))=z1y (z5p m k):=by
 simp only[Bool.and_eq_true,Bool.not_eq_true',decide_eq_false_iff_not]at h
 cases hs:z1y (z5p m k)
 ·rw[z7l,hs];rfl
 ·have hd:=z1j (z26 h.1)
  have:=z02.fac_ex hs ⟨_,zdf hd hk (zdi h.2).2.1⟩
  rw[z7l,hs,df this];rfl
end Go.Fw
namespace Go.Fw
end Go.Fw
namespace Go.Fw
structure z7y(m:Int×Int×List Int)(d:Nat->Int):Prop where
 shaped:z12 m=true
 good:zah m.1.toNat (ent m) d
def z7y.sizes{m:Int×Int×List Int}{d:Nat->Int}(h:z7y m d):z1y m=true:=by
 rw[z1y,h.shaped,Bool.true_and,List.all_eq_true]
 intro i hi
 rw[List.all_eq_true]
 intro j hj
 exact z7a h.good (List.mem_range.1 hi) (List.mem_range.1 hj)
def z7y.fac{m:Int×Int×List Int}{d:Nat->Int}(h:z7y m d):z4y m≠[]:=z02.fac_ex h.sizes ⟨d,h.good⟩
def z7y.ok{m:Int×Int×List Int}{d:Nat->Int}(h:z7y m d):(z1y m&&!decide (z4y m=[]))=true:=by
 rw[h.sizes,df h.fac];rfl
def z7y.dim{m:Int×Int×List Int}{d:Nat->Int}(h:z7y m d):z4q m=true:=z1j h.shaped
def zn8{m:Int×Int×List Int}(h:(z1y m&&!decide (z4y m=[]))=true):∃d,z7y m d:=by
 simp only[Bool.and_eq_true,Bool.not_eq_true',decide_eq_false_iff_not]at h
 exact⟨_,z26 h.1,(zdi h.2).2.1⟩
def z5e{m:Int×Int×List Int}:z12 m=true↔z4q m=true/\∀x∈m.2.2,-99<=x/\x<=99:=by
 simp only[z12,entK,Bool.and_eq_true,List.all_eq_true,z3r]
def z7y.mut{m:Int×Int×List Int}{d:Nat->Int}(h:z7y m d){k:Nat}(hk:k<m.1.toNat)(hs:z1y (z5p m k)=true):z7y (z5p m k) d:=⟨z26 hs,zdf h.dim hk h.good⟩
end Go.Fw
namespace Go.Fw
def z5l{m:Int×Int×List Int}(hd:z4q m=true)(names:List Int){p q:Nat}(hp:p<m.2.1.toNat)(hq:q<m.1.toNat) :
  ent (z71 m names) p q=ent m (zfl m.1.toNat (names.map Int.toNat) p) (zaq (names.map Int.toNat) q):=by
 obtain⟨n,r,hn,hr,hn1,hn5,hnr,hr8,hl⟩:=z13 hd
 have e0:m.1.toNat=n:=by omega
 have hlt:=z9n (n:=n) (r:=r) (i:=p) (j:=q) (by omega) (by omega)
 unfold ent z71
 show((List.range m.2.2.length).map λp=>m.2.2.getD (z7w m.1.toNat (names.map Int.toNat) p) 0).getD (p*m.1.toNat+q) 0=_
 rw[List.getD_eq_getElem?_getD,List.getElem?_map,List.getElem?_range (by rw[e0];omega)]
 show m.2.2.getD (z7w m.1.toNat (names.map Int.toNat) (p*m.1.toNat+q)) 0=_
 unfold z7w
 rw[ztz hq,zrn hq]
def zac{m:Int×Int×List Int}(names:List Int)(h:z4q m=true):z4q (z71 m names)=true:=by
 simpa[z4q,z71]using h
def z7y.ren{m:Int×Int×List Int}{d:Nat->Int}(h:z7y m d){names:List Int}(hn:z4g names m.1=true):z7y (z71 m names) λp=>d (zaq (names.map Int.toNat) p):=by
 obtain⟨L,rfl,h1,h2,h3⟩:=z6b hn
 have hd:=h.dim
 obtain⟨n,r,en,hr,hn1,hn5,hnr,hr8,hl⟩:=z13 hd
 refine⟨z5e.2 ⟨zac _ hd,λx hx=>?_⟩,λu hu=>?_⟩
 ·have h0:=(z5e.1 h.shaped).2
  obtain⟨p,_,rfl⟩:=List.mem_map.1 hx
  rw[List.getD_eq_getElem?_getD]
  cases hq:m.2.2[z7w m.1.toNat ((z33 L).map Int.toNat) p]? with
  | none=>exact⟨by decide,by decide⟩
  | some y=>exact h0 y (List.mem_of_getElem? hq)
 ·have hu:u<m.1.toNat:=hu
  rw[z3p]
  have pu:=(z36 (z32 h1 h2 h3 hu)).1
  refine⟨(h.good _ (by omega)).1,λv hv=>?_⟩
  have hv:v<m.1.toNat:=hv
  have pv:=(z36 (z32 h1 h2 h3 hv)).1
  rw[z5l hd _ (by omega) hv,z5l hd _ (by omega) hu,z3p]
  unfold zfl
  rw[if_pos hu,if_pos hv]
  exact(h.good _ (by omega)).2 _ (by omega)
end Go.Fw
namespace Go.Fw
section
variable {m : Int × Int × List Int} {L : List Nat} (hd : z4q m = true) (h1 : L.Nodup) (h2 : ∀ x ∈ L, x < m.1.toNat) (h3 : L.length = m.1.toNat)
include hd h1 h2 h3
end
end Go.Fw
namespace Go.Fw
abbrev z3:Int×Int×List Int:=(0,(0,[]))
def zbk(x:Int×Int×List Int)(k:Nat):Int×Int×List Int:=zb9 (z5p x k)
def znr(S:List (Int×Int×List Int))(d:List Int):Bool:=S.any λy=>decide (y.2.2=d)
def zum(S:List (Int×Int×List Int))(y:Int×Int×List Int):List (Int×Int×List Int):=if znr S y.2.2=true then S else S++[y]
def z8b(x:Int×Int×List Int)(k:Nat)(S:List (Int×Int×List Int)):Option (List (Int×Int×List Int)) :=
 if z1y (z5p x k)=true then(if(zum S (zbk x k)).length<=100 then some (zum S (zbk x k))else none)else none
def ziz(x:Int×Int×List Int):Nat->Nat->List (Int×Int×List Int)->Option (List (Int×Int×List Int))
 | _,0,S=>some S
 | k,r+1,S=>(z8b x k S).bind (ziz x (k+1) r)
def zn6(n:Nat):Nat->Nat->List (Int×Int×List Int)->Option (List (Int×Int×List Int))
 | 0,_,_=>none
 | F+1,a,S=>if a<S.length then(ziz (S.getD a z3) 0 n S).bind (zn6 n F (a+1))else some S
def zu5(m:Int×Int×List Int):Option (List (Int×Int×List Int)):=zn6 m.1.toNat 102 0 [zb9 m]
def Fit(n:Int)(x:Int×Int×List Int):Prop:=(∃d,z7y x d)/\x.1=n/\x.2.1=n
def zfd(n:Int)(S:List (Int×Int×List Int)):Prop:=∀x∈S,Fit n x
def hasD_iff{S:List (Int×Int×List Int)}{d:List Int}:znr S d=true↔∃y∈S,y.2.2=d:=by simp[znr]
def canS_ren{m:Int×Int×List Int}(hd:z4q m=true)(hsq:m.2.1=m.1):∃o,z4g o m.1=true/\zb9 m=z71 m o:=by
 obtain⟨n,r,hn,hr',hn1,hn5,hnr,hr8,hl⟩:=z13 hd
 have e1:m.1.toNat=n:=by omega
 have hx:∀o,z71 m o=(m.1,m.2.1,z6t m o):=λo=>rfl
 rcases zax (z6t m) (zbj n n []) m.2.2 with h | ⟨o,ho,h⟩
 ·refine⟨(List.range n).map Int.ofNat, ?_, ?_⟩
  ·rw[hn];exact z74 hn5 (znh hn5)
  ·have:=zn9 hd hsq
   rw[e1]at this
   rw[this]
   unfold zb9
   rw[e1,h]
 ·refine⟨o, ?_, ?_⟩
  ·rw[hn];exact z74 hn5 ((zas hn5 o).2 ho)
  ·rw[hx]
   unfold zb9
   rw[e1,h]
def Fit.can{n:Int}{x:Int×Int×List Int}(h:Fit n x):Fit n (zb9 x):=by
 obtain⟨⟨d,hR⟩,h1,h2⟩:=h
 obtain⟨o,ho,e⟩:=canS_ren hR.dim (h2.trans h1.symm)
 exact⟨⟨_,by rw[e];exact hR.ren ho⟩,h1,h2⟩
def Fit.mut{n:Int}{x:Int×Int×List Int}(h:Fit n x){k:Nat}(hk:k<n.toNat)(hs:z1y (z5p x k)=true):Fit n (z5p x k):=by
 obtain⟨⟨d,hR⟩,h1,h2⟩:=h
 exact⟨⟨d,hR.mut (by rw[h1];exact hk) hs⟩,h1,h2⟩
def Fit.nxt{n:Int}{x:Int×Int×List Int}(h:Fit n x){k:Nat}(hk:k<n.toNat)(hs:z1y (z5p x k)=true):Fit n (zbk x k):=(h.mut hk hs).can
def Fit.dim{n:Int}{x:Int×Int×List Int}(h:Fit n x):z4q x=true:=by
 obtain⟨⟨d,hR⟩,_⟩:=h
 exact hR.dim
def Fit.shaped{n:Int}{x:Int×Int×List Int}(h:Fit n x):z12 x=true:=by
 obtain⟨⟨d,hR⟩,_⟩:=h
 exact hR.shaped
def Fit.bound{n:Int}{x:Int×Int×List Int}(h:Fit n x):1<=n/\n<=5/\(x.2.2.length:Int)=n*n:=by
 obtain⟨m,r,hn,hr',hn1,hn5,hnr,hr8,hl⟩:=z13 h.dim
 obtain⟨_,h1,h2⟩:=h
 have:r=m:=by omega
 subst this
 exact⟨by omega,by omega,by rw[hl,<-h1,hn];exact Int.natCast_mul r r⟩
def addD_fit{n:Int}{S:List (Int×Int×List Int)}{y:Int×Int×List Int}(h:zfd n S)(hy:Fit n y):zfd n (zum S y):=by
 intro x hx
 unfold zum at hx
 split at hx
 ·exact h x hx
 ·rcases List.mem_append.1 hx with hx | hx
  ·exact h x hx
  ·rw[List.mem_singleton.1 hx];exact hy
def zet{S:List (Int×Int×List Int)}{y d:Int×Int×List Int}{a:Nat}(h:a<S.length):(zum S y).getD a d=S.getD a d:=by
 unfold zum
 split
 ·rfl
 ·rw[List.getD_eq_getElem?_getD,List.getElem?_append_left h,List.getD_eq_getElem?_getD]
def addD_len{S:List (Int×Int×List Int)}{y:Int×Int×List Int}:S.length<=(zum S y).length:=by
 unfold zum
 split
 ·exact Nat.le_refl _
 ·simp
def zb3{n:Int}{S:List (Int×Int×List Int)}(h:zfd n S){a:Nat}(ha:a<S.length):Fit n (S.getD a z3):=h _ (z18 _ ha)
def zdo{n:Int}{x:Int×Int×List Int}{k:Nat}{S S':List (Int×Int×List Int)}(hS:zfd n S)(hx:Fit n x)(hk:k<n.toNat)(h:z8b x k S=some S') :
  S'=zum S (zbk x k)/\zfd n S'/\S.length<=S'.length/\S'.length<=100:=by
 unfold z8b at h
 split at h
 ·rename_i hs
  split at h
  ·rename_i hl
   injection h with h
   subst h
   exact⟨rfl,addD_fit hS (hx.nxt hk hs),addD_len,hl⟩
  ·cases h
 ·cases h
def zdd{n:Int}{x:Int×Int×List Int}(hx:Fit n x):∀(r k:Nat) {S S':List (Int×Int×List Int)},k+r=n.toNat->zfd n S->S.length<=100->ziz x k r S=some S' ->
  zfd n S'/\S.length<=S'.length/\S'.length<=100/\∀a d,a<S.length->S'.getD a d=S.getD a d
 | 0,k,S,S',_,hS,hl,h=>by
  injection h with h
  subst h
  exact⟨hS,Nat.le_refl _,hl,λ_ _ _=>rfl⟩
 | r+1,k,S,S',hk,hS,hl,h=>by
  obtain⟨S1,h1,h2⟩:=Option.bind_eq_some_iff.1 (show(z8b x k S).bind (ziz x (k+1) r)=some S' from h)
  obtain⟨e,f1,f2,f3⟩:=zdo hS hx (by omega) h1
  obtain⟨g1,g2,g3,g4⟩:=zdd hx r (k+1) (by omega) f1 f3 h2
  refine⟨g1,Nat.le_trans f2 g2,g3,λa d ha=>?_⟩
  rw[g4 a d (by omega),e,zet ha]
end Go.Fw
namespace Go.Fw
def leD(a b:List Int):Bool:=!z3e b a
def z4f(l:List (List Int)):Prop:=l.Pairwise λa b=>leD a b=true
def zb1(a b c:List Int)(h1:leD a b=true)(h2:leD b c=true):leD a c=true:=by
 simp only[leD,Bool.not_eq_true']at *
 cases h:z3e c a
 ·rfl
 cases h3:z3e a b
 ·have:=z78 h3 h1
  subst this
  rw[h2]at h;cases h
 ·rw[z5i h h3]at h2;cases h2
def zjo(a b:List Int):(leD a b||leD b a)=true:=by
 simp only[leD]
 cases h:z3e b a
 ·rfl
 cases h2:z3e a b
 ·rfl
 ·have:=z5i h h2
  rw[z6l]at this;cases this
def leD_anti{a b:List Int}(h1:leD a b=true)(h2:leD b a=true):a=b:=by
 simp only[leD,Bool.not_eq_true']at h1 h2
 exact z78 h2 h1
def zdq:∀{l l':List (List Int)},l.Perm l'->z4f l->z4f l'->l=l'
 | [],l',h,_,_=>(List.Perm.nil_eq h)
 | a::l,[],h,_,_=>by simpa using h.length_eq
 | a::l,b::l',h,h1,h2=>by
  have e:a=b:=by
   rcases List.mem_cons.1 (h.mem_iff.1 List.mem_cons_self)with e | ha
   ·exact e
   rcases List.mem_cons.1 (h.mem_iff.2 List.mem_cons_self)with e | hb
   ·exact e.symm
   exact leD_anti ((List.pairwise_cons.1 h1).1 b hb) ((List.pairwise_cons.1 h2).1 a ha)
  subst e
  rw[zdq (List.Perm.cons_inv h) (List.pairwise_cons.1 h1).2 (List.pairwise_cons.1 h2).2]
def zit(l:List (List Int)):List (List Int):=l.mergeSort leD
def z95(l:List (List Int)):(zit l).Perm l:=List.mergeSort_perm l leD
def zis(l:List (List Int)):z4f (zit l):=List.pairwise_mergeSort zb1 zjo l
def zn2{l l':List (List Int)}(h:l'.Perm l)(hs:z4f l'):l'=zit l:=zdq (h.trans (z95 l).symm) hs (zis l)
def zd0(s:Nat):Nat->List (List Int)->List (List Int)
 | 0,l=>l
 | F+1,l=>if l=[]then[]else(l.take s).merge ((l.drop s).take s) leD++zd0 s F (l.drop (2*s))
def BlkD(s:Nat)(l:List (List Int)):Prop:=∀k,z4f ((l.drop (s*k)).take s)
def zji(a b:List (List Int)):(a.merge b leD).length=a.length+b.length:=by
 simp
def ze0{s:Nat}(hs:0<s):∀(F:Nat) (l:List (List Int)),l.length<=F->BlkD s l->(zd0 s F l).Perm l/\BlkD (2*s) (zd0 s F l)
 | 0,l,h,hb=>by
  have:l=[]:=List.eq_nil_of_length_eq_zero (by omega)
  subst this
  exact⟨List.Perm.refl _,λk=>by simp[zd0,z4f]⟩
 | F+1,l,h,hb=>by
  unfold zd0
  by_cases hl:l=[]
  ·subst hl
   rw[if_pos rfl]
   exact⟨List.Perm.refl _,λk=>by simp[z4f]⟩
  rw[if_neg hl]
  have hpos:0<l.length:=List.length_pos_iff.2 hl
  have hb2:BlkD s (l.drop (2*s)):=λk=>by
   have:=hb (k+2)
   rw[List.drop_drop,show 2*s+s*k=s*(k+2) by rw[Nat.mul_add,Nat.mul_comm s 2];omega]
   exact this
  obtain⟨p1,p2⟩:=ze0 hs F (l.drop (2*s)) (by simp;omega) hb2
  have e1:z4f (l.take s):=by simpa using hb 0
  have e2:z4f ((l.drop s).take s):=by simpa using hb 1
  have hm:z4f ((l.take s).merge ((l.drop s).take s) leD):=List.pairwise_merge zb1 zjo _ _ e1 e2
  have hml:((l.take s).merge ((l.drop s).take s) leD).length=min (2*s) l.length:=by
   rw[zji];simp;omega
  refine⟨?_,λk=>?_⟩
  ·have q1:=(List.merge_perm_append (xs:=l.take s) (ys:=(l.drop s).take s) (le:=leD)).append p1
   refine q1.trans ?_
   have:l.take s++(l.drop s).take s++l.drop (2*s)=l:=by
    rw[List.append_assoc,show l.drop (2*s)=(l.drop s).drop s by rw[List.drop_drop];congr 1;omega,List.take_append_drop,List.take_append_drop]
   rw[this]
  ·cases k with
   | zero =>
    rw[Nat.mul_zero,List.drop_zero]
    by_cases h2:2*s<=l.length
    ·rw[List.take_append_of_le_length (by omega),List.take_of_length_le (by omega)]
     exact hm
    ·have:l.drop (2*s)=[]:=List.drop_of_length_le (by omega)
     have e3:zd0 s F (l.drop (2*s))=[]:=by
      rw[this]at p1 ⊢
      exact List.Perm.eq_nil p1
     rw[e3,List.append_nil]
     exact hm.sublist (List.take_sublist _ _)
   | succ k =>
    by_cases h2:2*s<=l.length
    ·have:=p2 k
     rw[show 2*s*(k+1)=2*s+2*s*k by rw[Nat.mul_add];omega,<-List.drop_drop,List.drop_append_of_le_length (by omega),List.drop_of_length_le (by omega:_<=2*s),List.nil_append]
     exact this
    ·have:l.drop (2*s)=[]:=List.drop_of_length_le (by omega)
     have e3:zd0 s F (l.drop (2*s))=[]:=by
      rw[this]at p1 ⊢
      exact List.Perm.eq_nil p1
     rw[e3,List.append_nil,List.drop_of_length_le (by rw[hml];have:2*s<=2*s*(k+1):=Nat.le_mul_of_pos_right _ (Nat.succ_pos k);omega)]
     simp[z4f]
def blk_one(l:List (List Int)):BlkD 1 l:=λk=>by
 unfold z4f
 rcases h:l.drop (1*k)with _ | ⟨a,r⟩
 ·simp
 ·simp
def blk_all{s:Nat}{l:List (List Int)}(h:BlkD s l)(hs:l.length<=s):z4f l:=by
 have:=h 0
 rwa [Nat.mul_zero,List.drop_zero,List.take_of_length_le hs]at this
end Go.Fw
namespace Go.Fw
def okC3(m:Int×Int×List Int):Bool:=(z1y m&&!decide (z4y m=[]))&&decide (m.2.1=m.1)
def mcL(n:Int)(S:List (Int×Int×List Int)):List (Int×Int×List Int):=(zit (S.map (·.2.2))).map λd=>(n,(n,d))
def mcK(m:Int×Int×List Int):List (Int×Int×List Int)×Bool :=
 if okC3 m=true then(match zu5 m with
  | some S=>(mcL m.1 S,true)
  | none=>([],false))else([],false)
def zni{m:Int×Int×List Int}(hp:okC3 m=true):Fit m.1 m:=by
 simp only[okC3,Bool.and_eq_true,decide_eq_true_eq]at hp
 obtain⟨d,hR⟩:=zn8 (m:=m) (by simpa using hp.1)
 exact⟨⟨d,hR⟩,rfl,hp.2⟩
def zn5{n:Int}:∀(F a:Nat) {S S':List (Int×Int×List Int)},zfd n S->S.length<=100->zn6 n.toNat F a S=some S'->zfd n S'/\S.length<=S'.length/\S'.length<=100
 | 0,a,S,S',_,_,h=>by cases h
 | F+1,a,S,S',hS,hl,h=>by
  have e1:zn6 n.toNat (F+1) a S=if a<S.length then(ziz (S.getD a z3) 0 n.toNat S).bind (zn6 n.toNat F (a+1))else some S:=rfl
  rw[e1]at h
  split at h
  ·rename_i ha
   obtain⟨S1,h1,h2⟩:=Option.bind_eq_some_iff.1 h
   obtain⟨f1,f2,f3,f4⟩:=zdd (zb3 hS ha) n.toNat 0 (by omega) hS hl h1
   obtain⟨g1,g2,g3⟩:=zn5 F _ f1 f3 h2
   exact⟨g1,Nat.le_trans f2 g2,g3⟩
  ·injection h with h
   subst h
   exact⟨hS,Nat.le_refl _,hl⟩
def zmf{m:Int×Int×List Int}(hp:okC3 m=true){S:List (Int×Int×List Int)}(h:zu5 m=some S):zfd m.1 S/\1<=S.length/\S.length<=100 :=
 zn5 _ _ (λx hx=>by rw[List.mem_singleton.1 hx];exact(zni hp).can) (by simp) h
def Fit.len{n:Int}{x:Int×Int×List Int}(h:Fit n x):1<=x.2.2.length/\x.2.2.length<=25:=by
 obtain⟨b1,b2,b3⟩:=h.bound
 have h1:n*n<=5*5:=Int.mul_le_mul b2 b2 (by omega) (by omega)
 have h2:1*1<=n*n:=Int.mul_le_mul b1 b1 (by omega) (by omega)
 omega
def Fit.ents{n:Int}{x:Int×Int×List Int}(h:Fit n x):∀u∈x.2.2,-99<=u/\u<=99:=by
 obtain⟨⟨d,hR⟩,_⟩:=h
 exact(z5e.1 hR.shaped).2
def mcL_eq{n:Int}{S S':List (Int×Int×List Int)}(hS:zfd n S)(hp:S'.Perm S)(hs:z4f (S'.map (·.2.2))):S'=mcL n S:=by
 unfold mcL
 rw[<-zn2 (hp.map _) hs,List.map_map]
 refine((List.map_congr_left λx hx=>?_).trans (List.map_id _)).symm
 obtain⟨_,h1,h2⟩:=hS x (hp.mem_iff.1 hx)
 obtain⟨a,b,c⟩:=x
 simp only at h1 h2
 subst h1 h2
 rfl
end Go.Fw
namespace Go.Fw
def z3g(x:Int×Int×List Int)(i j:Nat):Int:=ent x i j*ent x j i
def z8e(x:Int×Int×List Int):Bool:=(List.range' 0 x.1.toNat).all λi=>(List.range' 0 x.1.toNat).all λj=>!decide (z3g x i j < -3)
def ziu(x:Int×Int×List Int):Bool:=(List.range' 0 x.1.toNat).all λi=>(List.range' 0 i).all λj=>!decide (3<max (z3g x i j) (-(z3g x i j)))
def sqK(m:Int×Int×List Int):Int×Int×List Int:=if(z1y m&&!decide (z4y m=[]))=true then z5r m else(0,0,[])
def ftK(m:Int×Int×List Int):List (Int×Int×List Int)×Bool :=
 if((mcK (sqK m)).2&&(mcK (sqK m)).1.all z8e)=true then((mcK (sqK m)).1,true)else([],false)
def Fit.skew{n:Int}{x:Int×Int×List Int}(h:Fit n x){i j:Nat}(hi:i<n.toNat)(hj:j<n.toNat):z9g (ent x i j) (ent x j i)=true:=by
 obtain⟨⟨d,hR⟩,h1,h2⟩:=h
 exact z7a hR.good (by rw[h1];exact hi) (by rw[h1];exact hj)
def zqx{a b:Int}(h:z9g a b=true):a*b<=0:=by
 simp only[z9g,Bool.and_eq_true,beq_iff_eq,decide_eq_decide]at h
 obtain⟨h1,h2⟩:=h
 by_cases ha:0<a
 ·exact Int.mul_nonpos_of_nonneg_of_nonpos (by omega) (by have:=h1.1 ha;omega)
 ·by_cases h0:a=0
  ·rw[h0];simp
  ·have:0<b:=by
    by_cases hb:b<0
    ·exact absurd (h1.2 hb) ha
    ·by_cases hb0:b=0
     ·exact absurd (h2.2 hb0) h0
     ·omega
   exact Int.mul_nonpos_of_nonpos_of_nonneg (by omega) (by omega)
def zp3{n:Int}{x:Int×Int×List Int}(h:Fit n x)(i j:Nat):-9801<=z3g x i j/\z3g x i j<=9801:=by
 have key:∀i j,-99<=ent x i j/\ent x i j<=99:=λi j=>by
  unfold ent
  rw[List.getD_eq_getElem?_getD]
  cases hq:x.2.2[i*x.1.toNat+j]? with
  | none=>simp
  | some u=>exact h.ents u (List.mem_of_getElem? hq)
 have h1:=key i j
 have h2:=key j i
 unfold z3g
 generalize ent x i j=a at *
 generalize ent x j i=b at *
 have:(a*b).natAbs<=99*99:=by
  rw[Int.natAbs_mul]
  exact Nat.mul_le_mul (by omega) (by omega)
 omega
def zoy{n:Int}{x:Int×Int×List Int}(h:Fit n x):ziu x=z8e x:=by
 have h1:=h.2.1
 have le0:∀i j,i<n.toNat->j<n.toNat->z3g x i j<=0:=λi j hi hj=>zqx (h.skew hi hj)
 have sym:∀i j,z3g x i j=z3g x j i:=λi j=>Int.mul_comm _ _
 rw[Bool.eq_iff_iff]
 simp only[ziu,z8e,List.all_eq_true,Bool.not_eq_true',decide_eq_false_iff_not,List.mem_range'_1,Nat.zero_le,true_and,Nat.zero_add,h1]
 constructor
 ·intro H i' hi j' hj
  by_cases e:j'<i'
  ·have:=H i' hi j' e
   have:=le0 i' j' hi hj
   omega
  ·by_cases e2:i'<j'
   ·have:=H j' hj i' e2
    have:=le0 i' j' hi hj
    rw[sym j' i']at *
    omega
   ·have e3:i'=j':=by omega
    subst e3
    have:=h.skew hi hi
    have h0:ent x i' i'=0:=by
     simp only[z9g,Bool.and_eq_true,beq_iff_eq,decide_eq_decide]at this
     omega
    have:z3g x i' i'=0:=by unfold z3g;rw[h0];rfl
    omega
 ·intro H i' hi j' hj
  have:=H i' hi j' (by omega)
  have:=le0 i' j' hi (by omega)
  omega
def mem_mcL{n:Int}{S:List (Int×Int×List Int)}(hS:zfd n S){x:Int×Int×List Int}(h:x∈mcL n S):x∈S:=by
 obtain⟨d,hd,rfl⟩:=List.mem_map.1 h
 obtain⟨y,hy,rfl⟩:=List.mem_map.1 ((z95 _).mem_iff.1 hd)
 obtain⟨_,h1,h2⟩:=hS y hy
 obtain⟨a,b,c⟩:=y
 simp only at h1 h2
 subst h1 h2
 exact hy
def zrp{n:Int}{S:List (Int×Int×List Int)}:(mcL n S).length=S.length:=by
 unfold mcL
 rw[List.length_map,(z95 _).length_eq,List.length_map]
def zrq{m:Int×Int×List Int}(h:(mcK m).2=true):okC3 m=true/\zfd m.1 (mcK m).1/\1<=(mcK m).1.length/\(mcK m).1.length<=100:=by
 unfold mcK at h ⊢
 cases hp:okC3 m
 ·rw[hp]at h;cases h
 rw[hp]at h
 simp only[if_true]at h ⊢
 cases hc:zu5 m with
 | none=>rw[hc]at h;cases h
 | some S =>
  obtain⟨f1,f2,f3⟩:=zmf hp hc
  refine⟨trivial,λx hx=>f1 x (mem_mcL f1 hx), ?_, ?_⟩
  ·show 1<=(mcL m.1 S).length
   rw[zrp];exact f2
  ·show(mcL m.1 S).length<=100
   rw[zrp];exact f3
end Go.Fw
namespace Go.Fw
def zlc(A:Nat->Nat->Int)(L:List Nat)(num den:List Int)(x k:Nat):Prop:=(A x k=0/\A k x=0)\/(k∈L/\num.getD x 0*A x k*den.getD k 0=-(num.getD k 0*A k x*den.getD x 0))
structure zid(n:Nat)(A:Nat->Nat->Int)(s:Nat)(num0:List Int)(L:List Nat)(num den:List Int):Prop where
 nl:num.length=n
 dl:den.length=n
 nd:L.Nodup
 lt:∀x∈L,x<n
 hd:L.getD 0 0=s
 pos:0<L.length
 out:∀x,x<n->x∉L->num.getD x 0=num0.getD x 0
 new:∀x∈L,num0.getD x 0=0
 frac:∃Q:Int,0<Q/\Q<=99 ^ (L.length-1)/\∀x∈L,0<num.getD x 0/\num.getD x 0<=99 ^ (L.length-1)/\0<den.getD x 0/\den.getD x 0∣Q/\Int.gcd (num.getD x 0) (den.getD x 0)=1
 good:∀e,zah n A e->∀x∈L,num.getD x 0*e s=den.getD x 0*e x
def zid.le{n:Nat}{A:Nat->Nat->Int}{s:Nat}{num0 num den:List Int}{L:List Nat}(h:zid n A s num0 L num den):L.length<=n:=zau n L h.nd h.lt
def zor(n:Nat)(A:Nat->Nat->Int)(num0:List Int):Prop:=∀y,y<n->num0.getD y 0≠0->∀k,k<n->(A y k≠0\/A k y≠0)->num0.getD k 0≠0
def frac_eq{a b c d:Int}(ha:0<a)(hb:0<b)(hc:0<c)(hd:0<d)(h1:Int.gcd a b=1)(h2:Int.gcd c d=1)(h:a*d=c*b):a=c/\b=d:=by
 obtain⟨a,rfl⟩:=Int.eq_ofNat_of_zero_le (Int.le_of_lt ha)
 obtain⟨b,rfl⟩:=Int.eq_ofNat_of_zero_le (Int.le_of_lt hb)
 obtain⟨c,rfl⟩:=Int.eq_ofNat_of_zero_le (Int.le_of_lt hc)
 obtain⟨d,rfl⟩:=Int.eq_ofNat_of_zero_le (Int.le_of_lt hd)
 have h3:a*d=c*b:=by exact_mod_cast h
 have e1:a∣c:=Nat.Coprime.dvd_of_dvd_mul_right (k:=a) (n:=b) h1 ⟨d,h3.symm⟩
 have e2:c∣a:=Nat.Coprime.dvd_of_dvd_mul_right (k:=c) (n:=d) h2 ⟨b,h3⟩
 have e3:=Nat.dvd_antisymm e1 e2
 subst e3
 exact⟨rfl,by rw[Nat.eq_of_mul_eq_mul_left (by omega) h3]⟩
section
variable {n : Nat} {A : Nat → Nat → Int} {s p j : Nat} {num0 num den : List Int} {L : List Nat}
structure StepN(A:Nat->Nat->Int)(x j:Nat)(num den:List Int)(a0 b0 g a b:Int):Prop where
 ea0:a0=num.getD x 0*z60 (A x j)
 eb0:b0=den.getD x 0*z60 (A j x)
 eg:g=(Int.gcd a0 b0:Int)
 gp:0<g
 a0p:0<a0
 b0p:0<b0
 ea:a*g=a0
 eb:b*g=b0
 ap:0<a
 bp:0<b
 co:Int.gcd a b=1
def stepN(x j:Nat)(hx:0<num.getD x 0)(hd:0<den.getD x 0)(h1:A x j≠0)(h2:A j x≠0) :
  StepN A x j num den (num.getD x 0*z60 (A x j)) (den.getD x 0*z60 (A j x)) (Int.gcd (num.getD x 0*z60 (A x j)) (den.getD x 0*z60 (A j x)))
   (Int.tdiv (num.getD x 0*z60 (A x j)) (Int.gcd (num.getD x 0*z60 (A x j)) (den.getD x 0*z60 (A j x)))) (Int.tdiv (den.getD x 0*z60 (A j x)) (Int.gcd (num.getD x 0*z60 (A x j)) (den.getD x 0*z60 (A j x)))):=by
 have a0p:0<num.getD x 0*z60 (A x j):=Int.mul_pos hx (z9d h1)
 have b0p:0<den.getD x 0*z60 (A j x):=Int.mul_pos hd (z9d h2)
 generalize ha0:num.getD x 0*z60 (A x j)=a0 at a0p ⊢
 generalize hb0:den.getD x 0*z60 (A j x)=b0 at b0p ⊢
 have gp:0<(Int.gcd a0 b0:Int):=by
  have:=Int.gcd_pos_of_ne_zero_left b0 (show a0≠0 by omega)
  omega
 have ea:Int.tdiv a0 (Int.gcd a0 b0)*(Int.gcd a0 b0:Int)=a0:=Int.tdiv_mul_cancel (Int.gcd_dvd_left ..)
 have eb:Int.tdiv b0 (Int.gcd a0 b0)*(Int.gcd a0 b0:Int)=b0:=Int.tdiv_mul_cancel (Int.gcd_dvd_right ..)
 have pos:∀c d:Int,0<d->0<c*d->0<c:=λc d hd h=>by
  rcases Int.lt_or_le 0 c with h' | h'
  ·exact h'
  ·have:=Int.mul_nonpos_of_nonpos_of_nonneg h' (Int.le_of_lt hd);omega
 refine⟨ha0.symm,hb0.symm,rfl,gp,a0p,b0p,ea,eb,pos _ _ gp (by rw[ea];exact a0p),pos _ _ gp (by rw[eb];exact b0p), ?_⟩
 have h3:Int.gcd (Int.tdiv a0 (Int.gcd a0 b0)*(Int.gcd a0 b0:Int)) (Int.tdiv b0 (Int.gcd a0 b0)*(Int.gcd a0 b0:Int))=Int.gcd a0 b0:=by rw[ea,eb]
 rw[Int.gcd_mul_right,Int.natAbs_natCast]at h3
 have gp':0<Int.gcd a0 b0:=by omega
 exact Nat.eq_of_mul_eq_mul_right gp' (by rw[h3,Nat.one_mul])
def Skew(A:Nat->Nat->Int)(x j:Nat):Prop:=∃u:Int,(u=1\/u=-1)/\A x j=u*z60 (A x j)/\A j x=-(u*z60 (A j x))
def skew_of{x j:Nat}(h1:A x j≠0)(h2:A j x≠0)(h:(0<A x j)↔(0 < -A j x)):Skew A x j:=by
 unfold Skew z60
 by_cases hp:0<A x j
 ·have:=h.1 hp
  exact⟨1,Or.inl rfl,by omega,by omega⟩
 ·have:¬ 0 < -A j x:=λhc=>hp (h.2 hc)
  exact⟨-1,Or.inr rfl,by omega,by omega⟩
def zil{x:Nat}{a0 b0 g a b:Int}(st:StepN A x j num den a0 b0 g a b)(hx:x<n)(hj:j<n){e:Nat->Int}(he:zah n A e)(hg:num.getD x 0*e s=den.getD x 0*e x):a*e s=b*e j:=by
 have h1:=zol (he x hx).1 (he j hj).1 ((he x hx).2 j hj)
 have h2:=st.ea0
 have h3:=st.eb0
 have h4:=st.ea
 have h5:=st.eb
 have h6:g*(a*e s)=g*(b*e j):=by grind
 exact Int.eq_of_mul_eq_mul_left (by have:=st.gp;omega) h6
def zim{x:Nat}{a0 b0 g a b:Int}(st:StepN A x j num den a0 b0 g a b)(sk:Skew A x j):num.getD x 0*A x j*b=-(a*A j x*den.getD x 0):=by
 obtain⟨u,hu,h1,h2⟩:=sk
 have h3:=st.ea0
 have h4:=st.eb0
 have h5:=st.ea
 have h6:=st.eb
 rw[h1,h2]
 grind
def zid.grow{a0 b0 g a b:Int}(h:zid n A s num0 L num den)(hp:p<L.length)(hj:j<n)(hz:num.getD j 0=0)(st:StepN A (L.getD p 0) j num den a0 b0 g a b)(hb:∀x y,z60 (A x y)<=99) :
  zid n A s num0 (L++[j]) (num.set j a) (den.set j b)/\j∉L:=by
 obtain⟨Q,q1,q2,q3⟩:=h.frac
 have hxm:L.getD p 0∈L:=z18 0 hp
 have hnj:j∉L:=λhc=>by have:=(q3 j hc).1;omega
 have hxj:∀x∈L,j≠x:=λx hx e=>hnj (e▸hx)
 have hnl:j<num.length:=by rw[h.nl];exact hj
 have hdl:j<den.length:=by rw[h.dl];exact hj
 have e1:∀x∈L,(num.set j a).getD x 0=num.getD x 0:=λx hx=>by rw[z1v hnl,if_neg (hxj x hx)]
 have e2:∀x∈L,(den.set j b).getD x 0=den.getD x 0:=λx hx=>by rw[z1v hdl,if_neg (hxj x hx)]
 have e3:(num.set j a).getD j 0=a:=by rw[z1v hnl,if_pos rfl]
 have e4:(den.set j b).getD j 0=b:=by rw[z1v hdl,if_pos rfl]
 have hlen:(L++[j]).length-1=L.length-1+1:=by have:=h.pos;simp;omega
 have hpp:(0:Int)<=99 ^ (L.length-1):=Int.pow_nonneg (by omega)
 refine⟨⟨by rw[List.length_set,h.nl],by rw[List.length_set,h.dl], ?_, ?_,(z2n h.pos).trans h.hd,by simp, ?_, ?_, ?_, ?_⟩,hnj⟩
 ·exact List.nodup_append.2 ⟨h.nd,by simp,λa ha' b hb e=>by
   rw[List.mem_singleton]at hb;subst hb;subst e;exact hnj ha'⟩
 ·intro x hx
  rcases List.mem_append.1 hx with hx | hx
  ·exact h.lt x hx
  ·rw[List.mem_singleton]at hx;omega
 ·intro x hx hni
  rw[List.mem_append,List.mem_singleton]at hni
  rw[z1v hnl,if_neg (λe=>hni (Or.inr e.symm))]
  exact h.out x hx (λhc=>hni (Or.inl hc))
 ·intro x hx
  rcases List.mem_append.1 hx with hx | hx
  ·exact h.new x hx
  ·rw[List.mem_singleton]at hx
   subst hx
   rw[<-h.out x hj hnj]
   exact hz
 ·obtain⟨c1,c2,c3,c4,c5⟩:=q3 _ hxm
  have ga:a<=a0:=by
   have:=Int.mul_le_mul_of_nonneg_left (show(1:Int)<=g by have:=st.gp;omega) (Int.le_of_lt st.ap)
   have:=st.ea
   omega
  have hq1:0<z60 (A j (L.getD p 0)):=by
   have h1:=st.b0p
   rw[st.eb0]at h1
   rcases Int.lt_or_le 0 (z60 (A j (L.getD p 0)))with h' | h'
   ·exact h'
   ·have:=Int.mul_nonpos_of_nonneg_of_nonpos (Int.le_of_lt c3) h';omega
  have hp1:0<=z60 (A (L.getD p 0) j):=by unfold z60;omega
  refine⟨Q*z60 (A j (L.getD p 0)),Int.mul_pos q1 hq1, ?_, ?_⟩
  ·rw[hlen,Int.pow_succ]
   exact Int.mul_le_mul q2 (hb _ _) (by omega) hpp
  ·intro x hx
   rcases List.mem_append.1 hx with hx | hx
   ·rw[e1 x hx,e2 x hx]
    obtain⟨d1,d2,d3,d4,d5⟩:=q3 x hx
    refine⟨d1, ?_,d3,Int.dvd_trans d4 ⟨_,rfl⟩,d5⟩
    rw[hlen,Int.pow_succ]
    have:=Int.mul_le_mul_of_nonneg_left (show(1:Int)<=99 by omega) hpp
    omega
   ·rw[List.mem_singleton]at hx
    subst hx
    rw[e3,e4]
    refine⟨st.ap, ?_,st.bp, ?_,st.co⟩
    ·rw[hlen,Int.pow_succ]
     have:a0<=99 ^ (L.length-1)*99:=by
      rw[st.ea0]
      exact Int.mul_le_mul c2 (hb _ _) hp1 hpp
     omega
    ·have h1:b∣b0:=⟨g,st.eb.symm⟩
     have h2:b0∣Q*z60 (A x (L.getD p 0)):=by
      rw[st.eb0]
      exact Int.mul_dvd_mul c4 (Int.dvd_refl _)
     exact Int.dvd_trans h1 h2
 ·intro e he x hx
  rcases List.mem_append.1 hx with hx | hx
  ·rw[e1 x hx,e2 x hx]
   exact h.good e he x hx
  ·rw[List.mem_singleton]at hx
   subst hx
   rw[e3,e4]
   exact zil st (h.lt _ hxm) hj he (h.good e he _ hxm)
def zlc.grow{x k:Nat}{a b:Int}(hL:∀x∈L,j≠x)(hnl:j<num.length)(hdl:j<den.length)(hx:x∈L)(h:zlc A L num den x k):zlc A (L++[j]) (num.set j a) (den.set j b) x k:=by
 rcases h with h | ⟨h1,h2⟩
 ·exact Or.inl h
 ·refine Or.inr ⟨List.mem_append_left _ h1, ?_⟩
  rw[z1v hnl,if_neg (hL x hx),z1v hdl,if_neg (hL k h1),z1v hnl,if_neg (hL k h1),z1v hdl,if_neg (hL x hx)]
  exact h2
end
end Go.Fw
namespace Go.Fw
structure OInv(n:Nat)(A:Nat->Nat->Int)(num out:List Int):Prop where
 nl:num.length=n
 ol:out.length=n
 closed:zor n A num
 done:∀j,j<n->num.getD j 0≠0->0<out.getD j 0/\(∀k,k<n->out.getD j 0*A j k=-(out.getD k 0*A k j)) /\
  ∃L:List Nat,(∀k∈L,k<n/\num.getD k 0≠0)/\z7z (L.map λk=>out.getD k 0)=1/\∀e,zah n A e->∀k∈L,out.getD j 0*e k=out.getD k 0*e j
section
variable {n : Nat} {A : Nat → Nat → Int} {s : Nat} {num0 num den out0 out2 out3 : List Int} {L : List Nat} {com g : Int}
def OInv.piece(h:OInv n A num0 out0)(f:zid n A s num0 L num den)(he:∀x∈L,∀k,k<n->zlc A L num den x k)(hc:0<com)(hg:0<g)
  (h2:∀x∈L,out2.getD x 0*den.getD x 0=com*num.getD x 0) (hgl:g=((z7z (L.map λx=>out2.getD x 0):Nat):Int))
  (h3:∀x∈L,out3.getD x 0*g=out2.getD x 0) (ho:∀x,x<n->x∉L->out3.getD x 0=out0.getD x 0) (hl:out3.length=n) :
  OInv n A num out3/\num.getD s 0≠0/\∀x,x<n->num0.getD x 0≠0->num.getD x 0≠0:=by
 obtain⟨Q,q1,q2,q3⟩:=f.frac
 have hpos:∀x∈L,0<num.getD x 0/\0<den.getD x 0:=λx hx=>⟨(q3 x hx).1,(q3 x hx).2.2.1⟩
 have hk:∀x∈L,out3.getD x 0*g*den.getD x 0=com*num.getD x 0:=λx hx=>by rw[h3 x hx];exact h2 x hx
 have hop:∀x∈L,0<out3.getD x 0:=λx hx=>by
  have h4:=Int.mul_pos hc (hpos x hx).1
  rw[<-hk x hx]at h4
  rcases Int.lt_or_le 0 (out3.getD x 0)with h' | h'
  ·exact h'
  ·have h5:=Int.mul_nonpos_of_nonpos_of_nonneg h' (Int.le_of_lt hg)
   have h6:=Int.mul_nonpos_of_nonpos_of_nonneg h5 (Int.le_of_lt (hpos x hx).2)
   omega
 have hns:num.getD s 0≠0:=by
  have:=(hpos s (by rw[<-f.hd];exact z18 0 f.pos)).1
  omega
 have old:∀x,x<n->num0.getD x 0≠0->x∉L:=λx hx h0 hc=>h0 (f.new x hc)
 refine⟨⟨f.nl,hl, ?_, ?_⟩,hns,λx hx h0=>by rw[f.out x hx (old x hx h0)];exact h0⟩
 ·intro y hy h1 k hk' ha
  by_cases hm:y∈L
  ·rcases he y hm k hk' with hz | hz
   ·omega
   ·have:=(hpos k hz.1).1;omega
  ·rw[f.out y hy hm]at h1
   have h4:=h.closed y hy h1 k hk' ha
   rw[f.out k hk' (old k hk' h4)]
   exact h4
 ·intro j hj h1
  by_cases hm:j∈L
  ·refine⟨hop j hm, ?_,L,λk hk'=>⟨f.lt k hk',by have:=(hpos k hk').1;omega⟩, ?_, ?_⟩
   ·intro k hk'
    rcases he j hm k hk' with⟨z1,z2⟩ | ⟨z1,z2⟩
    ·rw[z1,z2];simp
    ·have e1:=hk j hm
     have e2:=hk k z1
     have e3:(g*den.getD j 0*den.getD k 0)*(out3.getD j 0*A j k)=(g*den.getD j 0*den.getD k 0)*(-(out3.getD k 0*A k j)):=by grind
     have e4:=Int.mul_pos (Int.mul_pos hg (hpos j hm).2) (hpos k z1).2
     exact Int.eq_of_mul_eq_mul_left (by omega) e3
   ·have e1:L.map (λx=>g*out3.getD x 0)=L.map (λx=>out2.getD x 0):=List.map_congr_left (λx hx=>by rw[Int.mul_comm];exact h3 x hx)
    have e2:=zdg g (L.map (λx=>out3.getD x 0))
    rw[List.map_map]at e2
    have e3:z7z (L.map (λx=>out2.getD x 0))=g.natAbs*z7z (L.map (λx=>out3.getD x 0)):=by rw[<-e1];exact e2
    have e5:z7z (L.map (λx=>out2.getD x 0))=g.natAbs:=by
     have:=congrArg Int.natAbs hgl
     simpa using this.symm
    rw[e5]at e3
    exact Nat.eq_of_mul_eq_mul_left (show 0<g.natAbs by omega) (by rw[Nat.mul_one];exact e3.symm)
   ·intro e hge k hkL
    have key:∀x∈L,out3.getD x 0*g*e s=com*e x:=by
     intro x hx
     have e1:=hk x hx
     have e2:=f.good e hge x hx
     have e3:den.getD x 0*(out3.getD x 0*g*e s)=den.getD x 0*(com*e x):=by grind
     exact Int.eq_of_mul_eq_mul_left (by have:=(hpos x hx).2;omega) e3
    have e1:=key j hm
    have e2:=key k hkL
    have hs:0<e s:=(hge s (by rw[<-f.hd];exact f.lt _ (z18 0 f.pos))).1
    have e3:(g*e s)*(out3.getD j 0*e k)=(g*e s)*(out3.getD k 0*e j):=by grind
    have e4:=Int.mul_pos hg hs
    exact Int.eq_of_mul_eq_mul_left (by omega) e3
  ·rw[f.out j hj hm]at h1
   obtain⟨a1,a2,L',a3,a4,a5⟩:=h.done j hj h1
   rw[ho j hj hm]
   have hL':∀k∈L',k∉L:=λk hk'=>old k (a3 k hk').1 (a3 k hk').2
   refine⟨a1, ?_,L',λk hk'=>⟨(a3 k hk').1,by rw[f.out k (a3 k hk').1 (hL' k hk')];exact(a3 k hk').2⟩, ?_, ?_⟩
   ·intro k hk'
    by_cases hkL:k∈L
    ·by_cases z1:A j k=0
     ·by_cases z2:A k j=0
      ·rw[z1,z2];simp
      ·exact absurd (f.new k hkL) (h.closed j hj h1 k hk' (Or.inr z2))
     ·exact absurd (f.new k hkL) (h.closed j hj h1 k hk' (Or.inl z1))
    ·rw[ho k hk' hkL];exact a2 k hk'
   ·rw[show L'.map (λk=>out3.getD k 0)=L'.map (λk=>out0.getD k 0)from List.map_congr_left (λk hk'=>ho k (a3 k hk').1 (hL' k hk'))]
    exact a4
   ·intro e hge k hk'
    rw[ho k (a3 k hk').1 (hL' k hk')]
    exact a5 e hge k hk'
end
def OInv.fac{m:Int×Int×List Int}{num out:List Int}(h:OInv m.1.toNat (ent m) num out)(hp:∀x,x<m.1.toNat->num.getD x 0≠0):z4y m=out:=by
 refine zsg h.ol (λi hi=>⟨(h.done i hi (hp i hi)).1,(h.done i hi (hp i hi)).2.1⟩) (λi hi=>?_)
 obtain⟨L,a1,a2,a3⟩:=(h.done i hi (hp i hi)).2.2
 exact⟨L,λk hk=>(a1 k hk).1,a2,a3⟩
def lcm_step{c d Q:Int}(hc:0<c)(hd:0<d)(h1:c∣Q)(h2:d∣Q)(hQ:0<Q) :
  0<(Int.gcd c d:Int)/\0<Int.tdiv c (Int.gcd c d)/\Int.tdiv c (Int.gcd c d)<=c/\0<Int.tdiv c (Int.gcd c d)*d/\Int.tdiv c (Int.gcd c d)*d∣Q/\c∣Int.tdiv c (Int.gcd c d)*d/\d∣Int.tdiv c (Int.gcd c d)*d:=by
 obtain⟨c,rfl⟩:=Int.eq_ofNat_of_zero_le (Int.le_of_lt hc)
 obtain⟨d,rfl⟩:=Int.eq_ofNat_of_zero_le (Int.le_of_lt hd)
 obtain⟨Q,rfl⟩:=Int.eq_ofNat_of_zero_le (Int.le_of_lt hQ)
 have e:Int.tdiv (c:Int) (Int.gcd (c:Int) (d:Int))=((c / Nat.gcd c d:Nat):Int):=rfl
 rw[e]
 have hg:0<Nat.gcd c d:=Nat.gcd_pos_of_pos_left d (by omega)
 have h3:c / Nat.gcd c d*d=Nat.lcm c d:=by
  rw[Nat.lcm,Nat.mul_comm,Nat.mul_comm c d,Nat.mul_div_assoc _ (Nat.gcd_dvd_left c d)]
 have h4:0<c / Nat.gcd c d:=Nat.div_pos (Nat.gcd_le_left d (by omega)) hg
 have h5:c / Nat.gcd c d<=c:=Nat.div_le_self _ _
 rw[<-Int.natCast_mul,h3]
 have h6:0<Nat.lcm c d:=Nat.lcm_pos (by omega) (by omega)
 refine⟨by show(0:Int)<((Nat.gcd c d:Nat):Int);omega,by omega,by omega,by omega, ?_, ?_, ?_⟩
 ·exact Int.natCast_dvd_natCast.2 (Nat.lcm_dvd (Int.natCast_dvd_natCast.1 h1) (Int.natCast_dvd_natCast.1 h2))
 ·exact Int.natCast_dvd_natCast.2 (Nat.dvd_lcm_left c d)
 ·exact Int.natCast_dvd_natCast.2 (Nat.dvd_lcm_right c d)
end Go.Fw
namespace Go.Fw
def z5j(n:Int):ByteArray:=⟨(Lib.itoa n).toArray⟩
end Go.Fw
namespace Go.Fw
def zbp(n:Int):(z5j n).data.toList=Lib.itoa n:=by simp[z5j]
def z4i(l:List Int):List UInt8:=Lib.join (l.map Lib.itoa) [32]
def z4v(l:List Int):ByteArray:=⟨(z4i l).toArray⟩
def zpf{l:List Int}(h:l≠[])(n:Int):z4i (l++[n])=z4i l++[32]++Lib.itoa n:=by
 unfold z4i Lib.join
 cases l with
 | nil=>exact absurd rfl h
 | cons x xs =>
  rw[List.map_append,List.map_cons,List.map_cons,List.map_nil]
  induction xs generalizing x with
  | nil=>simp[List.intercalate,List.intersperse]
  | cons y ys ih =>
   have:=ih y (by simp)
   simp only[List.map_cons,List.cons_append,List.intercalate,List.intersperse,List.flatten_cons,List.append_assoc]at this ⊢
   rw[this]
def zs0(n:Int):z4i [n]=Lib.itoa n:=by simp[z4i,Lib.join,List.intercalate]
def zs1:z4i []=[]:=rfl
def zjp{l:List Int}(h:l.all zl8=true):(z4i l).length<=22*l.length:=by
 have key:∀j,j<=l.length->(z4i (l.take j)).length<=22*j:=by
  intro j
  induction j with
  | zero=>intro _;simp[zs1]
  | succ j ih =>
   intro hj
   have h2:zl8 (l.getD j 0)=true:=List.all_eq_true.1 h _ (z18 0 hj)
   have hn:(Lib.itoa (l.getD j 0)).length<=21:=by
    simp only[zl8,Bool.and_eq_true,decide_eq_true_eq]at h2
    exact Lib.itoa_length_le _ h2.1 h2.2
   have:=ih (by omega)
   rw[<-zdn 0 hj]
   by_cases he:l.take j=[]
   ·rw[he,List.nil_append,zs0]
    omega
   ·rw[zpf he]
    simp only[List.length_append,List.length_cons,List.length_nil]
    omega
 have:=key l.length (Nat.le_refl _)
 rwa [List.take_length]at this
def rowP(l:List Int):Bool:=decide (l.length<=2097152)&&l.all zl8
end Go.Fw
namespace Go.Fw
open Go.Proofs Go.Sort
def zrs(a b:Int×Int×List Int):ltOf (λa b:Int×Int×List Int=>z79 a.2.2 b.2.2) a b=z3e a.2.2 b.2.2:=zb0 _ _
def zlf:SWO (ltOf λa b:Int×Int×List Int=>z79 a.2.2 b.2.2):=⟨λx=>by rw[zrs];exact z6l _,λx y z h1 h2=>by
  rw[zrs]at *
  exact z5i h1 h2,λx y z h1 h2=>by
  rw[zrs]at *
  have h3:=zb1 y.2.2 x.2.2 x.2.2
  have:leD z.2.2 x.2.2=true:=zb1 z.2.2 y.2.2 x.2.2 (by simp only[leD,h2];rfl) (by simp only[leD,h1];rfl)
  simpa only[leD,Bool.not_eq_true']using this⟩
def zgl(l:List (Int×Int×List Int)):List (Int×Int×List Int):=z6z (0,(0,[])) (λa b:Int×Int×List Int=>z79 a.2.2 b.2.2) l
def zfh(l:List (Int×Int×List Int)):(zgl l).Perm l:=zlk zlf l
def zir(l:List (Int×Int×List Int)):z4f ((zgl l).map (·.2.2)):=by
 have h:=zgm (d:=((0,(0,[])):Int×Int×List Int)) zlf l
 have hl:(zgl l).length=l.length:=(zfh l).length_eq
 unfold z4f
 rw[List.pairwise_iff_getElem]
 intro i j hi hj hij
 rw[List.length_map]at hi hj
 have:=h i j hij (by omega)
 simp only[List.getElem_map]
 simp only[leD,Bool.not_eq_true']
 have e:∀k (hk:k<(zgl l).length),(z6z (0,(0,[])) (λa b:Int×Int×List Int=>z79 a.2.2 b.2.2) l).getD k (0,(0,[]))=(zgl l)[k]:=λk hk=>by
  rw[List.getD_eq_getElem?_getD]
  show((zgl l)[k]?).getD _=_
  rw[List.getElem?_eq_getElem hk]
  rfl
 rw[e i hi,e j hj]at this
 cases hq:z3e (zgl l)[j].2.2 (zgl l)[i].2.2
 ·rfl
 ·rw[<-zb0]at hq
  exact(this (of_decide_eq_true hq)).elim
end Go.Fw
namespace Go.Fw
end Go.Fw
namespace Go.Fw
def z34(p:UInt8->Bool):List UInt8->List (List UInt8)
 | []=>[[]]
 | b::l=>if p b=true then[]::z34 p l else match z34 p l with
  | h::t=>(b::h)::t
  | []=>[[b]]
def z98(p:UInt8->Bool):∀l,z34 p l≠[]
 | []=>by simp[z34]
 | b::l=>by
  rw[z34]
  split
  ·simp
  ·split<;>simp
def glue(a:List UInt8):List (List UInt8)->List (List UInt8)
 | h::t=>(a++h)::t
 | []=>[a]
def glue_nil{q:List (List UInt8)}(h:q≠[]):glue [] q=q:=by
 cases q with
 | nil=>exact absurd rfl h
 | cons x xs=>rfl
def glue_sep{p:UInt8->Bool}{b:UInt8}(h:p b=true)(a l:List UInt8):glue a (z34 p (b::l))=a::z34 p l:=by
 rw[z34,if_pos h]
 simp[glue]
def baOf(l:List UInt8):ByteArray:=⟨l.toArray⟩
end Go.Fw
namespace Go.Fw
end Go.Fw
namespace Go.Fw
end Go.Fw
namespace Go.Fw
def zgq(s:ByteArray):List ByteArray:=(z34 (λb=>b == 32) s.data.toList).map baOf
end Go.Fw
namespace Go.Fw
def zq5(c:UInt8):Bool:=decide (48<=c.toNat)&&decide (c.toNat<=57)
def zkp(a:Nat)(c:UInt8):Nat:=10*a+(c.toNat-48)
def zex(a:Nat)(l:List UInt8):Nat:=l.foldl zkp a
def zaj(a:Nat):zex a []=a:=rfl
def z8a(a:Nat)(c:UInt8)(l:List UInt8):zex a (c::l)=zex (zkp a c) l:=by
 unfold zex
 rw[List.foldl_cons]
def valD_app(l m:List UInt8)(a:Nat):zex a (l++m)=zex (zex a l) m:=by
 unfold zex
 rw[List.foldl_append]
def zb5(a:Nat)(c:UInt8):zkp a c=10*a+(c.toNat-48):=by unfold zkp;rfl
def zma(u:Nat):(Lib.decDigits u).all zq5=true:=by
 induction u using Nat.strongRecOn with
 | _ u ih =>
  have key:∀t,t<10->zq5 (UInt8.ofNat (48+t))=true:=λt ht=>by
   have:(UInt8.ofNat (48+t)).toNat=48+t:=by rw[UInt8.toNat_ofNat'];omega
   simp only[zq5,this,Bool.and_eq_true,decide_eq_true_eq]
   omega
  rw[Lib.decDigits]
  split
  ·rename_i h
   rw[List.all_cons,key u h]
   rfl
  ·rename_i h
   rw[List.all_append,ih (u / 10) (by omega),List.all_cons,key (u%10) (by omega)]
   rfl
def dec_val(u:Nat):zex 0 (Lib.decDigits u)=u:=by
 induction u using Nat.strongRecOn with
 | _ u ih =>
  have key:∀t,t<10->(UInt8.ofNat (48+t)).toNat-48=t:=λt ht=>by
   have:(UInt8.ofNat (48+t)).toNat=48+t:=by rw[UInt8.toNat_ofNat'];omega
   omega
  rw[Lib.decDigits]
  split
  ·rename_i h
   rw[z8a,zb5,key u h,zaj]
   omega
  ·rename_i h
   rw[valD_app,ih (u / 10) (by omega),z8a,zb5,key (u%10) (by omega),zaj]
   omega
def dec_ne(u:Nat):Lib.decDigits u≠[]:=by
 rw[Lib.decDigits]
 split<;>simp
def zu0:∀(k u:Nat),u<10 ^ k->1<=k->(Lib.decDigits u).length<=k
 | 0,_,_,h=>by omega
 | k+1,u,h,_=>by
  rw[Lib.decDigits]
  split
  ·simp
  ·rename_i hs
   have hk:1<=k:=by
    rcases Nat.eq_zero_or_pos k with h' | h'
    ·subst h';omega
    ·exact h'
   have:=zu0 k (u / 10) (by rw[Nat.div_lt_iff_lt_mul (by omega),<-Nat.pow_succ];exact h) hk
   simp
   omega
def ze1{p:UInt8->Bool}:∀(x l:List UInt8),(∀b∈x,p b=false)->z34 p (x++l)=glue x (z34 p l)
 | [],l,_=>(glue_nil (z98 p l)).symm
 | b::x,l,h=>by
  have ih:=ze1 x l λc hc=>h c (List.mem_cons_of_mem _ hc)
  rw[List.cons_append,z34,if_neg (by rw[h b (List.mem_cons_self ..)];simp),ih]
  have hne:=z98 p l
  cases hq:z34 p l with
  | nil=>exact absurd hq hne
  | cons y ys=>rfl
def zbe:∀(xs:List (List UInt8)),xs≠[]->(∀x∈xs,∀b∈x,(b == (32:UInt8))=false)->z34 (λb=>b == 32) (Lib.join xs [32])=xs
 | [],h,_=>absurd rfl h
 | [x],_,h=>by
  rw[Lib.join_one]
  have:=ze1 (p:=λb=>b == 32) x [] (h x (List.mem_cons_self ..))
  rw[List.append_nil]at this
  rw[this]
  simp[z34,glue]
 | x::y::ys,_,h=>by
  have ih:=zbe (y::ys) (by simp) λz hz=>h z (List.mem_cons_of_mem _ hz)
  have e:Lib.join (x::y::ys) [32]=x++(32::Lib.join (y::ys) [32]):=by
   rw[Lib.join_cons,Lib.join_cons]
   simp[Lib.joinTail]
  rw[e,ze1 _ _ (h x (List.mem_cons_self ..)),glue_sep (by rfl),ih]
def zjq(n:Int):∀b∈Lib.itoa n,(b == (32:UInt8))=false:=by
 have key:∀u,∀b∈Lib.decDigits u,(b == (32:UInt8))=false:=λu b hb=>by
  have:=List.all_eq_true.1 (zma u) b hb
  simp only[zq5,Bool.and_eq_true,decide_eq_true_eq]at this
  rw[beq_eq_false_iff_ne]
  intro e
  subst e
  have:(32:UInt8).toNat=32:=rfl
  omega
 intro b hb
 unfold Lib.itoa at hb
 split at hb
 ·rcases List.mem_cons.1 hb with rfl | hb
  ·rfl
  ·exact key _ b hb
 ·exact key _ b hb
def z7g(l:List UInt8):Nat:=match l with
 | c::_=>if c=45 then 1 else 0
 | []=>0
def numK(s:ByteArray):Int×Bool :=
  if(s.data.toList.drop (z7g s.data.toList)).length=0\/9<(s.data.toList.drop (z7g s.data.toList)).length then(0,false)
  else if(s.data.toList.drop (z7g s.data.toList)).all zq5=true then
    (if z7g s.data.toList=1 then -(zex 0 (s.data.toList.drop (z7g s.data.toList)):Int)else(zex 0 (s.data.toList.drop (z7g s.data.toList)):Int),
     zey (z5j (if z7g s.data.toList=1 then -(zex 0 (s.data.toList.drop (z7g s.data.toList)):Int)else(zex 0 (s.data.toList.drop (z7g s.data.toList)):Int))) s)
  else(0,false)
def z6x{a b:ByteArray}:zey a b=true↔a=b:=by
 unfold zey
 rw[beq_iff_eq,ByteArray.toList_eq,ByteArray.toList_eq]
 constructor
 ·intro h
  apply ByteArray.ext
  exact Array.toList_inj.1 h
 ·intro h
  rw[h]
def zbg(w:ByteArray):Option Int:=if(numK w).2=true then some (numK w).1 else none
def zrg{w:ByteArray}{n:Int}(hin:inK n (-999999999) 999999999=true)(hw:w=z5j n):numK w=(n,true):=by
 rw[z3r]at hin
 have hd:w.data.toList=Lib.itoa n:=by rw[hw,zbp]
 have hu:n.natAbs<10 ^ 9:=by
  have h9':(10:Nat) ^ 9=1000000000:=by decide
  omega
 have hl:=zu0 9 n.natAbs hu (by omega)
 have hne:(Lib.decDigits n.natAbs).length≠0:=λe=>dec_ne _ (List.length_eq_zero_iff.1 e)
 have hall:=zma n.natAbs
 have hval:=dec_val n.natAbs
 by_cases hneg:n<0
 ·have e:Lib.itoa n=45::Lib.decDigits n.natAbs:=by unfold Lib.itoa;rw[if_pos hneg]
  have hs:z7g w.data.toList=1:=by rw[hd,e];rfl
  have hdr:w.data.toList.drop 1=Lib.decDigits n.natAbs:=by rw[hd,e];rfl
  have hv:-((n.natAbs:Nat):Int)=n:=by omega
  unfold numK
  rw[hs,hdr,if_neg (by omega),if_pos hall,if_pos rfl,hval,hv,z6x.2 hw.symm]
 ·have e:Lib.itoa n=Lib.decDigits n.natAbs:=by unfold Lib.itoa;rw[if_neg hneg,show n.toNat=n.natAbs by omega]
  have hs:z7g w.data.toList=0:=by
   rw[hd,e]
   unfold z7g
   split
   ·rename_i c r hc
    rw[hc,List.all_cons,Bool.and_eq_true]at hall
    have h1:=hall.1
    simp only[zq5,Bool.and_eq_true,decide_eq_true_eq]at h1
    rw[if_neg]
    intro e45
    subst e45
    have:(45:UInt8).toNat=45:=rfl
    omega
   ·rfl
  have hdr:w.data.toList.drop 0=Lib.decDigits n.natAbs:=by rw[hd,e];rfl
  have hv:((n.natAbs:Nat):Int)=n:=by omega
  unfold numK
  rw[hs,hdr,if_neg (by omega),if_pos hall,if_neg (by omega),hval,hv,z6x.2 hw.symm]
def part_can{n:Int}(hin:inK n (-999999999) 999999999=true):zbg (z5j n)=some n:=by
 unfold zbg
 rw[zrg hin rfl,if_pos rfl]
def zic(f:ByteArray->Option Int):List ByteArray->Option (List Int)
 | []=>some []
 | w::ws=>match f w with
  | none=>none
  | some n=>match zic f ws with
   | none=>none
   | some l=>some (n::l)
def zne(s:ByteArray):List Int×Bool:=if zey s ByteArray.empty=true then([],true)else match zic zbg (zgq s)with
 | none=>([],false)
 | some l=>(l,true)
end Go.Fw
namespace Go.Fw
end Go.Fw
namespace Go.Fw
end Go.Fw
namespace Go.Fw
end Go.Fw
namespace Go.Fw
def itoa_ne(n:Int):Lib.itoa n≠[]:=by
 unfold Lib.itoa
 split
 ·simp
 ·exact dec_ne _
def itoas_ne{row:List Int}(h:row≠[]):z4i row≠[]:=by
 cases row with
 | nil=>exact absurd rfl h
 | cons x xs =>
  unfold z4i
  rw[List.map_cons,Lib.join_cons]
  have:=itoa_ne x
  simp[this]
def prt_row{row:List Int}(h:row≠[]):zgq (z4v row)=row.map z5j:=by
 have hd:(z4v row).data.toList=Lib.join (row.map Lib.itoa) [32]:=by simp[z4v,z4i]
 unfold zgq
 rw[hd,zbe (row.map Lib.itoa) (by simpa using h) λx hx=>by
  obtain⟨n,_,rfl⟩:=List.mem_map.1 hx
  exact zjq n,List.map_map]
 rfl
def zoh:∀{row:List Int},(∀n∈row,inK n (-999999999) 999999999=true)->zic zbg (row.map z5j)=some row
 | [],_=>rfl
 | n::ns,h=>by
  rw[List.map_cons,zic,part_can (h n (List.mem_cons_self ..)),zoh λm hm=>h m (List.mem_cons_of_mem _ hm)]
def zj6{row:List Int}(h:row≠[])(hr:∀n∈row,inK n (-999999999) 999999999=true):zne (z4v row)=(row,true):=by
 unfold zne
 rw[if_neg,prt_row h,zoh hr]
 intro he
 have e:=z6x.1 he
 have:=congrArg (λb:ByteArray=>b.data.toList) e
 simp[z4v]at this
 exact itoas_ne h this
end Go.Fw
namespace Go.Fw
section
variable {ρ : Type}
namespace z1d
def P(a:List Int):Bool:=decide (a.length<1099511627776)
abbrev g(a:List Int):List Int:=a
end z1d
namespace z1d
def Z1{ρ:Type}(N:Nat)(a:LI)(kn:LI->Option ρ):Option ρ :=
 kn a
def Z3{ρ:Type}(N:Nat)(a:LI)(kn:LI->LI->Option ρ):Option ρ :=
 cond (lk N (leB 0 (a.length:Int)&&decide ((a.length:Int)<1099511627776))) (
  kn (List.replicate (a.length:Int).toNat (0:Int)) a) none
def Z6{ρ:Type}(N:Nat)(a b:LI)(kn:LI->LI->Int->Option ρ):Option ρ :=
 kn a b 0
def Z9{ρ:Type}(N:Nat)(c b:LI)(a:Int)(kn:LI->LI->Int->Option ρ)(k0:LI->Option ρ):Option ρ :=
 cond (lk N (decide (a<(b.length:Int))))
 (
  cond (lk N (inB a b.length)) (
   cond (lk N (inB a c.length)) (
    kn (c.set a.toNat (b.getD a.toNat 0)) b (w64 (a+1))) none) none)
 (
  k0 c)
def Z8L{ρ:Type}(N:Nat)(k0:LI->Option ρ):Nat->LI->LI->Int->Option ρ
 | 0,_,_,_=>none
 | M+1,a,b,c=>Z9 N a b c (λa b c=>Z8L N k0 M a b c) k0
def Z8 N a b c k0:=(Z8L N k0 N a b c:Option ρ)
def Z7 N a b c kn:=(Z8 N a b c kn:Option ρ)
def Z5 N a b kn:=(Z6 N a b (λa b c=>Z7 N a b c kn):Option ρ)
def Z10{ρ:Type}(N:Nat)(a:LI)(kr:LI->Option ρ):Option ρ :=
 kr a
def Z4 N a b kr:=(Z5 N a b (λa=>Z10 N a kr):Option ρ)
def Z2 N a kr:=(Z3 N a (λb a=>Z4 N b a kr):Option ρ)
def Z0 N a kr:=(Z1 N a (λa=>Z2 N a kr):Option ρ)
def Spec:Prop:=∀ (v0:LI),Ty.bd (.sl 0 (.int .i64)) v0->P v0=true->∃N0,∀N,N0<=N->Z0 N v0 (λv2=>some ((),(v2,())))=some ((),((g v0),()))
def loop{ρ:Type}(N:Nat)(k0:List Int->Option ρ)(a:List Int)(ha:a.length<=maxLen):∀(M j:Nat) (out:List Int),out.length=a.length->out.take j=a.take j->j<=a.length->a.length-j<M ->
  Z8L N k0 M out a (j:Int)=k0 a:=by
 intro M
 induction M with
 | zero=>intro j out _ _ _ h;omega
 | succ M ih =>
  intro j out ho ht hj hM
  simp only[Z8L,Z9]
  by_cases h:j<a.length
  ·rw[ct (dt (by omega)),ct (z0u h),ct (z0u (by omega)),Int.toNat_natCast,z0w (by omega)]
   refine ih (j+1) _ (by simpa using ho) ?_ h (by omega)
   rw[zou (by omega),ht,zdn 0 h]
  ·rw[cf (df (by omega))]
   have:j=a.length:=by omega
   subst this
   rw[List.take_of_length_le (by omega),List.take_length]at ht
   rw[ht]
def ok:Spec:=λa hb hp=>⟨a.length+1,λN hN=>by
 have hl:a.length<1099511627776:=by simpa[P]using hp
 simp only[Z1,Z3,Z6,Z9,Z8,Z7,Z5,Z10,Z4,Z2,Z0]
 rw[ct (by simp[leB];omega)]
 exact loop _ _ a hb.1 _ 0 _ (by simp) (by simp) (by omega) (by omega)⟩
end z1d
end
end Go.Fw
namespace Go.Fw
def toInt_P(a:List Int)(h:(a.length:Int)<=1048576):z1d.P a=true:=by
 unfold z1d.P
 exact dt (by omega)
end Go.Fw
namespace Go.Fw
section
variable {ρ : Type}
namespace z2e
def g(a:List Int)(left:Int):Int:=if w64 (left-a.length)<0 then -1 else w64 (left-a.length)
end z2e
namespace z2e
def Z0{ρ:Type}(N:Nat)(a:LI)(b:Int)(kr:Int->Option ρ):Option ρ :=
 cond (lk N (decide ((w64 (b-(a.length:Int)))<0)))
 (
  kr (-1))
 (
  kr (w64 (b-(a.length:Int))))
def Spec:Prop:=∀ (v0:LI) (v1:Int),Ty.bd (.sl 0 (.int .i64)) v0->∃N0,∀N,N0<=N->Z0 N v0 v1 (λv4=>some ((),(v4,())))=some ((),((g v0 v1),()))
def ok:Spec:=λa left ha=>⟨0,λN hN=>by
 simp only[Z0,g]
 by_cases h:w64 (left-a.length)<0
 ·rw[ct (dt h),if_pos h]
 ·rw[cf (df h),if_neg h]⟩
end z2e
end
end Go.Fw
namespace Go.Fw
def szInt_le(a:List Int)(left:Int)(hb:a.length<=maxLen)(h0:0<=left)(h1:left<=1048576)(h:¬ z2e.g a left<0):(a.length:Int)<=left/\z2e.g a left=left-a.length:=by
 have hw:w64 (left-a.length)=left-a.length:=z1r (by rw[z0k]at hb;omega) (by omega)
 unfold z2e.g at h ⊢
 rw[hw]at h ⊢
 by_cases hl:left-(a.length:Int)<0
 ·rw[if_pos hl]at h;omega
 ·rw[if_neg hl];omega
end Go.Fw
namespace Go.Fw
section
variable {ρ : Type}
namespace z2s
def g(a:Int×Int×List Int)(left:Int):Int:=if z2e.g a.2.2 left<0 then -1 else z2e.g a.2.2 left
end z2s
namespace z2s
def Z0{ρ:Type}(N:Nat)(a:MT)(b:Int)(kr:Int->Option ρ):Option ρ :=
 cond (lk N (decide ((z2e.g a.2.2 b)<0)))
 (
  kr (-1))
 (
  kr (z2e.g a.2.2 b))
def Spec:Prop:=∀ (v0:MT) (v1:Int),Ty.bd (.pair (.int .i64) (.pair (.int .i64) (.sl 0 (.int .i64)))) v0->∃N0,∀N,N0<=N->Z0 N v0 v1 (λv4=>some ((),(v4,())))=some ((),((g v0 v1),()))
def ok:Spec:=λa left ha=>⟨0,λN hN=>by
 simp only[Z0,g]
 by_cases h:z2e.g a.2.2 left<0
 ·rw[ct (dt h),if_pos h]
 ·rw[cf (df h),if_neg h]⟩
end z2s
end
end Go.Fw
namespace Go.Fw
section
variable {ρ : Type}
namespace z1o
def P(a:Int×Int×List Int):Bool:=z1d.P a.2.2
abbrev g(a:Int×Int×List Int):Int×Int×List Int:=a
end z1o
namespace z1o
def Z0{ρ:Type}(N:Nat)(a:MT)(kr:LI->I2 (Option ρ)):Option ρ :=
 cond (lk N (z1d.P a.2.2)) (
  kr (z1d.g a.2.2) a.1 a.2.1) none
def Spec:Prop:=∀ (v0:MT),Ty.bd (.pair (.int .i64) (.pair (.int .i64) (.sl 0 (.int .i64)))) v0->P v0=true->∃N0,∀N,N0<=N->Z0 N v0 (λv2_2 v2_0 v2_1=>some ((),((v2_0,(v2_1,v2_2)),())))=some ((),((g v0),()))
def ok:Spec:=λa hb hp=>⟨0,λN hN=>by
 simp only[Z0]
 exact ct (show z1d.P a.2.2=true from hp)⟩
end z1o
end
end Go.Fw
namespace Go.Fw
def szMat_P(a:Int×Int×List Int)(hb:a.2.2.length<=maxLen)(h:¬ z2s.g a 1048576<0):z1o.P a=true/\a.2.2.length<=1048576:=by
 have h':¬ z2e.g a.2.2 1048576<0:=by
  unfold z2s.g at h
  by_cases e:z2e.g a.2.2 1048576<0
  ·rw[if_pos e]at h;omega
  ·exact e
 have:=(szInt_le a.2.2 1048576 hb (by omega) (by omega) h').1
 exact⟨toInt_P _ this,by omega⟩
end Go.Fw
namespace Go.Fw
section
variable {ρ : Type}
namespace z3y
def g(n low high:Int):Bool:=inK n low high
end z3y
namespace z3y
def Z0{ρ:Type}(N:Nat)(a b c:Int)(kr:Bool->Option ρ):Option ρ :=
 cond (lk N (decide (b<=a)))
 (
  kr (lk N (decide (a<=c))))
 (
  kr false)
def Spec:Prop:=∀ (v0 v1 v2:Int),∃N0,∀N,N0<=N->Z0 N v0 v1 v2 (λv6=>some ((),(v6,())))=some ((),((g v0 v1 v2),()))
def ok:Spec:=λn low high=>⟨0,λN hN=>by
 simp only[Z0,z2c,g,inK]
 cases decide (low<=n)<;>rfl⟩
end z3y
end
end Go.Fw
namespace Go.Fw
section
variable {ρ : Type}
namespace z0o
def g(m:Int×Int×List Int):Bool:=z1y m
end z0o
namespace z0o
def Z1{ρ:Type}(N:Nat)(a:MT)(kn:I2 (LI->Option ρ)):Option ρ :=
 kn a.1 a.2.1 a.2.2
def Z3{ρ:Type}(N:Nat)(a b:Int)(c:LI)(kn:I2 (LI->Option ρ))(kr:Bool->Option ρ):Option ρ :=
 cond (!(lk N ((z3y.g a 1 5))))
 (
  kr false)
 (
  cond (!(lk N ((z3y.g b a 8))))
  (
   kr false)
  (
   cond (lk N (!(decide ((c.length:Int)=(w64 (a*b))))))
   (
    kr false)
   (
    kn a b c)))
def Z6{ρ:Type}(N:Nat)(a b:Int)(c:LI)(kn:I3 (LI->Option ρ)):Option ρ :=
 kn 0 a b c
def Z9{ρ:Type}(N:Nat)(b c d:Int)(a:LI)(kn:I3 (LI->Option ρ))(k0:I2 (LI->Option ρ))(kr:Bool->Option ρ):Option ρ :=
 cond (lk N (decide (b<(a.length:Int))))
 (
  cond (lk N (inB b a.length)) (
   cond (!(lk N ((z3y.g (a.getD b.toNat 0) (-99) 99))))
   (
    kr false)
   (
    kn (w64 (b+1)) c d a)) none)
 (
  k0 c d a)
def Z8L{ρ:Type}(N:Nat)(k0:I2 (LI->Option ρ))(kr:Bool->Option ρ):Nat->Int->Int->Int->LI->Option ρ
 | 0,_,_,_,_=>none
 | M+1,a,b,c,d=>Z9 N a b c d (λa b c d=>Z8L N k0 kr M a b c d) k0 kr
def Z8 N a b c d k0 kr:=(Z8L N k0 kr N a b c d:Option ρ)
def Z7 N a b c d kn kr:=(Z8 N a b c d kn kr:Option ρ)
def Z5 N a b c kn kr:=(Z6 N a b c (λd a b c=>Z7 N d a b c kn kr):Option ρ)
def Z12{ρ:Type}(N:Nat)(a b:Int)(c:LI)(kn:I3 (LI->Option ρ)):Option ρ :=
 kn 0 a b c
def Z16{ρ:Type}(N:Nat)(a b c:Int)(d:LI)(kn:I3 (LI->Option ρ))(k2:Option ρ):Option ρ :=
 cond (lk N (decide (a<b)))
 (
  kn a b c d)
 (
  k2)
def Z20{ρ:Type}(N:Nat)(a b c:Int)(d:LI)(kn:I4 (LI->Option ρ)):Option ρ :=
 kn a 0 b c d
def Z23{ρ:Type}(N:Nat)(b c a d:Int)(e:LI)(kn:I4 (LI->Option ρ))(k4:I3 (LI->Option ρ))(kr:Bool->Option ρ):Option ρ :=
 cond (lk N (decide (c<a)))
 (
  cond (lk N (z0l.P (a,(d,e)) b c)) (
   cond (lk N (z0l.P (a,(d,e)) c b)) (
    cond (lk N (!(((lk N (decide (0<(z0l.g (a,(d,e)) b c)))) == (lk N (decide ((z0l.g (a,(d,e)) c b)<0)))))))
    (
     kr false)
    (
     cond (lk N (!(((lk N (decide ((z0l.g (a,(d,e)) b c)=0))) == (lk N (decide ((z0l.g (a,(d,e)) c b)=0)))))))
     (
      kr false)
     (
      kn b (w64 (c+1)) a d e))) none) none)
 (
  k4 b a d e)
def Z22L{ρ:Type}(N:Nat)(k4:I3 (LI->Option ρ))(kr:Bool->Option ρ):Nat->Int->Int->Int->Int->LI->Option ρ
 | 0,_,_,_,_,_=>none
 | M+1,a,b,c,d,e=>Z23 N a b c d e (λa b c d e=>Z22L N k4 kr M a b c d e) k4 kr
def Z22 N a b c d e k4 kr:=(Z22L N k4 kr N a b c d e:Option ρ)
def Z21 N a b c d e kn kr:=(Z22 N a b c d e kn kr:Option ρ)
def Z19 N a b c d kn kr:=(Z20 N a b c d (λa e b c d=>Z21 N a e b c d kn kr):Option ρ)
def Z18 N a b c d kn kr:=(Z19 N a b c d kn kr:Option ρ)
def Z24{ρ:Type}(N:Nat)(a b c:Int)(d:LI)(kn:I3 (LI->Option ρ)):Option ρ :=
 kn (w64 (a+1)) b c d
def Z17 N a b c d kn kr:=(Z18 N a b c d (λa b c d=>Z24 N a b c d kn) kr:Option ρ)
def Z15 N a b c d kn k2 kr:=(Z16 N a b c d (λa b c d=>Z17 N a b c d kn kr) k2:Option ρ)
def Z14L{ρ:Type}(N:Nat)(k2:Option ρ)(kr:Bool->Option ρ):Nat->Int->Int->Int->LI->Option ρ
 | 0,_,_,_,_=>none
 | M+1,a,b,c,d=>Z15 N a b c d (λa b c d=>Z14L N k2 kr M a b c d) k2 kr
def Z14 N a b c d k2 kr:=(Z14L N k2 kr N a b c d:Option ρ)
def Z13 N a b c d kn kr:=(Z14 N a b c d kn kr:Option ρ)
def Z11 N a b c kn kr:=(Z12 N a b c (λd a b c=>Z13 N d a b c kn kr):Option ρ)
def Z25{ρ:Type}(N:Nat) (kr:Bool->Option ρ):Option ρ :=
 kr true
def Z10 N a b c kr:=(Z11 N a b c (Z25 N kr) kr:Option ρ)
def Z4 N a b c kr:=(Z5 N a b c (λa b c=>Z10 N a b c kr) kr:Option ρ)
def Z2 N a b c kr:=(Z3 N a b c (λa b c=>Z4 N a b c kr) kr:Option ρ)
def Z0 N a kr:=(Z1 N a (λb c d=>Z2 N b c d kr):Option ρ)
def Spec:Prop:=∀ (v0:MT),Ty.bd (.pair (.int .i64) (.pair (.int .i64) (.sl 0 (.int .i64)))) v0->∃N0,∀N,N0<=N->Z0 N v0 (λv2=>some ((),(v2,())))=some ((),((g v0),()))
section
variable {ρ : Type} {N : Nat} {m : Int × Int × List Int}
def at_g(hd:0<=m.1)(a b:Nat):z0l.g (m.1,(m.2.1,m.2.2)) (a:Int) (b:Int)=ent m a b:=z5t hd a b
def at_p(hd:z4q m=true){a b:Nat}(ha:a<m.1.toNat)(hb:b<m.1.toNat):z0l.P (m.1,(m.2.1,m.2.2)) (a:Int) (b:Int)=true:=by
 obtain⟨n,r,hn,hr,hn1,hn5,hnr,hr8,hl⟩:=z13 hd
 exact zd9 hd (by omega) hb
def loop1(hl:m.2.2.length<=maxLen)(k0:Int->Int->List Int->Option ρ)(kr:Bool->Option ρ):∀(M j:Nat),j<=m.2.2.length->m.2.2.length-j<M ->
  Z8L N k0 kr M (j:Int) m.1 m.2.1 m.2.2=cond (entK (m.2.2.drop j)) (k0 m.1 m.2.1 m.2.2) (kr false):=by
 intro M
 induction M with
 | zero=>intro j _ h;omega
 | succ M ih =>
  intro j hj hM
  simp only[Z8L,Z9]
  by_cases h:j<m.2.2.length
  ·rw[ct (dt (by omega)),ct (z0u h),Int.toNat_natCast,z0w (by omega),z2d 0 h,entK,List.all_cons,ih (j+1) h (by omega)]
   simp only[z2c,z3y.g]
   cases inK (m.2.2.getD j 0) (-99) 99<;>rfl
  ·rw[cf (df (by omega)),List.drop_of_length_le (by omega)];rfl
def loop3(hd:z4q m=true)(k4:Int->Int->Int->List Int->Option ρ)(kr:Bool->Option ρ){i:Nat}(hi:i<m.1.toNat):∀(M j:Nat),j<=m.1.toNat->m.1.toNat-j<M ->
  Z22L N k4 kr M (i:Int) (j:Int) m.1 m.2.1 m.2.2=cond (((List.range m.1.toNat).drop j).all λj=>z9g (ent m i j) (ent m j i)) (k4 (i:Int) m.1 m.2.1 m.2.2) (kr false):=by
 obtain⟨n,r,hn,hr,hn1,hn5,hnr,hr8,hl⟩:=z13 hd
 intro M
 induction M with
 | zero=>intro j _ h;omega
 | succ M ih =>
  intro j hj hM
  simp only[Z22L,Z23]
  by_cases h:j<m.1.toNat
  ·rw[ct (dt (by omega)),ct (at_p hd hi h),ct (at_p hd h hi),z63 h,List.all_cons,z0w (by rw[z0k];omega),ih (j+1) h (by omega)]
   have hA:z0l.g (m.1,(m.2.1,m.2.2)) (i:Int) (j:Int)=ent m i j:=at_g (by omega) _ _
   have hB:z0l.g (m.1,(m.2.1,m.2.2)) (j:Int) (i:Int)=ent m j i:=at_g (by omega) _ _
   simp only[z2c,hA,hB,z9g]
   cases(decide (0<ent m i j) == decide (ent m j i<0))<;>cases(decide (ent m i j=0) == decide (ent m j i=0))<;>rfl
  ·rw[cf (df (by omega)),List.drop_of_length_le (by simp;omega)];rfl
def loop2(hN:10<=N)(hd:z4q m=true)(k2:Option ρ)(kr:Bool->Option ρ):∀(M i:Nat),i<=m.1.toNat->m.1.toNat-i<M ->
  Z14L N k2 kr M (i:Int) m.1 m.2.1 m.2.2=cond (((List.range m.1.toNat).drop i).all λi=>(List.range m.1.toNat).all λj=>z9g (ent m i j) (ent m j i)) k2 (kr false):=by
 obtain⟨n,r,hn,hr,hn1,hn5,hnr,hr8,hl⟩:=z13 hd
 intro M
 induction M with
 | zero=>intro i _ h;omega
 | succ M ih =>
  intro i hi hM
  simp only[Z14L,Z15,Z16]
  by_cases h:i<m.1.toNat
  ·rw[ct (dt (by omega))]
   simp only[Z17,Z18,Z19,Z20,Z21,Z22]
   have h3:=loop3 (ρ:=ρ) (N:=N) hd (λa b c d=>Z24 N a b c d (λa b c d=>Z14L N k2 kr M a b c d)) kr h N 0 (by omega) (by omega)
   rw[show((0:Nat):Int)=0 from rfl]at h3
   rw[h3,z63 h,List.all_cons,List.drop_zero]
   simp only[Z24]
   rw[z0w (by rw[z0k];omega),ih (i+1) h (by omega)]
   cases((List.range m.1.toNat).all λj=>z9g (ent m i j) (ent m j i))<;>rfl
  ·rw[cf (df (by omega)),List.drop_of_length_le (by simp;omega)];rfl
end
def ok:Spec:=λm hb=>⟨m.2.2.length+10,λN hN=>by
 have hlen:m.2.2.length<=maxLen:=hb.2.2.1
 simp only[Z0,Z1,Z2,Z3,z3y.g,g,z1y,z12]
 have main:z4q m=true->Z4 N m.1 m.2.1 m.2.2 (λt=>some ((),(t,())))=some ((),((entK m.2.2&&(List.range m.1.toNat).all λi=>(List.range m.1.toNat).all λj=>z9g (ent m i j) (ent m j i)),())):=by
  intro hd
  obtain⟨n,r,hn,hr,hn1,hn5,hnr,hr8,hl⟩:=z13 hd
  simp only[Z4,Z5,Z6,Z7,Z8]
  have h1:=loop1 (N:=N) hlen (λa b c=>Z10 N a b c (λt=>some ((),(t,())))) (λt=>some ((),(t,()))) N 0 (by omega) (by omega)
  rw[show((0:Nat):Int)=0 from rfl]at h1
  rw[h1,List.drop_zero]
  simp only[Z10,Z11,Z12,Z13,Z14,Z25]
  have h2:=loop2 (N:=N) (by omega) hd (some ((),(true,()))) (λt=>some ((),(t,()))) N 0 (by omega) (by omega)
  rw[show((0:Nat):Int)=0 from rfl]at h2
  rw[h2,List.drop_zero]
  cases entK m.2.2<;>cases((List.range m.1.toNat).all λi=>(List.range m.1.toNat).all λj=>z9g (ent m i j) (ent m j i))<;>rfl
 cases h1:inK m.1 1 5
 ·rw[z4q,h1];simp[z2c]
 cases h2:inK m.2.1 m.1 8
 ·rw[z4q,h1,h2];simp[z2c]
 have e1:=z3r.1 h1
 have e2:=z3r.1 h2
 have e3:0<=m.1*m.2.1:=Int.mul_nonneg (by omega) (by omega)
 have e4:m.1*m.2.1<=5*8:=Int.mul_le_mul (by omega) (by omega) (by omega) (by omega)
 rw[z1r (by omega) (by omega)]
 by_cases h3:(m.2.2.length:Int)=m.1*m.2.1
 ·have hd:z4q m=true:=by rw[z4q,h1,h2,dt h3];rfl
  rw[cf' (by simp[z2c]),cf' (by simp[z2c]),cf (nf h3),main hd,hd]
  rfl
 ·have hd:z4q m=false:=by rw[z4q,h1,h2,df h3];rfl
  rw[cf' (by simp[z2c]),cf' (by simp[z2c]),ct (nt h3),hd]
  rfl⟩
end z0o
end
end Go.Fw
namespace Go.Fw
section
variable {ρ : Type}
namespace z2r
def g(m:Int×Int×List Int):Bool:=z1y m&&!decide (z4y m=[])
end z2r
namespace z2r
def Z0{ρ:Type}(N:Nat)(a:MT)(kr:Bool->Option ρ):Option ρ :=
 cond (!(lk N ((z0o.g a))))
 (
  kr false)
 (
  cond (lk N (z02.P a)) (
   kr (lk N ((z02.g a).2))) none)
def Spec:Prop:=∀ (v0:MT),Ty.bd (.pair (.int .i64) (.pair (.int .i64) (.sl 0 (.int .i64)))) v0->∃N0,∀N,N0<=N->Z0 N v0 (λv2=>some ((),(v2,())))=some ((),((g v0),()))
def ok:Spec:=λm hb=>⟨0,λN hN=>by
 simp only[Z0,z2c,g,z0o.g,z02.P,z02.g]
 cases z1y m<;>rfl⟩
end z2r
end
end Go.Fw
namespace Go.Fw
section
variable {ρ : Type}
namespace z19
def P(a:List Int):Bool:=decide (a.length<1099511627776)
abbrev g(a:List Int):List Int:=a
end z19
namespace z19
def Z0{ρ:Type}(N:Nat)(a:LI)(kr:LI->Option ρ):Option ρ :=
 cond (lk N (Nat.blt (([]:List Int).length+a.length) 1099511627776)) (
  kr (([]:List Int)++a)) none
def Spec:Prop:=∀ (v0:LI),Ty.bd (.sl 0 (.int .i64)) v0->P v0=true->∃N0,∀N,N0<=N->Z0 N v0 (λv2=>some ((),(v2,())))=some ((),((g v0),()))
def ok:Spec:=λa hb hp=>⟨0,λN hN=>by
 have hl:a.length<1099511627776:=by simpa[P]using hp
 have hc:Nat.blt (([]:List Int).length+a.length) 1099511627776=true:=by simpa using hl
 simp only[Z0,z2c,g,hc,cond_true,List.nil_append]⟩
end z19
end
end Go.Fw
namespace Go.Fw
section
variable {ρ : Type}
namespace z2y
def g(m:Int×Int×List Int):Int×Int×List Int:=if(z1y m&&!decide (z4y m=[]))=true then z5r m else(0,0,[])
end z2y
namespace z2y
def Z0{ρ:Type}(N:Nat)(a:MT)(kr:LI->I2 (Option ρ)):Option ρ :=
 cond (!(lk N ((z2r.g a))))
 (
  kr ([]:List Int) 0 0)
 (
  cond (lk N (leB 0 (w64 (a.1*a.1))&&leB (w64 (a.1*a.1)) a.2.2.length)) (
   cond (lk N (z19.P (a.2.2.take (w64 (a.1*a.1)).toNat))) (
    kr (z19.g (a.2.2.take (w64 (a.1*a.1)).toNat)) a.1 a.1) none) none)
def Spec:Prop:=∀ (v0:MT),Ty.bd (.pair (.int .i64) (.pair (.int .i64) (.sl 0 (.int .i64)))) v0->∃N0,∀N,N0<=N->Z0 N v0 (λv2_2 v2_0 v2_1=>some ((),((v2_0,(v2_1,v2_2)),())))=some ((),((g v0),()))
def ok:Spec:=λm hb=>⟨0,λN hN=>by
 simp only[Z0,z2c,g,z2r.g]
 cases h:(z1y m&&!decide (z4y m=[]))
 ·rfl
 ·have hd:z4q m=true:=by
   simp only[Bool.and_eq_true]at h
   have hs:=h.1
   simp only[z1y,z12,Bool.and_eq_true]at hs
   first | exact hs.1.1 | exact hs.1
  obtain⟨h1,h2,h3,h4⟩:=zip hd
  have hP:z19.P (m.2.2.take (m.1*m.1).toNat)=true:=dt (by rw[List.length_take];omega)
  rw[h1,zh4 h2,zh4 h4,hP]
  rfl⟩
end z2y
end
end Go.Fw
namespace Go.Fw
section
variable {ρ : Type}
namespace z0t
def P(m:Int×Int×List Int):Bool:=z19.P m.2.2
abbrev g(m:Int×Int×List Int):Int×Int×List Int:=m
end z0t
namespace z0t
def Z0{ρ:Type}(N:Nat)(a:MT)(kr:LI->I2 (Option ρ)):Option ρ :=
 cond (lk N (z19.P a.2.2)) (
  kr (z19.g a.2.2) a.1 a.2.1) none
def Spec:Prop:=∀ (v0:MT),Ty.bd (.pair (.int .i64) (.pair (.int .i64) (.sl 0 (.int .i64)))) v0->P v0=true->∃N0,∀N,N0<=N->Z0 N v0 (λv2_2 v2_0 v2_1=>some ((),((v2_0,(v2_1,v2_2)),())))=some ((),((g v0),()))
def ok:Spec:=λm hb hp=>⟨0,λN hN=>by
 simp only[Z0]
 exact ct (show z19.P m.2.2=true from hp)⟩
end z0t
end
end Go.Fw
namespace Go.Fw
section
variable {ρ : Type}
namespace z0y
def P(f:List Int)(n:Int)(l:List (List Int)):Bool:=decide (0<=n)&&(decide (n<=5)&&(decide (f.length<=n.toNat)&&decide (l.length+5 ^ (n.toNat-f.length)<=4000)))
def g(f:List Int)(n:Int)(l:List (List Int)):List (List Int):=l++zbj n.toNat (n.toNat-f.length) f
def mu(f:List Int)(n:Int)(_:List (List Int)):Nat:=n.toNat-f.length
end z0y
namespace z0y
def Z1{ρ:Type}(N m:Nat)(a:LI)(b:Int)(c:LL)(kn:LI->LL->Int->Option ρ):Option ρ :=
 kn a c b
def Z3{ρ:Type}(N m:Nat)(a:LI)(b:LL)(c:Int)(kn:LI->LL->Int->Option ρ)(kr:LL->Option ρ):Option ρ :=
 cond (lk N (decide ((a.length:Int)=c)))
 (
  cond (lk N (Nat.blt (b.length+([a]:List (LI)).length) 1099511627776)) (
   kr (b++([a]:List (LI)))) none)
 (
  kn a b c)
def Z6{ρ:Type}(N m:Nat)(a:LI)(b:LL)(c:Int)(kn:LI->LL->I2 (Option ρ)):Option ρ :=
 kn a b c 0
def Z9{ρ:Type}(N m:Nat)(a:LI)(d:LL)(c b:Int)(kn:LI->LL->I2 (Option ρ))(k0:LL->Option ρ):Option ρ :=
 cond (lk N (decide (b<c)))
 (
  cond (!(lk N ((z1x.g a b))))
  (
   cond (lk N (z19.P a)) (
    cond (lk N (Nat.blt ((z19.g a).length+([b]:List Int).length) 1099511627776)) (
     cond (lk N (Nat.blt (mu ((z19.g a)++([b]:List Int)) c d) m&&P ((z19.g a)++([b]:List Int)) c d)) (
      kn a (g ((z19.g a)++([b]:List Int)) c d) c (w64 (b+1))) none) none) none)
  (
   kn a d c (w64 (b+1))))
 (
  k0 d)
def Z8L{ρ:Type}(N m:Nat)(k0:LL->Option ρ):Nat->LI->LL->Int->Int->Option ρ
 | 0,_,_,_,_=>none
 | M+1,a,b,c,d=>Z9 N m a b c d (λa b c d=>Z8L N m k0 M a b c d) k0
def Z8 N m a b c d k0:=(Z8L N m k0 N a b c d:Option ρ)
def Z7 N m a b c d kn:=(Z8 N m a b c d kn:Option ρ)
def Z5 N m a b c kn:=(Z6 N m a b c (λa b c d=>Z7 N m a b c d kn):Option ρ)
def Z10{ρ:Type}(N m:Nat)(a:LL)(kr:LL->Option ρ):Option ρ :=
 kr a
def Z4 N m b a c kr:=(Z5 N m b a c (λa=>Z10 N m a kr):Option ρ)
def Z2 N m a b c kr:=(Z3 N m a b c (λa b c=>Z4 N m a b c kr) kr:Option ρ)
def Z0 N m a b c kr:=(Z1 N m a b c (λa c b=>Z2 N m a c b kr):Option ρ)
def Spec:Prop:=∀(m:Nat) (v0:LI) (v1:Int) (v2:LL),Ty.bd (.sl 0 (.int .i64)) v0->Ty.bd (.sl 0 (.sl 0 (.int .i64))) v2->(Nat.blt (mu v0 v1 v2) (m+1)&&P v0 v1 v2)=true->∃N0,∀N,N0<=N->Z0 N m v0 v1 v2 (λv6=>some ((),(v6,())))=some ((),((g v0 v1 v2),()))
def zdw(n k:Nat)(f:List Int)(j:Nat):List (List Int):=((List.range n).drop j).flatMap λx=>cond (f.any λy=>decide (y=((x:Nat):Int))) [] (zbj n k (f++[((x:Nat):Int)]))
def loop{ρ:Type}{N m n k q:Nat}(hq:5 ^ k=q)(hn:n<=5){f:List Int}(hf:f.length+(k+1)=n)(hm:k<m)(k0:List (List Int)->Option ρ):∀(M j:Nat) (l:List (List Int)),j<=n->l.length+(n-j)*q<=4000->n-j<M ->
  Z8L N m k0 M f l (n:Int) (j:Int)=k0 (l++zdw n k f j):=by
 intro M
 induction M with
 | zero=>intro j l _ _ h;omega
 | succ M ih =>
  intro j l hj hl hM
  simp only[Z8L,Z9]
  by_cases h:j<n
  ·rw[ct (dt (by omega))]
   have e:(n-j)*q=(n-(j+1))*q+q:=by
    rw[<-Nat.succ_mul]
    congr 1
    omega
   have hr:zdw n k f j=cond (f.any λy=>decide (y=((j:Nat):Int))) [] (zbj n k (f++[((j:Nat):Int)]))++zdw n k f (j+1):=by
    unfold zdw
    rw[z63 h,List.flatMap_cons]
   rw[hr,z0w (by rw[z0k];omega)]
   have e0:z1x.g f (j:Int)=f.any λy=>decide (y=((j:Nat):Int)):=rfl
   rw[e0]
   cases f.any λy=>decide (y=((j:Nat):Int))
   ·have hI:z19.P f=true:=dt (by omega)
    have hIg:z19.g f=f:=rfl
    have hP:(Nat.blt (mu (f++[(j:Int)]) (n:Int) l) m&&P (f++[(j:Int)]) (n:Int) l)=true:=by
     have hlen:(f++[(j:Int)]).length=f.length+1:=by simp
     simp only[mu,P,hlen,Int.toNat_natCast,Bool.and_eq_true,decide_eq_true_eq]
     refine⟨Nat.ble_eq_true_of_le (by omega),by omega,by omega,by omega, ?_⟩
     rw[show n-(f.length+1)=k by omega,hq]
     omega
    have hg:g (f++[(j:Int)]) (n:Int) l=l++zbj n k (f++[(j:Int)]):=by
     have hlen:(f++[(j:Int)]).length=f.length+1:=by simp
     rw[g,hlen,Int.toNat_natCast,show n-(f.length+1)=k by omega]
    have hb:Nat.blt (f.length+([(j:Int)]:List Int).length) 1099511627776=true:=Nat.ble_eq_true_of_le (by simp;omega)
    have hol:=zgv n hn k (f++[(j:Int)])
    rw[hq]at hol
    rw[z2c,ct' (show(!false)=true from rfl),ct hI,hIg,ct hb,ct hP,hg,ih (j+1) _ h (by rw[List.length_append];omega) (by omega),cond_false,List.append_assoc]
   ·rw[z2c,cf' (show(!true)=false from rfl),ih (j+1) l h (by omega) (by omega),cond_true,List.nil_append]
  ·rw[cf (df (by omega)),show j=n by omega]
   unfold zdw
   rw[List.drop_of_length_le (by simp)]
   simp
def ok:Spec:=λm f n l hb hb2 hp=>⟨10,λN hN=>by
 simp only[P,mu,Bool.and_eq_true,decide_eq_true_eq]at hp
 obtain⟨h0,h1,h2,h3,h4⟩:=hp
 have h0:n.toNat-f.length<m+1:=Nat.le_of_ble_eq_true h0
 obtain⟨n,rfl⟩:=Int.eq_ofNat_of_zero_le h1
 simp only[Int.toNat_natCast]at h0 h3 h4
 have hn:n<=5:=by omega
 simp only[Z0,Z1,Z2,Z3]
 by_cases h:f.length=n
 ·have hp:=Nat.pow_pos (a:=5) (n:=n-f.length) (by omega)
  have hb:Nat.blt (l.length+([f]:List (List Int)).length) 1099511627776=true:=Nat.ble_eq_true_of_le (by simp;omega)
  rw[ct (dt (by omega)),ct hb,g,Int.toNat_natCast,show n-f.length=0 by omega]
  rfl
 ·rw[cf (df (by omega))]
  simp only[Z4,Z5,Z6,Z7,Z8]
  obtain⟨k,hk⟩:∃k,f.length+(k+1)=n:=⟨n-f.length-1,by omega⟩
  have e:n-f.length=k+1:=by omega
  rw[e,Nat.pow_succ]at h4
  have h5:n*5 ^ k<=5 ^ k*5:=by rw[Nat.mul_comm];exact Nat.mul_le_mul_left _ hn
  refine(loop rfl hn hk (by omega) _ N 0 l (Nat.zero_le _) (by rw[Nat.sub_zero];exact Nat.le_trans (Nat.add_le_add_left h5 _) h4) (by omega)).trans ?_
  rw[g,Int.toNat_natCast,e]
  rfl⟩
end z0y
end
end Go.Fw
namespace Go.Fw
section
variable {ρ : Type}
namespace z0g
def P(m:Int×Int×List Int)(names:List Int):Bool:=z4q m&&z4g names m.1
def g(m:Int×Int×List Int)(names:List Int):Int×Int×List Int:=z71 m names
end z0g
namespace z0g
def Z1{ρ:Type}(N:Nat)(a:MT)(b:LI)(kn:LI->I2 (LI->I2 (Option ρ))):Option ρ :=
 kn b a.1 a.2.1 a.2.2 0 0
def Z3{ρ:Type}(N:Nat)(d:LI)(a b:Int)(c:LI)(e f:Int)(kn:LI->LI->I2 (LI->I4 (Option ρ))):Option ρ :=
 cond (lk N (z0t.P (a,(b,c)))) (
  kn (z0t.g (a,(b,c))).2.2 d a b c e f (z0t.g (a,(b,c))).1 (z0t.g (a,(b,c))).2.1) none
def Z6{ρ:Type}(N:Nat)(a b:LI)(c d:Int)(e:LI)(f g h i:Int)(kn:LI->LI->I3 (LI->I4 (Option ρ))):Option ρ :=
 kn a b 0 c d e f g h i
def Z10{ρ:Type}(N:Nat)(a h:LI)(b i c:Int)(j:LI)(d e f g:Int)(kn:LI->LI->I3 (LI->I4 (Option ρ)))(k0:LI->I4 (Option ρ)):Option ρ :=
 cond (lk N (decide (b<c)))
 (
  kn a h b i c j d e f g)
 (
  k0 a d e f g)
def Z14{ρ:Type}(N:Nat)(b c:LI)(a d e:Int)(f:LI)(g h i j:Int)(kn:LI->LI->I4 (LI->I4 (Option ρ))):Option ρ :=
 kn b c a a d e f g h i j
def Z16{ρ:Type}(N:Nat)(d b:LI)(a l c e:Int)(f:LI)(g h i j:Int)(kn:LI->LI->I4 (LI->I4 (Option ρ))):Option ρ :=
 cond (lk N (decide (a<c)))
 (
  cond (lk N (inB a b.length)) (
   kn d b a (b.getD a.toNat 0) c e f g h i j) none)
 (
  kn d b a l c e f g h i j)
def Z18{ρ:Type}(N:Nat)(a b:LI)(c d e f:Int)(g:LI)(h i j l:Int)(kn:LI->LI->I5 (LI->I4 (Option ρ))):Option ρ :=
 kn a b c d 0 e f g h i j l
def Z21{ρ:Type}(N:Nat)(h c:LI)(d i a b e:Int)(f:LI)(j l m o:Int)(kn:LI->LI->I5 (LI->I4 (Option ρ)))(k2:LI->LI->I3 (LI->I4 (Option ρ))):Option ρ :=
 cond (lk N (decide (a<b)))
 (
  cond (lk N (inB a c.length)) (
   cond (lk N (z0l.P (b,(e,f)) d a)) (
    cond (lk N (inB (w64 ((w64 (i*b))+(c.getD a.toNat 0))) h.length)) (
     kn (h.set (w64 ((w64 (i*b))+(c.getD a.toNat 0))).toNat (z0l.g (b,(e,f)) d a)) c d i (w64 (a+1)) b e f j l m o) none) none) none)
 (
  k2 h c d b e f j l m o)
def Z20L{ρ:Type}(N:Nat)(k2:LI->LI->I3 (LI->I4 (Option ρ))):Nat->LI->LI->Int->Int->Int->Int->Int->LI->Int->Int->Int->Int->Option ρ
 | 0,_,_,_,_,_,_,_,_,_,_,_,_=>none
 | M+1,a,b,c,d,e,f,g,h,i,j,l,m=>Z21 N a b c d e f g h i j l m (λa b c d e f g h i j l m=>Z20L N k2 M a b c d e f g h i j l m) k2
def Z20 N a b c d e f g h i j l m k2:=(Z20L N k2 N a b c d e f g h i j l m:Option ρ)
def Z19 N a b c d e f g h i j l m kn:=(Z20 N a b c d e f g h i j l m kn:Option ρ)
def Z17 N a b c d e f g h i j l kn:=(Z18 N a b c d e f g h i j l (λa b c d m e f g h i j l=>Z19 N a b c d m e f g h i j l kn):Option ρ)
def Z15 N a b c d e f g h i j l kn:=(Z16 N a b c d e f g h i j l (λa b c d e f g h i j l=>Z17 N a b c d e f g h i j l kn):Option ρ)
def Z13 N a b c d e f g h i j kn:=(Z14 N a b c d e f g h i j (λa b c l d e f g h i j=>Z15 N a b c l d e f g h i j kn):Option ρ)
def Z12 N a b c d e f g h i j kn:=(Z13 N a b c d e f g h i j kn:Option ρ)
def Z22{ρ:Type}(N:Nat)(a b:LI)(c d e:Int)(f:LI)(g h i j:Int)(kn:LI->LI->I3 (LI->I4 (Option ρ))):Option ρ :=
 kn a b (w64 (c+1)) d e f g h i j
def Z11 N a b c d e f g h i j kn:=(Z12 N a b c d e f g h i j (λa b c d e f g h i j=>Z22 N a b c d e f g h i j kn):Option ρ)
def Z9 N a b c d e f g h i j kn k0:=(Z10 N a b c d e f g h i j (λa b c d e f g h i j=>Z11 N a b c d e f g h i j kn) k0:Option ρ)
def Z8L{ρ:Type}(N:Nat)(k0:LI->I4 (Option ρ)):Nat->LI->LI->Int->Int->Int->LI->Int->Int->Int->Int->Option ρ
 | 0,_,_,_,_,_,_,_,_,_,_=>none
 | M+1,a,b,c,d,e,f,g,h,i,j=>Z9 N a b c d e f g h i j (λa b c d e f g h i j=>Z8L N k0 M a b c d e f g h i j) k0
def Z8 N a b c d e f g h i j k0:=(Z8L N k0 N a b c d e f g h i j:Option ρ)
def Z7 N a b c d e f g h i j kn:=(Z8 N a b c d e f g h i j kn:Option ρ)
def Z5 N a b c d e f g h i kn:=(Z6 N a b c d e f g h i (λa b j c d e f g h i=>Z7 N a b j c d e f g h i kn):Option ρ)
def Z23{ρ:Type}(N:Nat)(a:LI)(d e b c:Int)(kr:LI->I2 (Option ρ)):Option ρ :=
 kr a b c
def Z4 N a f g h i b c d e kr:=(Z5 N a f g h i b c d e (λa b c d e=>Z23 N a b c d e kr):Option ρ)
def Z2 N a b c d e f kr:=(Z3 N a b c d e f (λg a b c d e f h i=>Z4 N g a b c d e f h i kr):Option ρ)
def Z0 N b a kr:=(Z1 N b a (λa c d e f g=>Z2 N a c d e f g kr):Option ρ)
def Spec:Prop:=∀ (v0:MT) (v1:LI),Ty.bd (.pair (.int .i64) (.pair (.int .i64) (.sl 0 (.int .i64)))) v0->Ty.bd (.sl 0 (.int .i64)) v1->P v0 v1=true->∃N0,∀N,N0<=N->Z0 N v0 v1 (λv4_2 v4_0 v4_1=>some ((),((v4_0,(v4_1,v4_2)),())))=some ((),((g v0 v1),()))
section
variable {ρ : Type} {N : Nat} {m : Int × Int × List Int} {L : List Nat}
def at_g(hd:0<=m.1)(a b:Nat):z0l.g (m.1,(m.2.1,m.2.2)) (a:Int) (b:Int)=ent m a b:=z5t hd a b
def at_p(hd:z4q m=true){a b:Nat}(ha:a<m.2.1.toNat)(hb:b<m.1.toNat):z0l.P (m.1,(m.2.1,m.2.2)) (a:Int) (b:Int)=true:=zd9 hd ha hb
def cur(m:Int×Int×List Int)(L:List Nat)(st:List Int)(t:Nat):List Int:=zqi m.2.2.length t (z7w m.1.toNat L) (λp=>m.2.2.getD (z7w m.1.toNat L p) 0) (λp=>st.getD p 0)
def inner(hd:z4q m=true)(h1:L.Nodup)(h2:∀x∈L,x<m.1.toNat)(h3:L.length=m.1.toNat)(st:List Int)(k2:List Int->List Int->Int->Int->Int->List Int->Int->Int->Int->Int->Option ρ)(t0 t1 o0 o1:Int){i:Nat}(hi:i<m.2.1.toNat):∀(M j:Nat),j<=m.1.toNat->m.1.toNat-j<M ->
  Z20L N k2 M (cur m L st (i*m.1.toNat+j)) (z33 L) (i:Int) ((z85 m.1.toNat L i:Nat):Int) (j:Int) m.1 m.2.1 m.2.2 t0 t1 o0 o1=k2 (cur m L st (i*m.1.toNat+m.1.toNat)) (z33 L) (i:Int) m.1 m.2.1 m.2.2 t0 t1 o0 o1:=by
 obtain⟨n,r,hn,hr,hn1,hn5,hnr,hr8,hl⟩:=z13 hd
 have hnr':m.1.toNat<=m.2.1.toNat:=by omega
 intro M
 induction M with
 | zero=>intro j _ h;omega
 | succ M ih =>
  intro j hj hM
  simp only[Z20L,Z21]
  by_cases h:j<m.1.toNat
  ·have hx:=h2 _ (z18 (l:=L) (j:=j) 0 (by omega))
   have hrow:=zlm h1 h2 h3 hnr' hi
   have hlt:z85 m.1.toNat L i*m.1.toNat+L.getD j 0<m.2.2.length:=by
    have:=z9n (n:=m.1.toNat) (r:=m.2.1.toNat) hrow hx
    rw[hl]
    have e:m.2.1.toNat*m.1.toNat=r*n:=by rw[hn,hr];rfl
    omega
   have hidx:w64 (w64 (((z85 m.1.toNat L i:Nat):Int)*m.1)+((L.getD j 0:Nat):Int))=((z85 m.1.toNat L i*m.1.toNat+L.getD j 0:Nat):Int):=by
    have e:((z85 m.1.toNat L i:Nat):Int)*m.1=((z85 m.1.toNat L i*m.1.toNat:Nat):Int):=by rw[hn,Int.natCast_mul];simp
    have hb:z85 m.1.toNat L i*m.1.toNat<=8*5:=Nat.mul_le_mul (by omega) (by omega)
    have e2:w64 (((z85 m.1.toNat L i*m.1.toNat:Nat):Int))=((z85 m.1.toNat L i*m.1.toNat:Nat):Int):=z1r (by omega) (by omega)
    rw[e,e2,z1r (by omega) (by omega)]
    omega
   have hset:(cur m L st (i*m.1.toNat+j)).set (z85 m.1.toNat L i*m.1.toNat+L.getD j 0) (ent m i j)=cur m L st (i*m.1.toNat+(j+1)):=by
    have e:=zn3 (total:=m.2.2.length) (t:=i*m.1.toNat+j) (p:=z85 m.1.toNat L i*m.1.toNat+L.getD j 0) (back:=z7w m.1.toNat L) (F:=λp=>m.2.2.getD (z7w m.1.toNat L p) 0) (G:=λp=>st.getD p 0) hlt (zdk h1 h2 h3 hnr' h) (λq _ hq=>zof h1 h2 h3 hnr' h hq)
    simp only[zdk h1 h2 h3 hnr' h]at e
    exact e
   rw[ct (dt (by omega)),ct (z0u (by rw[z1p];omega)),ct (at_p hd hi h)]
   simp only[Int.toNat_natCast,z3i,hidx]
   rw[ct (z0u (by rw[cur,zao];exact hlt)),at_g (by omega),hset,z0w (by rw[z0k];omega)]
   exact ih (j+1) h (by omega)
  ·rw[cf (df (by omega)),show j=m.1.toNat by omega]
def outer(hN:10<=N)(hd:z4q m=true)(h1:L.Nodup)(h2:∀x∈L,x<m.1.toNat)(h3:L.length=m.1.toNat)(st:List Int)(k0:List Int->Int->Int->Int->Int->Option ρ)(t0 t1 o0 o1:Int):∀(M i:Nat),i<=m.2.1.toNat->m.2.1.toNat-i<M ->
  Z8L N k0 M (cur m L st (i*m.1.toNat)) (z33 L) (i:Int) m.1 m.2.1 m.2.2 t0 t1 o0 o1=k0 (cur m L st (m.2.1.toNat*m.1.toNat)) t0 t1 o0 o1:=by
 obtain⟨n,r,hn,hr,hn1,hn5,hnr,hr8,hl⟩:=z13 hd
 intro M
 induction M with
 | zero=>intro i _ h;omega
 | succ M ih =>
  intro i hi hM
  simp only[Z8L,Z9,Z10]
  by_cases h:i<m.2.1.toNat
  ·have hin:=inner (ρ:=ρ) (N:=N) hd h1 h2 h3 st (λout5_2 names1 i6 m2_0 m2_1 m2_2 t4_0 t4_1 out5_0 out5_1=>Z22 N out5_2 names1 i6 m2_0 m2_1 m2_2 t4_0 t4_1 out5_0 out5_1 (λout5_2 names1 i6 m2_0 m2_1 m2_2 t4_0 t4_1 out5_0 out5_1=>Z8L N k0 M out5_2 names1 i6 m2_0 m2_1 m2_2 t4_0 t4_1 out5_0 out5_1)) t0 t1 o0 o1 h N 0 (by omega) (by omega)
   rw[show((0:Nat):Int)=0 from rfl,Nat.add_zero]at hin
   have hnext:=ih (i+1) h (by omega)
   rw[Nat.add_mul,Nat.one_mul]at hnext
   rw[ct (dt (by omega))]
   simp only[Z11,Z12,Z13,Z14,Z15,Z16]
   by_cases hin':i<m.1.toNat
   ·rw[ct (dt (by omega)),ct (z0u (by rw[z1p];omega)),Int.toNat_natCast,z3i]
    rw[z85,if_pos hin']at hin
    simp only[Z17,Z18,Z19,Z20]
    rw[hin]
    simp only[Z22]
    rw[z0w (by rw[z0k];omega)]
    exact hnext
   ·rw[cf (df (by omega))]
    rw[z85,if_neg hin']at hin
    simp only[Z17,Z18,Z19,Z20]
    rw[hin]
    simp only[Z22]
    rw[z0w (by rw[z0k];omega)]
    exact hnext
  ·rw[cf (df (by omega)),show i=m.2.1.toNat by omega]
def cur_start(L:List Nat):cur m L m.2.2 0=m.2.2:=by
 unfold cur
 rw[ziv]
 exact zaz 0 rfl
def cur_end(hd:z4q m=true)(h1:L.Nodup)(h2:∀x∈L,x<m.1.toNat)(h3:L.length=m.1.toNat)(st:List Int):cur m L st (m.2.1.toNat*m.1.toNat)=(z71 m (z33 L)).2.2:=by
 obtain⟨n,r,hn,hr,hn1,hn5,hnr,hr8,hl⟩:=z13 hd
 have e:m.2.1.toNat*m.1.toNat=m.2.2.length:=by rw[hl,hn,hr];simp
 rw[e]
 unfold cur z71
 rw[z3p]
 exact ziw (λp hp=>by
  have:=zuc h1 h2 h3 (r:=m.2.1.toNat) (by omega) (by omega) (q:=p) (by omega)
  omega)
end
def ok:Spec:=λm names hb hv hp=>⟨10,λN hN=>by
 simp only[P,Bool.and_eq_true]at hp
 obtain⟨hd,hnm⟩:=hp
 obtain⟨L,rfl,h1,h2,h3⟩:=z6b hnm
 obtain⟨n,r,hn,hr,hn1,hn5,hnr,hr8,hl⟩:=z13 hd
 have hlen:m.2.2.length<=8*5:=by rw[hl];exact Nat.mul_le_mul hr8 hn5
 simp only[Z0,Z1,Z2,Z3]
 rw[ct (show z0t.P (m.1,(m.2.1,m.2.2))=true from dt (show m.2.2.length<1099511627776 by omega))]
 simp only[Z4,Z5,Z6,Z7,Z8]
 have:=outer (ρ:=Unit×(Int×Int×List Int)×Unit) hN hd h1 h2 h3 m.2.2 (λout5_2 t4_0 t4_1 out5_0 out5_1=>Z23 N out5_2 t4_0 t4_1 out5_0 out5_1 (λt4_2 t4_0 t4_1=>some ((),((t4_0,(t4_1,t4_2)),())))) 0 0 m.1 m.2.1 N 0 (by omega) (by omega)
 rw[Nat.zero_mul,cur_start,cur_end hd h1 h2 h3]at this
 exact this⟩
end z0g
end
end Go.Fw
namespace Go.Fw
section
variable {ρ : Type}
namespace z1w
def g(a b:List Int):Bool:=z3e a b
end z1w
namespace z1w
def Z1{ρ:Type}(N:Nat)(a b:LI)(kn:LI->LI->Option ρ):Option ρ :=
 kn a b
def Z4{ρ:Type}(N:Nat)(a b:LI)(kn:LI->LI->Int->Option ρ):Option ρ :=
 kn a b 0
def Z7{ρ:Type}(N:Nat)(b c:LI)(a:Int)(kn:LI->LI->Int->Option ρ)(k0:LI->LI->Option ρ)(kr:Bool->Option ρ):Option ρ :=
 cond (lk N (decide (a<(b.length:Int))))
 (
  cond (lk N (decide (a<(c.length:Int))))
  (
   cond (lk N (inB a b.length)) (
    cond (lk N (inB a c.length)) (
     cond (lk N (!(decide ((b.getD a.toNat 0)=(c.getD a.toNat 0)))))
     (
      cond (lk N (inB a b.length)) (
       cond (lk N (inB a c.length)) (
        kr (lk N (decide ((b.getD a.toNat 0)<(c.getD a.toNat 0))))) none) none)
     (
      kn b c (w64 (a+1)))) none) none)
  (
   k0 b c))
 (
  k0 b c)
def Z6L{ρ:Type}(N:Nat)(k0:LI->LI->Option ρ)(kr:Bool->Option ρ):Nat->LI->LI->Int->Option ρ
 | 0,_,_,_=>none
 | M+1,a,b,c=>Z7 N a b c (λa b c=>Z6L N k0 kr M a b c) k0 kr
def Z6 N a b c k0 kr:=(Z6L N k0 kr N a b c:Option ρ)
def Z5 N a b c kn kr:=(Z6 N a b c kn kr:Option ρ)
def Z3 N a b kn kr:=(Z4 N a b (λa b c=>Z5 N a b c kn kr):Option ρ)
def Z8{ρ:Type}(N:Nat)(a b:LI)(kr:Bool->Option ρ):Option ρ :=
 kr (lk N (decide ((a.length:Int)<(b.length:Int))))
def Z2 N a b kr:=(Z3 N a b (λa b=>Z8 N a b kr) kr:Option ρ)
def Z0 N a b kr:=(Z1 N a b (λa b=>Z2 N a b kr):Option ρ)
def Spec:Prop:=∀ (v0 v1:LI),Ty.bd (.sl 0 (.int .i64)) v0->Ty.bd (.sl 0 (.int .i64)) v1->∃N0,∀N,N0<=N->Z0 N v0 v1 (λv4=>some ((),(v4,())))=some ((),((g v0 v1),()))
def loop{ρ:Type}(N:Nat)(k0:List Int->List Int->Option ρ)(kr:Bool->Option ρ)(a b:List Int)(ha:a.length<=maxLen)(h0:k0 a b=kr (decide (a.length<b.length))):∀(M j:Nat),j<=a.length->j<=b.length->a.length-j<M ->
  Z6L N k0 kr M a b (j:Int)=kr (z3e (a.drop j) (b.drop j)):=by
 intro M
 induction M with
 | zero=>intro j _ _ h;omega
 | succ M ih =>
  intro j hj hb hM
  simp only[Z6L,Z7]
  by_cases h:j<a.length
  ·rw[ct (dt (by omega)),z2d 0 h]
   by_cases h2:j<b.length
   ·rw[ct (dt (by omega)),ct (z0u h),ct (z0u h2),Int.toNat_natCast,z0w (by omega),z2d (l:=b) 0 h2,z3e,ih (j+1) h h2 (by omega)]
    by_cases e:a.getD j 0=b.getD j 0
    ·rw[cf (nf e),if_pos e]
    ·rw[ct (nt e),if_neg e,ct (z0u h),ct (z0u h2),z2c]
   ·rw[cf (df (by omega)),List.drop_of_length_le (l:=b) (by omega),h0,df (by omega)]
    rfl
  ·rw[cf (df (by omega)),List.drop_of_length_le (by omega),h0]
   by_cases h2:j<b.length
   ·rw[dt (by omega),z2d (l:=b) 0 h2];rfl
   ·rw[df (by omega),List.drop_of_length_le (l:=b) (by omega)];rfl
def ok:Spec:=λa b ha hb=>⟨a.length+1,λN hN=>by
 simp only[Z1,Z4,Z7,Z6,Z5,Z3,Z8,Z2,Z0]
 refine(loop N _ (λt=>some ((),(t,()))) a b ha.1 ?_ N 0 (by omega) (by omega) (by omega)).trans rfl
 rw[z2c,show decide ((a.length:Int)<(b.length:Int))=decide (a.length<b.length)from decide_eq_decide.2 (by omega)]⟩
end z1w
end
end Go.Fw
