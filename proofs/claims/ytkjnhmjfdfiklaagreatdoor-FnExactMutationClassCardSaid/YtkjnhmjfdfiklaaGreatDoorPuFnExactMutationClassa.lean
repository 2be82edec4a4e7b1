/- The plain part: what the functions compute, in lists and numbers. Nothing is assumed. -/
import Derived.Test.YtkjnhmjfdfiklaaGreatDoorFwd
import Derived.Lib.ItoaLen
import Derived.Lib.Join
import Derived.Test.YtkjnhmjfdfiklaaGreatDoorFza
import Derived.Lib.AtoiAll
import Derived.Lib.SplitLaws
noncomputable section
set_option linter.defProp false
set_option linter.unusedVariables false
namespace Go.Fw
def z3d:List Int->List Int->Bool
 | [],[]=>false
 | [],_::_=>true
 | _::_,[]=>false
 | x::xs,y::ys=>if x=y then z3d xs ys else decide (x<y)
def z71:List Int->List Int->Int
 | [],[]=>0
 | [],_::_=>-1
 | _::_,[]=>1
 | x::xs,y::ys=>if x=y then z71 xs ys else if x<y then -1 else 1
def zav:∀a b:List Int,decide (z71 a b<0)=z3d a b
 | [],[]=>rfl
 | [],_::_=>rfl
 | _::_,[]=>rfl
 | x::xs,y::ys=>by
  rw[z71,z3d]
  by_cases h:x=y
  ·rw[if_pos h,if_pos h,zav xs ys]
  ·rw[if_neg h,if_neg h]
   by_cases h2:x<y
   ·rw[if_pos h2,dt h2];rfl
   ·rw[if_neg h2,df h2];rfl
def inK(n lo hi:Int):Bool:=decide (lo<=n)&&decide (n<=hi)
def prevE(l:List (List Int×Int)):Nat->Option (List Int)
 | 0=>none
 | j+1=>some (l.getD j ([],0)).1
end Go.Fw
namespace Go.Fw
def zkv{α:Type}(n j:Nat)(F G:Nat->α):List α:=(List.range n).map λi=>if i<j then F i else G i
section
variable {α : Type} {n j : Nat} {F G : Nat → α}
def zaf:(zkv n j F G).length=n:=by simp[zkv]
def zn9{i:Nat}(h:i<n)(d:α):((List.range n).map F).getD i d=F i:=by
 rw[List.getD_eq_getElem?_getD,List.getElem?_map,List.getElem?_range h]
 rfl
def upto_get{i:Nat}(h:i<n)(d:α):(zkv n j F G).getD i d=if i<j then F i else G i:=zn9 h d
def zmn(h:j<n):(zkv n j F G).set j (F j)=zkv n (j+1) F G:=by
 apply List.ext_getElem?
 intro i
 by_cases hi:i<n
 ·by_cases e:j=i
  ·subst e
   rw[List.getElem?_set_self (by rw[zaf];exact h)]
   simp[zkv,List.getElem?_map,List.getElem?_range h]
  ·rw[List.getElem?_set_ne e]
   simp only[zkv,List.getElem?_map,List.getElem?_range hi,Option.map_some]
   by_cases h1:i<j
   ·rw[if_pos h1,if_pos (by omega)]
   ·rw[if_neg h1,if_neg (by omega)]
 ·rw[List.getElem?_eq_none (by rw[List.length_set,zaf];omega),List.getElem?_eq_none (by rw[zaf];omega)]
def zi8:zkv n 0 F G=(List.range n).map G:=by simp[zkv]
def zia:zkv n n F G=(List.range n).map F:=by
 unfold zkv
 apply List.map_congr_left
 intro i hi
 rw[if_pos (List.mem_range.1 hi)]
def zau{l:List α}(d:α)(h:l.length=n):(List.range n).map (λi=>l.getD i d)=l:=by
 apply List.ext_getElem?
 intro i
 by_cases hi:i<n
 ·rw[List.getElem?_map,List.getElem?_range hi,Option.map_some,List.getD_eq_getElem?_getD,List.getElem?_eq_getElem (by omega),Option.getD_some]
 ·rw[List.getElem?_eq_none (by simp;omega),List.getElem?_eq_none (by omega)]
end
end Go.Fw
namespace Go.Fw
def atP(m:Int×Int×List Int)(i j:Int):Bool:=decide (0<=i)&&(decide (0<=j)&&(decide (0<=m.1)&&decide (i*m.1+j<(m.2.2.length:Int))))
def atK(m:Int×Int×List Int)(i j:Int):Int:=m.2.2.getD (i*m.1+j).toNat 0
def zo3{m:Int×Int×List Int}{i j:Int}(hl:m.2.2.length<=maxLen)(h:atP m i j=true):w64 (w64 (i*m.1)+j)=i*m.1+j/\0<=i*m.1+j/\i*m.1+j<(m.2.2.length:Int):=by
 simp only[atP,Bool.and_eq_true,decide_eq_true_eq]at h
 obtain⟨h1,h2,h3,h4⟩:=h
 have h5:0<=i*m.1:=Int.mul_nonneg h1 h3
 rw[z0q]at hl
 have e:w64 (i*m.1)=i*m.1:=z1t (by omega) (by omega)
 rw[e,z1t (by omega) (by omega)]
 exact⟨rfl,by omega,h4⟩
def ent(m:Int×Int×List Int)(i j:Nat):Int:=m.2.2.getD (i*m.1.toNat+j) 0
def z8r{m:Int×Int×List Int}(h:0<=m.1)(i j:Nat):atK m (i:Int) (j:Int)=ent m i j:=by
 unfold atK ent
 congr 1
 obtain⟨n,hn⟩:=Int.eq_ofNat_of_zero_le h
 rw[hn]
 norm_cast
def z4v(m:Int×Int×List Int):Bool:=inK m.1 1 5&&(inK m.2.1 m.1 8&&decide ((m.2.2.length:Int)=m.1*m.2.1))
def entK(l:List Int):Bool:=l.all λx=>inK x (-99) 99
def z1a(m:Int×Int×List Int):Bool:=z4v m&&entK m.2.2
def zcw(a b:Int):Bool:=(decide (0<a) == decide (b<0))&&(decide (a=0) == decide (b=0))
def z2d(m:Int×Int×List Int):Bool:=z1a m&&(List.range m.1.toNat).all λi=>(List.range m.1.toNat).all λj=>zcw (ent m i j) (ent m j i)
def z3o{n lo hi:Int}:inK n lo hi=true↔lo<=n/\n<=hi:=by simp[inK]
def z19{m:Int×Int×List Int}(h:z4v m=true):∃n r:Nat,m.1=(n:Int)/\m.2.1=(r:Int)/\1<=n/\n<=5/\n<=r/\r<=8/\m.2.2.length=r*n:=by
 simp only[z4v,Bool.and_eq_true,z3o,decide_eq_true_eq]at h
 obtain⟨⟨h1,h2⟩,⟨h3,h4⟩,h5⟩:=h
 obtain⟨n,hn⟩:=Int.eq_ofNat_of_zero_le (show 0<=m.1 by omega)
 obtain⟨r,hr⟩:=Int.eq_ofNat_of_zero_le (show 0<=m.2.1 by omega)
 refine⟨n,r,hn,hr,by omega,by omega,by omega,by omega, ?_⟩
 rw[hn,hr,Int.mul_comm]at h5
 exact_mod_cast h5
def z9i{n r i j:Nat}(hi:i<r)(hj:j<n):i*n+j<r*n:=by
 have:=Nat.mul_le_mul_right n (show i+1<=r from hi)
 rw[Nat.add_mul]at this
 omega
def zkm{m:Int×Int×List Int}(h:z4v m=true){i j:Nat}(hi:i<m.2.1.toNat)(hj:j<m.1.toNat):atP m (i:Int) (j:Int)=true:=by
 obtain⟨n,r,hn,hr,_,_,_,_,hl⟩:=z19 h
 have:=z9i (n:=n) (r:=r) (i:=i) (j:=j) (by omega) (by omega)
 simp only[atP,Bool.and_eq_true,decide_eq_true_eq,hn,hl]
 refine⟨by omega,by omega,by omega, ?_⟩
 exact_mod_cast this
def zu6{l:List Int}(h:entK l=true)(i:Nat):-99<=l.getD i 0/\l.getD i 0<=99:=by
 by_cases hi:i<l.length
 ·have:=(List.all_eq_true.1 h) _ (z1d 0 hi)
  exact z3o.1 this
 ·rw[List.getD_eq_getElem?_getD,List.getElem?_eq_none (by omega),Option.getD_none];omega
def z5z{j n:Nat}(h:j<n):(List.range n).drop j=j::(List.range n).drop (j+1):=by
 rw[z1u 0 (by simpa using h),List.getD_eq_getElem?_getD,List.getElem?_range h,Option.getD_some]
end Go.Fw
namespace Go.Fw
def z7u:List Int->Nat
 | []=>0
 | x::xs=>Nat.gcd x.natAbs (z7u xs)
def zlm(l m:List Int):z7u (l++m)=Nat.gcd (z7u l) (z7u m):=by
 induction l with
 | nil=>simp[z7u]
 | cons x xs ih=>rw[List.cons_append,z7u,ih,z7u,Nat.gcd_assoc]
def zda(c:Int)(l:List Int):z7u (l.map λx=>c*x)=c.natAbs*z7u l:=by
 induction l with
 | nil=>simp[z7u]
 | cons x xs ih=>rw[List.map_cons,z7u,ih,z7u,Int.natAbs_mul,Nat.gcd_mul_left]
def zdb{l:List Int}{x:Int}(h:x∈l):((z7u l:Nat):Int)∣x:=by
 induction l with
 | nil=>cases h
 | cons y ys ih =>
  rw[z7u]
  rcases List.mem_cons.1 h with e | e
  ·subst e;exact Int.ofNat_dvd_left.2 (Nat.gcd_dvd_left _ _)
  ·exact Int.dvd_trans (Int.natCast_dvd_natCast.2 (Nat.gcd_dvd_right _ _)) (ih e)
def zac(n:Nat)(A:Nat->Nat->Int)(d:Nat->Int):Prop:=∀i,i<n->0<d i/\∀j,j<n->d i*A i j=-(d j*A j i)
def Prim(n:Nat)(A:Nat->Nat->Int)(d:Nat->Int):Prop:=∀i,i<n->∃L:List Nat,(∀k∈L,k<n)/\z7u (L.map d)=1/\∀e,zac n A e->∀k∈L,d i*e k=d k*e i
def zn0{n:Nat}{A:Nat->Nat->Int}{d e:Nat->Int}(hd:zac n A d)(he:zac n A e)(pd:Prim n A d){i:Nat}(hi:i<n):d i∣e i:=by
 obtain⟨L,h1,h2,h3⟩:=pd i hi
 have h4:(L.map d).map (λx=>e i*x)=(L.map e).map (λx=>d i*x):=by
  rw[List.map_map,List.map_map]
  apply List.map_congr_left
  intro k hk
  show e i*d k=d i*e k
  rw[h3 e he k hk,Int.mul_comm]
 have h5:(e i).natAbs*1=(d i).natAbs*z7u (L.map e):=by rw[<-h2,<-zda,<-zda,h4]
 exact Int.natAbs_dvd_natAbs.1 ⟨z7u (L.map e),by rw[<-h5,Nat.mul_one]⟩
def good_one{n:Nat}{A:Nat->Nat->Int}{d e:Nat->Int}(hd:zac n A d)(he:zac n A e)(pd:Prim n A d)(pe:Prim n A e){i:Nat}(hi:i<n):d i=e i:=by
 have h1:=zn0 hd he pd hi
 have h2:=zn0 he hd pe hi
 have:=(hd i hi).1
 have:=(he i hi).1
 exact Int.dvd_antisymm (by omega) (by omega) h1 h2
def zax{n:Nat}{A:Nat->Nat->Int}{e:Nat->Int}(he:zac n A e){i j:Nat}(hi:i<n)(hj:j<n)(h:A i j=0):A j i=0:=by
 have h1:=(he i hi).2 j hj
 rw[h,Int.mul_zero]at h1
 have h2:e j*A j i=0:=by omega
 rcases Int.mul_eq_zero.1 h2 with h3 | h3
 ·have:=(he j hj).1;omega
 ·exact h3
def zir{a b e f p q:Int}(he:0<e)(hf:0<f)(h:a*f=b*e)(hg:e*p=-(f*q)):a*p=-(b*q):=by
 have h1:f*(a*p)=f*(-(b*q)):=by
  calc f*(a*p)=(a*f)*p:=by rw[<-Int.mul_assoc,Int.mul_comm f a]
   _=b*(e*p):=by rw[h,Int.mul_assoc]
   _=f*(-(b*q)):=by rw[hg,Int.mul_neg,Int.mul_neg,Int.mul_left_comm]
 exact Int.eq_of_mul_eq_mul_left (by omega) h1
def zon{a b e f p q:Int}(hp:p≠0)(he:0<e)(h:a*p=-(b*q))(hg:e*p=-(f*q))(hq:q≠0):a*f=b*e:=by
 have h1:q*(a*f)=q*(b*e):=by
  calc q*(a*f)=a*(f*q):=by rw[Int.mul_left_comm,Int.mul_comm q f]
   _=a * -(e*p):=by rw[hg,Int.neg_neg]
   _=e*(-(a*p)):=by rw[Int.mul_neg,Int.mul_neg,Int.mul_left_comm]
   _=q*(b*e):=by rw[h,Int.neg_neg,Int.mul_left_comm,Int.mul_comm e q,Int.mul_left_comm]
 exact Int.eq_of_mul_eq_mul_left hq h1
def zfi{a b c e f g:Int}(hf:f≠0)(h1:a*f=b*e)(h2:b*g=c*f):a*g=c*e:=by
 have h3:f*(a*g)=f*(c*e):=by
  calc f*(a*g)=(a*f)*g:=by rw[<-Int.mul_assoc,Int.mul_comm f a]
   _=e*(b*g):=by rw[h1,Int.mul_comm b e,Int.mul_assoc]
   _=f*(c*e):=by rw[h2,Int.mul_left_comm,Int.mul_comm e f,Int.mul_left_comm]
 exact Int.eq_of_mul_eq_mul_left hf h3
open Classical in
def z5h(m:Int×Int×List Int):List Int :=
 if h:∃l:List Int,l.length=m.1.toNat/\zac m.1.toNat (ent m) (λi=>l.getD i 0)/\Prim m.1.toNat (ent m) (λi=>l.getD i 0)then Classical.choose h else[]
def zrz{m:Int×Int×List Int}{l:List Int}(h1:l.length=m.1.toNat)(h2:zac m.1.toNat (ent m) (λi=>l.getD i 0))(h3:Prim m.1.toNat (ent m) (λi=>l.getD i 0)):z5h m=l:=by
 have h:∃l:List Int,l.length=m.1.toNat/\zac m.1.toNat (ent m) (λi=>l.getD i 0)/\Prim m.1.toNat (ent m) (λi=>l.getD i 0):=⟨l,h1,h2,h3⟩
 have hc:=Classical.choose_spec h
 rw[z5h,dif_pos h]
 generalize Classical.choose h=c at hc
 obtain⟨c1,c2,c3⟩:=hc
 apply List.ext_getElem?
 intro i
 by_cases hi:i<m.1.toNat
 ·have:=good_one c2 h2 c3 h3 hi
  simp only[List.getD_eq_getElem?_getD]at this
  rw[List.getElem?_eq_getElem (by omega),List.getElem?_eq_getElem (by omega)]at this ⊢
  simpa using this
 ·rw[List.getElem?_eq_none (by omega),List.getElem?_eq_none (by omega)]
def znk{m:Int×Int×List Int}(h:¬ ∃e,zac m.1.toNat (ent m) e):z5h m=[]:=by
 rw[z5h,dif_neg]
 rintro ⟨l,_,h2,_⟩
 exact h ⟨_,h2⟩
def zdd{m:Int×Int×List Int}(h:z5h m≠[]):(z5h m).length=m.1.toNat/\zac m.1.toNat (ent m) (λi=>(z5h m).getD i 0)/\Prim m.1.toNat (ent m) (λi=>(z5h m).getD i 0):=by
 by_cases hx:∃l:List Int,l.length=m.1.toNat/\zac m.1.toNat (ent m) (λi=>l.getD i 0)/\Prim m.1.toNat (ent m) (λi=>l.getD i 0)
 ·have:z5h m=Classical.choose hx:=by rw[z5h,dif_pos hx]
  rw[this]
  exact Classical.choose_spec hx
 ·exact absurd (by rw[z5h,dif_neg hx]) h
def z8h{n:Nat}{A:Nat->Nat->Int}{e:Nat->Int}(he:zac n A e){i j:Nat}(hi:i<n)(hj:j<n):zcw (A i j) (A j i)=true:=by
 have h1:=(he i hi).2 j hj
 have h2:=(he i hi).1
 have h3:=(he j hj).1
 have e1:decide (0<A i j)=decide (A j i<0):=by
  rw[decide_eq_decide]
  constructor
  ·intro h
   have:=Int.mul_pos h2 h
   rcases Int.lt_or_le (A j i) 0 with h4 | h4
   ·exact h4
   ·have:=Int.mul_nonneg (Int.le_of_lt h3) h4;omega
  ·intro h
   have:=Int.mul_neg_of_pos_of_neg h3 h
   rcases Int.lt_or_le 0 (A i j)with h4 | h4
   ·exact h4
   ·have:=Int.mul_nonpos_of_nonneg_of_nonpos (Int.le_of_lt h2) h4;omega
 have e2:decide (A i j=0)=decide (A j i=0):=by
  rw[decide_eq_decide]
  exact⟨zax he hi hj,zax he hj hi⟩
 rw[zcw,e1,e2]
 simp
def zry{m:Int×Int×List Int}(hs:z1a m=true)(h:z5h m≠[]):z2d m=true:=by
 obtain⟨h1,h2,h3⟩:=zdd h
 rw[z2d,hs,Bool.true_and,List.all_eq_true]
 intro i hi
 rw[List.all_eq_true]
 intro j hj
 exact z8h h2 (List.mem_range.1 hi) (List.mem_range.1 hj)
end Go.Fw
namespace Go.Fw
def z32(l:List Nat):List Int:=l.map λ(x:Nat)=>(x:Int)
def z1q(l:List Nat):(z32 l).length=l.length:=by simp[z32]
def z3g(l:List Nat)(k:Nat):(z32 l).getD k 0=((l.getD k 0:Nat):Int):=by
 simp only[z32,List.getD_eq_getElem?_getD,List.getElem?_map]
 cases l[k]?<;>rfl
def za0(l:List Nat)(x:Nat):z32 l++[(x:Int)]=z32 (l++[x]):=by simp[z32]
def zn8{l:List Nat}{x:Nat}:((x:Int)∈z32 l)↔x∈l:=by
 simp only[z32,List.mem_map]
 constructor
 ·rintro ⟨a,h1,h2⟩
  rwa [<-Int.ofNat.inj h2]
 ·exact λh=>⟨x,h,rfl⟩
def zap:∀(n:Nat) (l:List Nat),l.Nodup->(∀x∈l,x<n)->l.length<=n
 | 0,l,_,h=>by
  cases l with
  | nil=>simp
  | cons x xs=>exact absurd (h x (by simp)) (by omega)
 | n+1,l,hn,h=>by
  have:=zap n (l.erase n) (hn.erase n) (λx hx=>by
   have h1:=(hn.mem_erase_iff).1 hx
   have:=h x h1.2
   omega)
  rw[List.length_erase]at this
  split at this<;>omega
def pIn(A:Nat->Nat->Int)(x:Nat):List Nat->List Nat×List Nat->List Nat×List Nat
 | [],s=>s
 | j::js,s=>pIn A x js (if A x j≠0/\j∉s.1 then(s.1++[j],s.2++[x])else s)
def pGo(A:Nat->Nat->Int)(n:Nat):Nat->Nat->List Nat×List Nat->List Nat×List Nat
 | 0,_,s=>s
 | f+1,p,s=>if p<s.1.length then pGo A n f (p+1) (pIn A (s.1.getD p 0) (List.range n) s)else s
def zcc(m:Int×Int×List Int)(i:Nat):List Nat×List Nat:=pGo (ent m) m.1.toNat m.1.toNat 0 ([i],[i])
structure zd4(n:Nat)(A:Nat->Nat->Int)(i:Nat)(s:List Nat×List Nat):Prop where
 nd:s.1.Nodup
 lt:∀x∈s.1,x<n
 len:s.2.length=s.1.length
 hd:s.1.getD 0 0=i
 pos:0<s.1.length
 src:∀k,1<=k->k<s.1.length->∃k',k'<k/\s.2.getD k 0=s.1.getD k' 0/\A (s.2.getD k 0) (s.1.getD k 0)≠0
def zd4.le{n:Nat}{A:Nat->Nat->Int}{i:Nat}{s:List Nat×List Nat}(h:zd4 n A i s):s.1.length<=n:=zap n s.1 h.nd h.lt
def z2n{α:Type}{l m:List α}{k:Nat}{d:α}(h:k<l.length):(l++m).getD k d=l.getD k d:=by
 simp only[List.getD_eq_getElem?_getD]
 rw[List.getElem?_append_left h]
def z6r{α:Type}{l:List α}{x d:α}{k:Nat}(h:k=l.length):(l++[x]).getD k d=x:=by
 subst h
 simp[List.getD_eq_getElem?_getD]
def zd4.step{n:Nat}{A:Nat->Nat->Int}{i p j:Nat}{s:List Nat×List Nat}(h:zd4 n A i s)(hp:p<s.1.length)(hj:j<n)(ha:A (s.1.getD p 0) j≠0/\j∉s.1):zd4 n A i (s.1++[j],s.2++[s.1.getD p 0]):=by
 refine⟨?_, ?_, ?_, ?_, ?_, ?_⟩
 ·exact List.nodup_append.2 ⟨h.nd,by simp,λa ha' b hb e=>by
   rw[List.mem_singleton]at hb;subst hb;subst e;exact ha.2 ha'⟩
 ·intro x hx
  rcases List.mem_append.1 hx with hx | hx
  ·exact h.lt x hx
  ·rw[List.mem_singleton]at hx;omega
 ·simp[h.len]
 ·exact(z2n h.pos).trans h.hd
 ·simp
 ·intro k h1 h2
  simp only[List.length_append,List.length_cons,List.length_nil]at h2
  by_cases hk:k<s.1.length
  ·obtain⟨k',h3,h4,h5⟩:=h.src k h1 hk
   refine⟨k',h3, ?_, ?_⟩
   ·show(s.2++_).getD k 0=(s.1++_).getD k' 0
    rw[z2n (by rw[h.len];exact hk),z2n (by omega),h4]
   ·show A ((s.2++_).getD k 0) ((s.1++_).getD k 0)≠0
    rw[z2n (by rw[h.len];exact hk),z2n hk]
    exact h5
  ·have e:k=s.1.length:=by omega
   refine⟨p,by omega, ?_, ?_⟩
   ·show(s.2++_).getD k 0=(s.1++_).getD p 0
    rw[z6r (by rw[h.len];exact e),z2n hp]
   ·show A ((s.2++_).getD k 0) ((s.1++_).getD k 0)≠0
    rw[z6r (by rw[h.len];exact e),z6r e]
    exact ha.1
def zmj(s t:List Nat×List Nat):Prop:=∃u,t.1=s.1++u
def zmj.getD{s t:List Nat×List Nat}(h:zmj s t){k:Nat}(hk:k<s.1.length):t.1.getD k 0=s.1.getD k 0:=by
 obtain⟨u,h⟩:=h
 rw[h,z2n hk]
def zmj.len{s t:List Nat×List Nat}(h:zmj s t):s.1.length<=t.1.length:=by
 obtain⟨u,h⟩:=h
 rw[h];simp
def zmj.mem{s t:List Nat×List Nat}(h:zmj s t){x:Nat}(hx:x∈s.1):x∈t.1:=by
 obtain⟨u,h⟩:=h
 rw[h];exact List.mem_append_left _ hx
def zgn{n:Nat}{A:Nat->Nat->Int}{i p:Nat}:∀(js:List Nat) (s:List Nat×List Nat),zd4 n A i s->p<s.1.length->(∀j∈js,j<n) ->
  zd4 n A i (pIn A (s.1.getD p 0) js s)/\zmj s (pIn A (s.1.getD p 0) js s)/\∀j∈js,A (s.1.getD p 0) j≠0->j∈(pIn A (s.1.getD p 0) js s).1
 | [],s,h,_,_=>⟨h,⟨[],by simp[pIn]⟩,λj hj=>by cases hj⟩
 | j::js,s,h,hp,hl=>by
  by_cases ha:A (s.1.getD p 0) j≠0/\j∉s.1
  ·have e:(s.1++[j]).getD p 0=s.1.getD p 0:=z2n hp
   have:=zgn (p:=p) js (s.1++[j],s.2++[s.1.getD p 0]) (h.step hp (hl j (by simp)) ha) (by simp;omega) (λx hx=>hl x (by simp[hx]))
   simp only[e]at this
   obtain⟨h1,⟨u,h2⟩,h3⟩:=this
   rw[pIn,if_pos ha]
   refine⟨h1,⟨[j]++u,by rw[h2];simp⟩,λx hx hax=>?_⟩
   rcases List.mem_cons.1 hx with hx | hx
   ·subst hx;rw[h2];simp
   ·exact h3 x hx hax
  ·have:=zgn (p:=p) js s h hp (λx hx=>hl x (by simp[hx]))
   obtain⟨h1,h2,h3⟩:=this
   rw[pIn,if_neg ha]
   refine⟨h1,h2,λx hx hax=>?_⟩
   rcases List.mem_cons.1 hx with hx | hx
   ·subst hx
    exact h2.mem (Classical.byContradiction λhc=>ha ⟨hax,hc⟩)
   ·exact h3 x hx hax
def zqw{n:Nat}{A:Nat->Nat->Int}{i:Nat}:∀(f p:Nat) (s:List Nat×List Nat),zd4 n A i s->n<=f+p->p<=s.1.length->(∀k,k<p->∀j,j<n->A (s.1.getD k 0) j≠0->j∈s.1) ->
  zd4 n A i (pGo A n f p s)/\∀x∈(pGo A n f p s).1,∀j,j<n->A x j≠0->j∈(pGo A n f p s).1
 | 0,p,s,h,hf,hp,hc=>⟨h,λx hx j hj ha=>by
   change x∈s.1 at hx
   show j∈s.1
   obtain⟨k,hk,rfl⟩:=List.getElem_of_mem hx
   have:=h.le
   refine hc k (by omega) j hj ?_
   rw[List.getD_eq_getElem?_getD,List.getElem?_eq_getElem hk]
   exact ha⟩
 | f+1,p,s,h,hf,hp,hc=>by
  rw[pGo]
  by_cases hlt:p<s.1.length
  ·rw[if_pos hlt]
   obtain⟨h1,h2,h3⟩:=zgn (p:=p) (List.range n) s h hlt (λx hx=>List.mem_range.1 hx)
   refine zqw f (p+1) _ h1 (by omega) (by have:=h2.len;omega) ?_
   intro k hk j hj ha
   by_cases e:k=p
   ·subst e
    rw[h2.getD hlt]at ha
    exact h3 j (List.mem_range.2 hj) ha
   ·rw[h2.getD (by omega)]at ha
    exact h2.mem (hc k (by omega) j hj ha)
  ·rw[if_neg hlt]
   refine⟨h,λx hx j hj ha=>?_⟩
   obtain⟨k,hk,rfl⟩:=List.getElem_of_mem hx
   refine hc k (by omega) j hj ?_
   rw[List.getD_eq_getElem?_getD,List.getElem?_eq_getElem hk]
   exact ha
def zd4.first{n:Nat}{A:Nat->Nat->Int}{i:Nat}(h:i<n):zd4 n A i ([i],[i]) :=
 ⟨by simp,by simpa using h,rfl,rfl,by simp,λk h1 h2=>by simp at h2;omega⟩
def piece_ok{m:Int×Int×List Int}{i:Nat}(h:i<m.1.toNat):zd4 m.1.toNat (ent m) i (zcc m i)/\∀x∈(zcc m i).1,∀j,j<m.1.toNat->ent m x j≠0->j∈(zcc m i).1 :=
 zqw m.1.toNat 0 _ (zd4.first h) (by omega) (by simp) (λk hk=>by omega)
end Go.Fw
namespace Go.Fw
def z1x{α:Type}{l:List α}{x y:Nat}{v d:α}(h:x<l.length):(l.set x v).getD y d=if x=y then v else l.getD y d:=by
 by_cases e:x=y
 ·subst e
  rw[if_pos rfl,zay h]
 ·rw[if_neg e,List.getD_eq_getElem?_getD,List.getElem?_set_ne e,List.getD_eq_getElem?_getD]
def z4r{l:List Nat}(h:l.Nodup){a b:Nat}(ha:a<l.length)(hb:b<l.length)(e:l.getD a 0=l.getD b 0):a=b:=by
 rw[List.getD_eq_getElem?_getD,List.getD_eq_getElem?_getD,List.getElem?_eq_getElem ha,List.getElem?_eq_getElem hb,Option.getD_some,Option.getD_some]at e
 rcases Nat.lt_trichotomy a b with h1 | h1 | h1
 ·exact absurd e (List.pairwise_iff_getElem.1 h a b ha hb h1)
 ·exact h1
 ·exact absurd e.symm (List.pairwise_iff_getElem.1 h b a hb ha h1)
def z7h{l:List Nat}{x:Nat}(h:x∈l):∃k,k<l.length/\l.getD k 0=x:=by
 obtain⟨k,hk,rfl⟩:=List.getElem_of_mem h
 exact⟨k,hk,by rw[List.getD_eq_getElem?_getD,List.getElem?_eq_getElem hk,Option.getD_some]⟩
def zfh{α:Type}(l:List Nat)(f:Nat->α):(List.range l.length).map (λt=>f (l.getD t 0))=l.map f:=by
 have:=zau (n:=l.length) (l:=l) 0 rfl
 conv=>rhs;rw[<-this]
 rw[List.map_map]
 rfl
def z5v(a:Int):Int:=(a.natAbs:Int)
def z99{a:Int}(h:a≠0):0<z5v a:=by unfold z5v;omega
def zep{a:Int}(h:-99<=a/\a<=99):z5v a<=99:=by unfold z5v;omega
def zo8{e f p q:Int}(he:0<e)(hf:0<f)(h:e*p=-(f*q)):e*z5v p=f*z5v q:=by
 have h1:(e*p).natAbs=(f*q).natAbs:=by rw[h,Int.natAbs_neg]
 rw[Int.natAbs_mul,Int.natAbs_mul]at h1
 have:((e.natAbs*p.natAbs:Nat):Int)=((f.natAbs*q.natAbs:Nat):Int):=by rw[h1]
 rw[Int.natCast_mul,Int.natCast_mul,Int.natAbs_of_nonneg (Int.le_of_lt he),Int.natAbs_of_nonneg (Int.le_of_lt hf)]at this
 exact this
def z5k(q:Nat->Int):Nat->Int
 | 0=>1
 | k+1=>z5k q k*q k
def zqm(q:Nat->Int){a b:Nat}(h:a<=b):z5k q a∣z5k q b:=by
 induction b with
 | zero=>rw[show a=0 by omega];exact Int.dvd_refl _
 | succ b ih =>
  by_cases e:a=b+1
  ·subst e;exact Int.dvd_refl _
  ·exact Int.dvd_trans (ih (by omega)) ⟨q b,rfl⟩
def z63{q:Nat->Int}{n:Nat}(h:∀k,k<n->0<q k/\q k<=99):∀k,k<=n->0<z5k q k/\z5k q k<=99 ^ k
 | 0,_=>by simp[z5k]
 | k+1,hk=>by
  obtain⟨h1,h2⟩:=z63 h k (by omega)
  obtain⟨h3,h4⟩:=h k (by omega)
  refine⟨Int.mul_pos h1 h3, ?_⟩
  rw[Int.pow_succ]
  exact Int.mul_le_mul h2 h4 (by omega) (Int.pow_nonneg (by omega))
def zqn{k:Nat}(h:k<=8):(99:Int) ^ k<=9227446944279201:=by
 have h1:99 ^ k<=99 ^ 8:=Nat.pow_le_pow_right (by omega) h
 have h2:(99:Int) ^ k=((99 ^ k:Nat):Int):=by rw[Int.natCast_pow];rfl
 rw[h2]
 omega
def tree_div{H D Hk q p a:Int}(hH:0<Hk)(hq:0<q)(hp:0<p)(ha:0<a)(h1:Hk*q∣D)(h2:D∣a*Hk) :
  (Int.tdiv (a*p) q)*q=a*p/\0<Int.tdiv (a*p) q/\D∣Int.tdiv (a*p) q*(Hk*q):=by
 obtain⟨R,hR⟩:=h1
 obtain⟨c,hc⟩:=h2
 have e:a=q*(R*c):=by
  have:Hk*a=Hk*(q*(R*c)):=by
   rw[Int.mul_comm Hk a,hc,hR,<-Int.mul_assoc Hk q,Int.mul_assoc]
  exact Int.eq_of_mul_eq_mul_left (by omega) this
 have e2:Int.tdiv (a*p) q=R*c*p:=by
  rw[e,Int.mul_assoc,Int.mul_tdiv_cancel_left _ (by omega)]
 rw[e2]
 refine⟨by rw[e,Int.mul_comm (R*c*p) q,Int.mul_assoc q], ?_, ?_⟩
 ·have h3:0<q*(R*c*p):=by rw[<-Int.mul_assoc,<-e];exact Int.mul_pos ha hp
  rcases Int.lt_or_le 0 (R*c*p)with h | h
  ·exact h
  ·have:=Int.mul_nonpos_of_nonneg_of_nonpos (Int.le_of_lt hq) h;omega
 ·refine⟨c*p, ?_⟩
  rw[hR,Int.mul_comm (R*c*p),Int.mul_assoc,Int.mul_assoc,Int.mul_assoc,Int.mul_assoc]
def zng(g:Nat)(l:List Int)(x:Int)(hx:0<=x)(hg:g=z7u l):(Int.gcd (g:Int) x:Int)=((z7u (l++[x]):Nat):Int):=by
 subst hg
 rw[zlm,z7u,z7u,Nat.gcd_zero_right]
 rfl
end Go.Fw
namespace Go.Fw
def qK(m:Int×Int×List Int)(s:List Nat×List Nat)(k:Nat):Int:=if k=0 then 1 else z5v (ent m (s.1.getD k 0) (s.2.getD k 0))
def pK(m:Int×Int×List Int)(s:List Nat×List Nat)(k:Nat):Int:=z5v (ent m (s.2.getD k 0) (s.1.getD k 0))
def z91{m:Int×Int×List Int}(h:z2d m=true){i j:Nat}(hi:i<m.1.toNat)(hj:j<m.1.toNat):ent m i j=0↔ent m j i=0:=by
 rw[z2d,Bool.and_eq_true,List.all_eq_true]at h
 have h1:=List.all_eq_true.1 (h.2 i (List.mem_range.2 hi)) j (List.mem_range.2 hj)
 rw[zcw,Bool.and_eq_true]at h1
 have h2:=h1.2
 rw[beq_iff_eq,decide_eq_decide]at h2
 exact h2
def z3h{m:Int×Int×List Int}(h:z1a m=true)(i j:Nat):-99<=ent m i j/\ent m i j<=99:=by
 rw[z1a,Bool.and_eq_true]at h
 exact zu6 h.2 _
def z27{m:Int×Int×List Int}(h:z2d m=true):z1a m=true:=by
 rw[z2d,Bool.and_eq_true]at h
 exact h.1
def z21{m:Int×Int×List Int}(h:z1a m=true):z4v m=true:=by
 rw[z1a,Bool.and_eq_true]at h
 exact h.1
def zig{n:Nat}{A:Nat->Nat->Int}{i:Nat}{s:List Nat×List Nat}(h:zd4 n A i s){k:Nat}(h1:1<=k)(h2:k<s.1.length):s.2.getD k 0<n:=by
 obtain⟨k',h3,h4,h5⟩:=h.src k h1 h2
 rw[h4]
 exact h.lt _ (z1d 0 (by omega))
def zd8{m:Int×Int×List Int}(hs:z2d m=true){i:Nat}{s:List Nat×List Nat}(h:zd4 m.1.toNat (ent m) i s){k:Nat}(h1:1<=k)(h2:k<s.1.length) :
  (0<qK m s k/\qK m s k<=99)/\(0<pK m s k/\pK m s k<=99):=by
 obtain⟨k',h3,h4,h5⟩:=h.src k h1 h2
 have h6:ent m (s.1.getD k 0) (s.2.getD k 0)≠0:=λe=>h5 ((z91 hs (h.lt _ (z1d 0 h2)) (zig h h1 h2)).1 e)
 have hb:=z27 hs
 rw[qK,if_neg (by omega),pK]
 exact⟨⟨z99 h6,zep (z3h hb _ _)⟩,⟨z99 h5,zep (z3h hb _ _)⟩⟩
def zdt{m:Int×Int×List Int}(hs:z2d m=true){i:Nat}{s:List Nat×List Nat}(h:zd4 m.1.toNat (ent m) i s)(k:Nat)(h2:k<s.1.length):0<qK m s k/\qK m s k<=99:=by
 by_cases e:k=0
 ·subst e
  rw[qK,if_pos rfl]
  omega
 ·exact(zd8 hs h (by omega) h2).1
structure T2(m:Int×Int×List Int)(s:List Nat×List Nat)(d0:List Int)(k:Nat)(d:List Int)(g:Int):Prop where
 len:d.length=m.1.toNat
 out:∀x,x<m.1.toNat->(∀k',k'<k->x≠s.1.getD k' 0)->d.getD x 0=d0.getD x 0
 val:∀k',k'<k->0<d.getD (s.1.getD k' 0) 0/\d.getD (s.1.getD k' 0) 0<=99 ^ (4+k')/\z5k (qK m s) s.1.length∣d.getD (s.1.getD k' 0) 0*z5k (qK m s) k
 tree:∀k',1<=k'->k'<k->d.getD (s.1.getD k' 0) 0*qK m s k'=d.getD (s.2.getD k' 0) 0*pK m s k'
 gcd:g=((z7u ((List.range k).map λt=>d.getD (s.1.getD t 0) 0):Nat):Int)
def T2.step{m:Int×Int×List Int}{s:List Nat×List Nat}{d0 d:List Int}{g:Int}{i k:Nat}(hs:z2d m=true)(h:zd4 m.1.toNat (ent m) i s)(hn:m.1.toNat<=5)(h1:1<=k)(h2:k<s.1.length)(ht:T2 m s d0 k d g) :
  (0<d.getD (s.2.getD k 0) 0*pK m s k/\d.getD (s.2.getD k 0) 0*pK m s k<=9227446944279201) /\
  (0<Int.tdiv (d.getD (s.2.getD k 0) 0*pK m s k) (qK m s k)/\Int.tdiv (d.getD (s.2.getD k 0) 0*pK m s k) (qK m s k)<=9227446944279201) /\
  T2 m s d0 (k+1) (d.set (s.1.getD k 0) (Int.tdiv (d.getD (s.2.getD k 0) 0*pK m s k) (qK m s k))) (Int.gcd g (Int.tdiv (d.getD (s.2.getD k 0) 0*pK m s k) (qK m s k))):=by
 obtain⟨⟨hq,hq9⟩,hp,hp9⟩:=zd8 hs h h1 h2
 obtain⟨k',h3,h4,h5⟩:=h.src k h1 h2
 obtain⟨a1,a2,a3⟩:=ht.val k' h3
 have hle:=h.le
 rw[<-h4]at a1 a2 a3
 have hH:=(z63 (zdt hs h) k (by omega)).1
 have hx:s.1.getD k 0<d.length:=by rw[ht.len];exact h.lt _ (z1d 0 h2)
 have hdv:z5k (qK m s) k*qK m s k∣z5k (qK m s) s.1.length:=zqm (qK m s) (show k+1<=s.1.length from h2)
 obtain⟨b1,b2,b3⟩:=tree_div (H:=0) hH hq hp a1 hdv a3
 have hb:d.getD (s.2.getD k 0) 0*pK m s k<=99 ^ (4+k):=by
  have:d.getD (s.2.getD k 0) 0*pK m s k<=99 ^ (4+k')*99:=Int.mul_le_mul a2 hp9 (by omega) (Int.pow_nonneg (by omega))
  rw[<-Int.pow_succ]at this
  refine Int.le_trans this ?_
  have h6:99 ^ (4+k'+1)<=99 ^ (4+k):=Nat.pow_le_pow_right (by omega) (by omega)
  exact_mod_cast h6
 have hp8:=zqn (k:=4+k) (by omega)
 generalize hv:Int.tdiv (d.getD (s.2.getD k 0) 0*pK m s k) (qK m s k)=v at b1 b2 b3
 have hvle:v<=d.getD (s.2.getD k 0) 0*pK m s k:=by
  rw[<-b1]
  have:=Int.mul_le_mul_of_nonneg_left (show(1:Int)<=qK m s k by omega) (Int.le_of_lt b2)
  omega
 have hne:∀t,t<k->s.1.getD k 0≠s.1.getD t 0:=λt ht' e=>by
  have:=z4r h.nd h2 (by omega) e;omega
 have hget:∀t,t<k->(d.set (s.1.getD k 0) v).getD (s.1.getD t 0) 0=d.getD (s.1.getD t 0) 0:=λt ht'=>by
  rw[z1x hx,if_neg (hne t ht')]
 have hself:(d.set (s.1.getD k 0) v).getD (s.1.getD k 0) 0=v:=by rw[z1x hx,if_pos rfl]
 refine⟨⟨Int.mul_pos a1 hp,by omega⟩,⟨b2,by omega⟩,⟨?_, ?_, ?_, ?_, ?_⟩⟩
 ·rw[List.length_set,ht.len]
 ·intro x hx' hall
  rw[z1x hx,if_neg (λe=>hall k (by omega) e.symm)]
  exact ht.out x hx' (λt ht'=>hall t (by omega))
 ·intro t ht'
  by_cases e:t=k
  ·subst e
   rw[hself]
   exact⟨b2,by omega,b3⟩
  ·rw[hget t (by omega)]
   obtain⟨c1,c2,c3⟩:=ht.val t (by omega)
   refine⟨c1,c2, ?_⟩
   rw[z5k,<-Int.mul_assoc]
   exact Int.dvd_trans c3 ⟨_,rfl⟩
 ·intro t ht1 ht2
  by_cases e:t=k
  ·subst e
   rw[hself,h4,hget k' h3,<-h4]
   exact b1
  ·obtain⟨t',c1,c2,_⟩:=h.src t ht1 (by omega)
   rw[hget t (by omega),c2,hget t' (by omega),<-c2]
   exact ht.tree t ht1 (by omega)
 ·rw[List.range_succ,List.map_append,List.map_cons,List.map_nil,hself]
  rw[show(List.range k).map (λt=>(d.set (s.1.getD k 0) v).getD (s.1.getD t 0) 0)=(List.range k).map (λt=>d.getD (s.1.getD t 0) 0)from List.map_congr_left (λt ht'=>hget t (List.mem_range.1 ht'))]
  rw[ht.gcd]
  exact zng _ _ v (by omega) rfl
def T2.g_range{m:Int×Int×List Int}{s:List Nat×List Nat}{d0 d:List Int}{g:Int}{k:Nat}(h1:1<=k)(ht:T2 m s d0 k d g):0<g/\g<=9227446944279201:=by
 obtain⟨a1,a2,_⟩:=ht.val 0 (by omega)
 have hd:g∣d.getD (s.1.getD 0 0) 0:=by
  rw[ht.gcd]
  exact zdb (List.mem_map.2 ⟨0,List.mem_range.2 (by omega),rfl⟩)
 have:=Int.le_of_dvd a1 hd
 have hp:=zqn (k:=4+0) (by omega)
 refine⟨?_,by omega⟩
 rcases Int.lt_or_le 0 g with h | h
 ·exact h
 ·have h0:0<=g:=by rw[ht.gcd];omega
  have e:g=0:=by omega
  rw[e]at hd
  have:=Int.zero_dvd.1 hd
  omega
structure T3(m:Int×Int×List Int)(s:List Nat×List Nat)(d2:List Int)(g:Int)(k:Nat)(d:List Int):Prop where
 len:d.length=m.1.toNat
 out:∀x,x<m.1.toNat->(∀k',k'<k->x≠s.1.getD k' 0)->d.getD x 0=d2.getD x 0
 val:∀k',k'<k->d.getD (s.1.getD k' 0) 0=Int.tdiv (d2.getD (s.1.getD k' 0) 0) g
def T3.step{m:Int×Int×List Int}{s:List Nat×List Nat}{d2 d:List Int}{g:Int}{k:Nat}(hnd:s.1.Nodup)(hlt:∀x∈s.1,x<m.1.toNat)(h2:k<s.1.length)(ht:T3 m s d2 g k d) :
  T3 m s d2 g (k+1) (d.set (s.1.getD k 0) (Int.tdiv (d2.getD (s.1.getD k 0) 0) g)):=by
 have hx:s.1.getD k 0<d.length:=by rw[ht.len];exact hlt _ (z1d 0 h2)
 refine⟨by rw[List.length_set,ht.len], ?_, ?_⟩
 ·intro x hx' hall
  rw[z1x hx,if_neg (λe=>hall k (by omega) e.symm)]
  exact ht.out x hx' (λt ht'=>hall t (by omega))
 ·intro t ht'
  by_cases e:t=k
  ·subst e
   rw[z1x hx,if_pos rfl]
  ·rw[z1x hx,if_neg (λe'=>e (z4r hnd h2 (by omega) e').symm)]
   exact ht.val t (by omega)
def T3.cur{m:Int×Int×List Int}{s:List Nat×List Nat}{d2 d:List Int}{g:Int}{k:Nat}(hnd:s.1.Nodup)(hlt:∀x∈s.1,x<m.1.toNat)(h2:k<s.1.length)(ht:T3 m s d2 g k d) :
  d.getD (s.1.getD k 0) 0=d2.getD (s.1.getD k 0) 0 :=
 ht.out _ (hlt _ (z1d 0 h2)) (λt ht' e=>by have:=z4r hnd h2 (by omega) e;omega)
def Part(n:Nat)(A:Nat->Nat->Int)(d:Nat->Int):Prop:=∀j,j<n->0<=d j/\d j<=9227446944279201 /\
 (0<d j->∃L:List Nat,j∈L/\(∀k∈L,k<n/\0<d k)/\(∀k,k<n->A j k≠0->k∈L)/\z7u (L.map d)=1/\∀e,zac n A e->∀k∈L,d j*e k=d k*e j)
def zqd{m:Int×Int×List Int}{s:List Nat×List Nat}{d0 d:List Int}{g:Int}{i:Nat}(hs:z2d m=true)(h:zd4 m.1.toNat (ent m) i s)(ht:T2 m s d0 s.1.length d g){e:Nat->Int}(he:zac m.1.toNat (ent m) e) :
  ∀k,k<s.1.length->d.getD i 0*e (s.1.getD k 0)=d.getD (s.1.getD k 0) 0*e i:=by
 intro k
 induction k using Nat.strongRecOn with
 | _ k ih =>
  intro hk
  by_cases h0:k=0
  ·subst h0
   rw[h.hd]
  ·obtain⟨k',h3,h4,h5⟩:=h.src k (by omega) hk
   have h6:=ih k' h3 (by omega)
   rw[<-h4]at h6
   have hlk:=h.lt _ (z1d 0 hk)
   have hfk:=zig h (show 1<=k by omega) hk
   have h7:=zo8 (he _ hfk).1 (he _ hlk).1 ((he _ hfk).2 _ hlk)
   have h8:=ht.tree k (by omega) hk
   obtain⟨⟨hq,_⟩,hp,_⟩:=zd8 hs h (show 1<=k by omega) hk
   rw[show z5v (ent m (s.1.getD k 0) (s.2.getD k 0))=qK m s k by rw[qK,if_neg h0]]at h7
   have h7':e (s.2.getD k 0)*pK m s k=e (s.1.getD k 0)*qK m s k:=h7
   have h9:d.getD (s.2.getD k 0) 0*e (s.1.getD k 0)=d.getD (s.1.getD k 0) 0*e (s.2.getD k 0) :=
    zon (p:=pK m s k) (q:=-(qK m s k)) (by omega) (he _ hfk).1 (by rw[Int.mul_neg,Int.neg_neg];exact h8.symm) (by rw[Int.mul_neg,Int.neg_neg];exact h7') (by omega)
   have:=(he _ hfk).1
   exact zfi (by omega) h6 h9
def zqo{m:Int×Int×List Int}{s:List Nat×List Nat}{d0 d2 d:List Int}{g:Int}{i:Nat}(hs:z2d m=true)(hi:i<m.1.toNat)(h:zd4 m.1.toNat (ent m) i s)(hn:m.1.toNat<=5)
  (hcl:∀x∈s.1,∀j,j<m.1.toNat->ent m x j≠0->j∈s.1)
  (h0:Part m.1.toNat (ent m) (λx=>d0.getD x 0)) (hz:d0.getD i 0<=0) (h2:T2 m s d0 s.1.length d2 g) (h3:T3 m s d2 g s.1.length d) :
  Part m.1.toNat (ent m) (λx=>d.getD x 0)/\0<d.getD i 0/\∀x,x<m.1.toNat->0<d0.getD x 0->0<d.getD x 0:=by
 have hg:=h2.g_range h.pos
 have hle:=h.le
 have hnew:∀k,k<s.1.length->d0.getD (s.1.getD k 0) 0<=0:=by
  intro k
  induction k using Nat.strongRecOn with
  | _ k ih =>
   intro hk
   by_cases hk0:k=0
   ·subst hk0;rw[h.hd];exact hz
   ·obtain⟨k',a1,a2,a3⟩:=h.src k (by omega) hk
    have b1:=ih k' a1 (by omega)
    rw[<-a2]at b1
    rcases Int.lt_or_le 0 (d0.getD (s.1.getD k 0) 0)with hc | hc
    ·have hlk:=h.lt _ (z1d 0 hk)
     have hfk:=zig h (show 1<=k by omega) hk
     obtain⟨L,c1,c2,c3,_⟩:=(h0 _ hlk).2.2 hc
     have b4:0<d0.getD (s.2.getD k 0) 0:=(c2 _ (c3 _ hfk (λe=>a3 ((z91 hs hlk hfk).1 e)))).2
     have b2:d0.getD (s.2.getD k 0) 0<=0:=b1
     omega
    ·exact hc
 have hin:∀x∈s.1,d.getD x 0*g=d2.getD x 0/\0<d.getD x 0/\d.getD x 0<=9227446944279201:=by
  intro x hx
  obtain⟨k,hk,rfl⟩:=z7h hx
  have a1:=h3.val k hk
  obtain⟨b1,b2,_⟩:=h2.val k hk
  have b3:g∣d2.getD (s.1.getD k 0) 0:=by
   rw[h2.gcd]
   exact zdb (List.mem_map.2 ⟨k,List.mem_range.2 hk,rfl⟩)
  have b4:d.getD (s.1.getD k 0) 0*g=d2.getD (s.1.getD k 0) 0:=by rw[a1];exact Int.tdiv_mul_cancel b3
  have b5:=zqn (k:=4+k) (by omega)
  have b6:0<d.getD (s.1.getD k 0) 0:=by
   rcases Int.lt_or_le 0 (d.getD (s.1.getD k 0) 0)with hc | hc
   ·exact hc
   ·have:=Int.mul_nonpos_of_nonpos_of_nonneg hc (Int.le_of_lt hg.1);omega
  refine⟨b4,b6, ?_⟩
  have:=Int.mul_le_mul_of_nonneg_left (show(1:Int)<=g by omega) (Int.le_of_lt b6)
  omega
 have hout:∀x,x<m.1.toNat->x∉s.1->d.getD x 0=d0.getD x 0:=by
  intro x hx hni
  have hne:∀k',k'<s.1.length->x≠s.1.getD k' 0:=λk' hk' e=>hni (by rw[e];exact z1d 0 hk')
  rw[h3.out x hx hne,h2.out x hx hne]
 have himem:i∈s.1:=by rw[<-h.hd];exact z1d 0 h.pos
 refine⟨?_,(hin i himem).2.1, ?_⟩
 ·intro j hj
  by_cases hm:j∈s.1
  ·obtain⟨a1,a2,a3⟩:=hin j hm
   refine⟨Int.le_of_lt a2,a3,λ_=>⟨s.1,hm,λk hk=>⟨h.lt k hk,(hin k hk).2.1⟩,λk hk ha=>hcl j hm k hk ha, ?_, ?_⟩⟩
   ·have e1:s.1.map (λx=>g*d.getD x 0)=s.1.map (λx=>d2.getD x 0):=List.map_congr_left (λx hx=>by rw[Int.mul_comm];exact(hin x hx).1)
    have e2:=zda g (s.1.map (λx=>d.getD x 0))
    rw[List.map_map]at e2
    have e3:z7u (s.1.map (λx=>d2.getD x 0))=g.natAbs*z7u (s.1.map (λx=>d.getD x 0)):=by rw[<-e1];exact e2
    have e4:g=((z7u (s.1.map (λx=>d2.getD x 0)):Nat):Int):=by
     rw[<-zfh s.1 (λx=>d2.getD x 0)]
     exact h2.gcd
    have e5:z7u (s.1.map (λx=>d2.getD x 0))=g.natAbs:=by
     have:=congrArg Int.natAbs e4
     simpa using this.symm
    rw[e5]at e3
    exact Nat.eq_of_mul_eq_mul_left (show 0<g.natAbs by omega) (by rw[Nat.mul_one];exact e3.symm)
   ·intro e he k hk
    have key:∀x∈s.1,d.getD i 0*e x=d.getD x 0*e i:=by
     intro x hx
     obtain⟨kx,hkx,rfl⟩:=z7h hx
     have c1:=zqd hs h h2 he kx hkx
     rw[<-(hin i himem).1,<-(hin _ hx).1]at c1
     have c2:g*(d.getD i 0*e (s.1.getD kx 0))=g*(d.getD (s.1.getD kx 0) 0*e i):=by
      rw[<-Int.mul_assoc,<-Int.mul_assoc,Int.mul_comm g,Int.mul_comm g]
      exact c1
     exact Int.eq_of_mul_eq_mul_left (by omega) c2
    have:=(he i hi).1
    exact zfi (b:=d.getD i 0) (f:=e i) (by omega) (key j hm).symm (key k hk)
  ·have e:=hout j hj hm
   obtain⟨a1,a2,a3⟩:=h0 j hj
   show 0<=d.getD j 0/\d.getD j 0<=_/\(0<d.getD j 0->_)
   rw[e]
   refine⟨a1,a2,λhpos=>?_⟩
   obtain⟨L,b1,b2,b3,b4,b5⟩:=a3 hpos
   have hL:∀k∈L,d.getD k 0=d0.getD k 0:=λk hk=>hout k (b2 k hk).1 (λhc=>by
    obtain⟨kx,hkx,e'⟩:=z7h hc
    have:=hnew kx hkx
    rw[e']at this
    have b6:0<d0.getD k 0:=(b2 k hk).2
    omega)
   refine⟨L,b1,λk hk=>⟨(b2 k hk).1,by show 0<d.getD k 0;rw[hL k hk];exact(b2 k hk).2⟩,b3, ?_, ?_⟩
   ·rw[show L.map (λx=>d.getD x 0)=L.map (λx=>d0.getD x 0)from List.map_congr_left hL];exact b4
   ·intro e' he' k hk
    show d.getD j 0*e' k=d.getD k 0*e' j
    rw[hL k hk,e]
    exact b5 e' he' k hk
 ·intro x hx hp
  by_cases hm:x∈s.1
  ·exact(hin x hm).2.1
  ·rw[hout x hx hm];exact hp
def zn1{m:Int×Int×List Int}{d:List Int}(hl:d.length=m.1.toNat)(h:Part m.1.toNat (ent m) (λx=>d.getD x 0))(hp:∀x,x<m.1.toNat->0<d.getD x 0)
  (hc:∀i,i<m.1.toNat->∀j,j<m.1.toNat->d.getD i 0*ent m i j=-(d.getD j 0*ent m j i)):z5h m=d:=by
 refine zrz hl (λi hi=>⟨hp i hi,hc i hi⟩) (λi hi=>?_)
 obtain⟨L,a1,a2,a3,a4,a5⟩:=(h i hi).2.2 (hp i hi)
 exact⟨L,λk hk=>(a2 k hk).1,a4,a5⟩
def zqr{m:Int×Int×List Int}{d:List Int}(hs:z2d m=true)(h:Part m.1.toNat (ent m) (λx=>d.getD x 0))(hp:∀x,x<m.1.toNat->0<d.getD x 0){e:Nat->Int}(he:zac m.1.toNat (ent m) e)
  {i j:Nat} (hi:i<m.1.toNat) (hj:j<m.1.toNat):d.getD i 0*ent m i j=-(d.getD j 0*ent m j i):=by
 by_cases ha:ent m i j=0
 ·rw[ha,(z91 hs hi hj).1 ha];simp
 ·obtain⟨L,a1,a2,a3,a4,a5⟩:=(h i hi).2.2 (hp i hi)
  exact zir (he i hi).1 (he j hj).1 (a5 e he j (a3 j hj ha)) ((he i hi).2 j hj)
def zqq{m:Int×Int×List Int}{d:List Int}(hs:z2d m=true)(h:Part m.1.toNat (ent m) (λx=>d.getD x 0))(hp:∀x,x<m.1.toNat->0<d.getD x 0)
  {i j:Nat} (hi:i<m.1.toNat) (hj:j<m.1.toNat) (hc:d.getD i 0*ent m i j≠-(d.getD j 0*ent m j i)):z5h m=[]:=by
 refine znk (λ⟨e,he⟩=>hc ?_)
 by_cases ha:ent m i j=0
 ·rw[ha,(z91 hs hi hj).1 ha];simp
 ·obtain⟨L,a1,a2,a3,a4,a5⟩:=(h i hi).2.2 (hp i hi)
  exact zir (he i hi).1 (he j hj).1 (a5 e he j (a3 j hj ha)) ((he i hi).2 j hj)
end Go.Fw
set_option linter.unusedSectionVars false
namespace Go.Fw
def ze0(l:List Int)(n:Int)(i:Nat):Bool:=inK (l.getD i 0) 0 (n-1)&&!((l.take i).any λx=>decide (x=l.getD i 0))
def z4e(l:List Int)(n:Int):Bool:=decide ((l.length:Int)=n)&&(List.range l.length).all (ze0 l n)
def z67{l:List Int}{n:Int}(h:z4e l n=true):∃L:List Nat,l=z32 L/\L.Nodup/\(∀x∈L,x<n.toNat)/\L.length=n.toNat:=by
 simp only[z4e,Bool.and_eq_true,decide_eq_true_eq,List.all_eq_true,List.mem_range,ze0,z3o]at h
 obtain⟨h1,h2⟩:=h
 have e:l=z32 (l.map Int.toNat):=by
  apply List.ext_getElem?
  intro i
  by_cases hi:i<l.length
  ·have:=(h2 i hi).1
   rw[List.getD_eq_getElem?_getD,List.getElem?_eq_getElem hi,Option.getD_some]at this
   simp only[z32,List.map_map,List.getElem?_map,List.getElem?_eq_getElem hi,Option.map_some,Function.comp]
   congr 1
   omega
  ·rw[List.getElem?_eq_none (by omega),List.getElem?_eq_none (by rw[z1q];simp;omega)]
 refine⟨l.map Int.toNat,e, ?_, ?_,by simp;omega⟩
 ·refine List.pairwise_iff_getElem.2 (λi j hi hj hij=>?_)
  have hi':i<l.length:=by simpa using hi
  have hj':j<l.length:=by simpa using hj
  have h3:=h2 j hj'
  have h4:=h2 i hi'
  rw[List.getD_eq_getElem?_getD,List.getElem?_eq_getElem hj',Option.getD_some]at h3
  rw[List.getD_eq_getElem?_getD,List.getElem?_eq_getElem hi',Option.getD_some]at h4
  simp only[List.getElem_map]
  intro hc
  have hne:l[i]=l[j]:=by omega
  have h5:=h3.2
  rw[Bool.not_eq_true',List.any_eq_false]at h5
  have:=h5 l[i] (by
   rw[List.mem_iff_getElem]
   exact⟨i,by rw[List.length_take];omega,by rw[List.getElem_take]⟩)
  simp[hne]at this
 ·intro x hx
  obtain⟨y,hy,rfl⟩:=List.mem_map.1 hx
  obtain⟨i,hi,rfl⟩:=List.getElem_of_mem hy
  have:=(h2 i hi).1
  rw[List.getD_eq_getElem?_getD,List.getElem?_eq_getElem hi,Option.getD_some]at this
  omega
def zal:List Nat->Nat->Nat
 | [],_=>0
 | x::xs,b=>if x=b then 0 else zal xs b+1
def z36:∀{L:List Nat} {b:Nat},b∈L->zal L b<L.length/\L.getD (zal L b) 0=b
 | [],b,h=>by cases h
 | x::xs,b,h=>by
  rw[zal]
  by_cases e:x=b
  ·rw[if_pos e]
   exact⟨by simp,by simpa using e⟩
  ·rw[if_neg e]
   rcases List.mem_cons.1 h with h | h
   ·exact absurd h.symm e
   ·obtain⟨h1,h2⟩:=z36 h
    exact⟨by simp;omega,by simpa[List.getD_cons_succ]using h2⟩
def z30{L:List Nat}{n:Nat}(h1:L.Nodup)(h2:∀x∈L,x<n)(h3:L.length=n){b:Nat}(hb:b<n):b∈L:=by
 refine Classical.byContradiction λhc=>?_
 have:=zap n (b::L) (List.nodup_cons.2 ⟨hc,h1⟩) (λx hx=>by
  rcases List.mem_cons.1 hx with e | e
  ·omega
  ·exact h2 x e)
 simp at this
 omega
def z5l{L:List Nat}(h:L.Nodup){j:Nat}(hj:j<L.length):zal L (L.getD j 0)=j:=by
 obtain⟨h1,h2⟩:=z36 (z1d (l:=L) 0 hj)
 exact z4r h h1 hj h2
def z80(n:Nat)(L:List Nat)(i:Nat):Nat:=if i<n then L.getD i 0 else i
def zfe(n:Nat)(L:List Nat)(p:Nat):Nat:=if p<n then zal L p else p
def z7r(n:Nat)(L:List Nat)(p:Nat):Nat:=zfe n L (p / n)*n+zal L (p%n)
def z6w(m:Int×Int×List Int)(names:List Int):Int×Int×List Int:=(m.1,m.2.1,(List.range m.2.2.length).map λp=>m.2.2.getD (z7r m.1.toNat (names.map Int.toNat) p) 0)
def z3m(L:List Nat):(z32 L).map Int.toNat=L:=by
 simp only[z32,List.map_map]
 conv=>rhs;rw[<-List.map_id L]
 apply List.map_congr_left
 intro x _
 simp
def zq3(total t:Nat)(back:Nat->Nat)(F G:Nat->Int):List Int:=(List.range total).map λp=>if back p<t then F p else G p
def zaj{total t:Nat}{back:Nat->Nat}{F G:Nat->Int}:(zq3 total t back F G).length=total:=by simp[zq3]
def zmr{total t p:Nat}{back:Nat->Nat}{F G:Nat->Int}(hp:p<total)(hb:back p=t)(hinj:∀q,q<total->back q=t->q=p):(zq3 total t back F G).set p (F p)=zq3 total (t+1) back F G:=by
 apply List.ext_getElem?
 intro q
 by_cases hq:q<total
 ·by_cases e:p=q
  ·subst e
   rw[List.getElem?_set_self (by rw[zaj];exact hp)]
   simp only[zq3,List.getElem?_map,List.getElem?_range hp,Option.map_some]
   rw[if_pos (by omega)]
  ·rw[List.getElem?_set_ne e]
   simp only[zq3,List.getElem?_map,List.getElem?_range hq,Option.map_some]
   have hne:back q≠t:=λh=>e (hinj q hq h).symm
   by_cases h1:back q<t
   ·rw[if_pos h1,if_pos (by omega)]
   ·rw[if_neg h1,if_neg (by omega)]
 ·rw[List.getElem?_eq_none (by rw[List.length_set,zaj];omega),List.getElem?_eq_none (by rw[zaj];omega)]
def zik{total:Nat}{back:Nat->Nat}{F G:Nat->Int}:zq3 total 0 back F G=(List.range total).map G:=by simp[zq3]
def zil{total:Nat}{back:Nat->Nat}{F G:Nat->Int}(h:∀p,p<total->back p<total):zq3 total total back F G=(List.range total).map F:=by
 unfold zq3
 apply List.map_congr_left
 intro i hi
 rw[if_pos (h i (List.mem_range.1 hi))]
section
variable {n r : Nat} {L : List Nat} (h1 : L.Nodup) (h2 : ∀ x ∈ L, x < n) (h3 : L.length = n) (hnr : n ≤ r)
include h1 h2 h3
theorem zin{i:Nat}:zfe n L (z80 n L i)=i:=by
 unfold z80 zfe
 by_cases h:i<n
 ·have:=h2 _ (z1d (l:=L) (j:=i) 0 (by omega))
  rw[if_pos h,if_pos this,z5l h1 (by omega)]
 ·rw[if_neg h,if_neg h]
theorem zip{p:Nat}:z80 n L (zfe n L p)=p:=by
 unfold z80 zfe
 by_cases h:p<n
 ·obtain⟨a,b⟩:=z36 (z30 h1 h2 h3 h)
  rw[if_pos h,if_pos (by omega),b]
 ·rw[if_neg h,if_neg h]
include hnr
theorem zlc{i:Nat}(h:i<r):z80 n L i<r:=by
 unfold z80
 split
 ·rename_i h'
  have:=h2 _ (z1d (l:=L) (j:=i) 0 (by omega))
  omega
 ·exact h
theorem zld{p:Nat}(h:p<r):zfe n L p<r:=by
 unfold zfe
 split
 ·rename_i h'
  have:=(z36 (z30 h1 h2 h3 h')).1
  omega
 ·exact h
theorem zdf{i j:Nat}(hj:j<n):z7r n L (z80 n L i*n+L.getD j 0)=i*n+j:=by
 have:=h2 _ (z1d (l:=L) (j:=j) 0 (by omega))
 unfold z7r
 rw[Nat.add_comm (z80 n L i*n),Nat.add_mul_div_right _ _ (by omega),Nat.div_eq_of_lt this,Nat.zero_add,Nat.add_mul_mod_self_right,Nat.mod_eq_of_lt this,zin h1 h2 h3,z5l h1 (by omega)]
theorem zo2{i j q:Nat}(hj:j<n)(h:z7r n L q=i*n+j):q=z80 n L i*n+L.getD j 0:=by
 have hn:0<n:=by omega
 obtain⟨a,b⟩:=z36 (z30 h1 h2 h3 (Nat.mod_lt q hn))
 unfold z7r at h
 have e1:zfe n L (q / n)=i:=by
  have:(zfe n L (q / n)*n+zal L (q%n)) / n=(i*n+j) / n:=by rw[h]
  rw[Nat.add_comm,Nat.add_mul_div_right _ _ hn,Nat.div_eq_of_lt (by omega),Nat.zero_add,Nat.add_comm (i*n),Nat.add_mul_div_right _ _ hn,Nat.div_eq_of_lt hj,Nat.zero_add]at this
  exact this
 have e2:zal L (q%n)=j:=by rw[e1]at h;omega
 have e3:z80 n L i=q / n:=by rw[<-e1,zip h1 h2 h3]
 rw[e3,<-e2,b,Nat.mul_comm]
 exact(Nat.div_add_mod q n).symm
theorem zu0{q:Nat}(hn:0<n)(h:q<r*n):z7r n L q<r*n:=by
 obtain⟨a,b⟩:=z36 (z30 h1 h2 h3 (Nat.mod_lt q hn))
 have h4:q / n<r:=(Nat.div_lt_iff_lt_mul hn).2 h
 exact z9i (zld h1 h2 h3 hnr h4) (by omega)
end
end Go.Fw
namespace Go.Fw
def insAll(k:Int)(l:List Int):List (List Int):=(List.range (l.length+1)).map λi=>znc l ((i:Nat):Int) [k]
def zfp:Nat->List (List Int)
 | 0=>[[]]
 | k+1=>(zfp k).flatMap (insAll (k:Nat))
def zbf(n:Nat):Nat->List Int->List (List Int)
 | 0,f=>[f]
 | k+1,f=>(List.range n).flatMap λx=>cond (f.any λy=>decide (y=((x:Nat):Int))) [] (zbf n k (f++[((x:Nat):Int)]))
def zgo(n:Nat)(hn:n<=5):∀(k:Nat) (f:List Int),(zbf n k f).length<=5 ^ k
 | 0,f=>Nat.le_refl _
 | k+1,f=>by
  rw[zbf,List.length_flatMap]
  have:∀(l:List Nat),((l.map λx=>(cond (f.any λy=>decide (y=((x:Nat):Int))) [] (zbf n k (f++[((x:Nat):Int)]))).length).sum)<=l.length*5 ^ k:=by
   intro l
   induction l with
   | nil=>exact Nat.zero_le _
   | cons x l ih =>
    rw[List.map_cons,List.sum_cons,List.length_cons,Nat.succ_mul]
    have h:(cond (f.any λy=>decide (y=((x:Nat):Int))) [] (zbf n k (f++[((x:Nat):Int)]))).length<=5 ^ k:=by
     cases f.any λy=>decide (y=((x:Nat):Int))
     ·exact zgo n hn k _
     ·exact Nat.zero_le _
    omega
  refine Nat.le_trans (this (List.range n)) ?_
  rw[List.length_range,Nat.pow_succ,Nat.mul_comm]
  exact Nat.mul_le_mul_left _ hn
set_option maxRecDepth 100000 in
def ze1:((List.range 6).all λn=>(zfp n).all (λo=>(zbf n n []).contains o&&z4e o n)&&(zbf n n []).all (λo=>(zfp n).contains o)&&(zfp n).contains ((List.range n).map Int.ofNat))=true:=by decide +kernel
def zan{n:Nat}(hn:n<=5)(o:List Int):o∈zfp n↔o∈zbf n n []:=by
 have h:=List.all_eq_true.1 ze1 n (List.mem_range.2 (by omega))
 simp only[Bool.and_eq_true,List.all_eq_true]at h
 obtain⟨⟨h1,h2⟩,h3⟩:=h
 exact⟨λho=>List.contains_iff_mem.1 (h1 o ho).1,λho=>List.contains_iff_mem.1 (h2 o ho)⟩
def z6y{n:Nat}(hn:n<=5){o:List Int}(ho:o∈zfp n):z4e o n=true:=by
 have h:=List.all_eq_true.1 ze1 n (List.mem_range.2 (by omega))
 simp only[Bool.and_eq_true,List.all_eq_true]at h
 exact(h.1.1 o ho).2
def zn5{n:Nat}(hn:n<=5):(List.range n).map Int.ofNat∈zfp n:=by
 have h:=List.all_eq_true.1 ze1 n (List.mem_range.2 (by omega))
 simp only[Bool.and_eq_true,List.all_eq_true]at h
 exact List.contains_iff_mem.1 h.2
def zpt:((List.range 6).all λn=>(List.range (n*n)).all λp=>decide (z7r n (((List.range n).map Int.ofNat).map Int.toNat) p=p))=true:=by decide +kernel
def zmx{m:Int×Int×List Int}(h:z4v m=true)(hr:m.2.1=m.1):z6w m ((List.range m.1.toNat).map Int.ofNat)=m:=by
 obtain⟨n,r,hn,hr',hn1,hn5,hnr,hr8,hl⟩:=z19 h
 have e:r=n:=by omega
 subst e
 have hb:=List.all_eq_true.1 zpt r (List.mem_range.2 (by omega))
 rw[List.all_eq_true]at hb
 have e1:m.1.toNat=r:=by omega
 unfold z6w
 rw[e1]
 refine congrArg (λz=>(m.1,m.2.1,z)) ?_
 apply List.ext_getElem?
 intro p
 by_cases hp:p<m.2.2.length
 ·rw[List.getElem?_map,List.getElem?_range hp,Option.map_some]
  have:=of_decide_eq_true (hb p (List.mem_range.2 (by omega)))
  rw[this,List.getD_eq_getElem?_getD,List.getElem?_eq_getElem hp,Option.getD_some]
 ·rw[List.getElem?_eq_none (by simp;omega),List.getElem?_eq_none (Nat.le_of_not_lt hp)]
def ordN_len:∀{n:Nat},n<=5->∀o∈zfp n,o.length=n:=λ{n} hn o ho=>by
 have:=z6y hn ho
 simp only[z4e,Bool.and_eq_true,decide_eq_true_eq]at this
 omega
def z6h:∀a:List Int,z3d a a=false
 | []=>rfl
 | x::xs=>by rw[z3d,if_pos rfl];exact z6h xs
def z5e:∀{a b c:List Int},z3d a b=true->z3d b c=true->z3d a c=true
 | [],[],_,h,_=>by cases h
 | [],_::_,[],_,h=>by cases h
 | [],_::_,_::_,_,_=>rfl
 | _::_,[],_,h,_=>by cases h
 | _::_,_::_,[],_,h=>by cases h
 | x::xs,y::ys,z::zs,h1,h2=>by
  rw[z3d]at h1 h2 ⊢
  by_cases e1:x=y
  ·subst e1
   rw[if_pos rfl]at h1
   by_cases e2:x=z
   ·rw[if_pos e2]at h2 ⊢
    exact z5e h1 h2
   ·rw[if_neg e2]at h2 ⊢
    exact h2
  ·rw[if_neg e1]at h1
   have h1:=of_decide_eq_true h1
   by_cases e2:y=z
   ·subst e2
    rw[if_neg e1]
    exact decide_eq_true h1
   ·rw[if_neg e2]at h2
    have h2:=of_decide_eq_true h2
    rw[if_neg (by omega)]
    exact decide_eq_true (by omega)
def z6z:∀{a b:List Int},z3d a b=false->z3d b a=false->a=b
 | [],[],_,_=>rfl
 | [],_::_,h,_=>by cases h
 | _::_,[],_,h=>by cases h
 | x::xs,y::ys,h1,h2=>by
  rw[z3d]at h1 h2
  by_cases e:x=y
  ·subst e
   rw[if_pos rfl]at h1 h2
   rw[z6z h1 h2]
  ·rw[if_neg e]at h1
   rw[if_neg (Ne.symm e)]at h2
   have h1:=of_decide_eq_false h1
   have h2:=of_decide_eq_false h2
   omega
def z9x(f:List Int->List Int)(b:List Int)(os:List (List Int)):List Int:=os.foldl (λb o=>if z3d (f o) b=true then f o else b) b
def zas(f:List Int->List Int):∀(os:List (List Int)) (b:List Int),z9x f b os=b\/∃o∈os,z9x f b os=f o
 | [],b=>.inl rfl
 | o::os,b=>by
  have e:z9x f b (o::os)=z9x f (if z3d (f o) b=true then f o else b) os:=rfl
  rw[e]
  rcases zas f os (if z3d (f o) b=true then f o else b)with h | ⟨o',h1,h2⟩
  ·rw[h]
   split
   ·exact .inr ⟨o,List.mem_cons_self ..,rfl⟩
   ·exact .inl rfl
  ·exact .inr ⟨o',List.mem_cons_of_mem _ h1,h2⟩
def zgq(f:List Int->List Int):∀(os:List (List Int)) (b:List Int),z3d b (z9x f b os)=false/\∀o∈os,z3d (f o) (z9x f b os)=false
 | [],b=>⟨z6h b,λo ho=>by cases ho⟩
 | o::os,b=>by
  have e:z9x f b (o::os)=z9x f (if z3d (f o) b=true then f o else b) os:=rfl
  rw[e]
  obtain⟨h1,h2⟩:=zgq f os (if z3d (f o) b=true then f o else b)
  generalize z9x f (if z3d (f o) b=true then f o else b) os=r at h1 h2
  have fin:z3d b r=false/\z3d (f o) r=false:=by
   by_cases h:z3d (f o) b=true
   ·rw[if_pos h]at h1
    refine⟨?_,h1⟩
    cases hc:z3d b r
    ·rfl
    ·rw[z5e h hc]at h1;cases h1
   ·rw[if_neg h]at h1
    refine⟨h1, ?_⟩
    cases hc:z3d (f o) r
    ·rfl
    ·cases hd:z3d b (f o)
     ·have:=z6z hd (by simpa using h)
      rw[this]at h1
      rw[h1]at hc;cases hc
     ·rw[z5e hd hc]at h1;cases h1
  exact⟨fin.1,λo' ho'=>by
   rcases List.mem_cons.1 ho' with rfl | ho'
   ·exact fin.2
   ·exact h2 o' ho'⟩
def zr8{f:List Int->List Int}{os os':List (List Int)}{b b':List Int}(hm:∀o∈os,o∈os')(hm':∀o∈os',o∈os)(hb:∃o∈os,b=f o)(hb':∃o∈os',b'=f o):z9x f b os=z9x f b' os':=by
 have key:∀{os os':List (List Int)} {b b':List Int},(∀o∈os,o∈os')->(∃o∈os,b=f o)->z3d (z9x f b os) (z9x f b' os')=false:=by
  intro os os' b b' hm hb
  have hx:∃o∈os,z9x f b os=f o:=by
   rcases zas f os b with h | h
   ·rw[h];exact hb
   ·exact h
  obtain⟨o,ho,e⟩:=hx
  rw[e]
  exact(zgq f os' b').2 o (hm o ho)
 exact z6z (key hm hb) (key hm' hb')
def z6p(m:Int×Int×List Int)(o:List Int):List Int:=(z6w m o).2.2
def zb4(m:Int×Int×List Int):Int×Int×List Int:=(m.1,m.2.1,z9x (z6p m) m.2.2 (zbf m.1.toNat m.1.toNat []))
def minI(f:List Int->List Int):List (List Int)->List Int
 | []=>[]
 | o::os=>z9x f (f o) os
def canI(m:Int×Int×List Int):Int×Int×List Int:=(m.1,m.2.1,minI (z6p m) (zfp m.1.toNat))
def zo1{m:Int×Int×List Int}(h:z4v m=true)(hr:m.2.1=m.1):canI m=zb4 m:=by
 obtain⟨n,r,hn,hr',hn1,hn5,hnr,hr8,hl⟩:=z19 h
 have e1:m.1.toNat=n:=by omega
 unfold canI zb4
 have hid:=zmx h hr
 rw[e1]at hid ⊢
 refine congrArg (λz=>(m.1,m.2.1,z)) ?_
 have hm:=zan hn5
 have hi:=zn5 hn5
 have hi':z6p m ((List.range n).map Int.ofNat)=m.2.2:=by unfold z6p;rw[hid]
 generalize zbf n n []=S at hm
 generalize hN:zfp n=O at hm hi
 cases O with
 | nil=>cases hi
 | cons o os =>
  rw[minI]
  have e:z9x (z6p m) (z6p m o) os=z9x (z6p m) (z6p m o) (o::os):=by
   show _=z9x (z6p m) (if z3d (z6p m o) (z6p m o)=true then z6p m o else z6p m o) os
   rw[ite_self]
  rw[e]
  exact zr8 (λo' ho'=>(hm o').1 ho') (λo' ho'=>(hm o').2 ho') ⟨o,List.mem_cons_self ..,rfl⟩ ⟨_,(hm _).1 hi,hi'.symm⟩
end Go.Fw
namespace Go.Fw
def zlz:((List.range 6).all λn=>decide ((zfp n).length<=120))=true:=by decide +kernel
def zfo{n:Nat}(hn:n<=5):(zfp n).length<=120:=of_decide_eq_true (List.all_eq_true.1 zlz n (List.mem_range.2 (by omega)))
end Go.Fw
namespace Go.Fw
def mutE(f:Bool)(a b c:Int):Int:=if f=true then -a else if 0<b/\0<c then a+b*c else if b<0/\c<0 then a-b*c else a
def mutF(m:Int×Int×List Int)(k p:Nat):Int:=mutE (decide (p / m.1.toNat=k)||decide (p%m.1.toNat=k)) (m.2.2.getD p 0) (ent m (p / m.1.toNat) k) (ent m k (p%m.1.toNat))
def z5m(m:Int×Int×List Int)(k:Nat):Int×Int×List Int:=(m.1,m.2.1,(List.range m.2.2.length).map (mutF m k))
def ztn{i j n:Nat}(h:j<n):(i*n+j) / n=i:=by
 rw[Nat.add_comm,Nat.add_mul_div_right _ _ (by omega),Nat.div_eq_of_lt h,Nat.zero_add]
def zr7{i j n:Nat}(h:j<n):(i*n+j)%n=j:=by
 rw[Nat.add_comm,Nat.add_mul_mod_self_right,Nat.mod_eq_of_lt h]
def zlj{m:Int×Int×List Int}{k i j:Nat}(hj:j<m.1.toNat):mutF m k (i*m.1.toNat+j)=mutE (decide (i=k)||decide (j=k)) (ent m i j) (ent m i k) (ent m k j):=by
 unfold mutF
 rw[ztn hj,zr7 hj]
 rfl
def z8l{m:Int×Int×List Int}(hd:z4v m=true){k i j:Nat}(hi:i<m.2.1.toNat)(hj:j<m.1.toNat):ent (z5m m k) i j=mutE (decide (i=k)||decide (j=k)) (ent m i j) (ent m i k) (ent m k j):=by
 obtain⟨n,r,hn,hr,hn1,hn5,hnr,hr8,hl⟩:=z19 hd
 rw[<-zlj hj]
 show((List.range m.2.2.length).map (mutF m k)).getD (i*m.1.toNat+j) 0=_
 refine zn9 ?_ 0
 have:=z9i (n:=n) (r:=r) (i:=i) (j:=j) (by omega) (by omega)
 rw[hl,hn]
 exact this
def zfr{f:Bool}{a b c:Int}(ha:-99<=a/\a<=99)(hb:-99<=b/\b<=99)(hc:-99<=c/\c<=99):-9801<=b*c/\b*c<=9801:=by
 have h1:(b*c).natAbs<=99*99:=by
  rw[Int.natAbs_mul]
  exact Nat.mul_le_mul (by omega) (by omega)
 omega
def zd9{m:Int×Int×List Int}(hd:z4v m=true){k:Nat}(hk:k<m.1.toNat){d:Nat->Int}(h:zac m.1.toNat (ent m) d):zac (z5m m k).1.toNat (ent (z5m m k)) d:=by
 obtain⟨n,r,hn,hr,hn1,hn5,hnr,hr8,hl⟩:=z19 hd
 show zac m.1.toNat _ d
 intro i hi
 refine⟨(h i hi).1,λj hj=>?_⟩
 rw[z8l hd (by omega) hj,z8l hd (by omega) hi]
 have e1:=(h i hi).2 j hj
 have e2:=(h i hi).2 k hk
 have e3:=(h k hk).2 j hj
 have p1:=(h i hi).1
 have p2:=(h j hj).1
 have p3:=(h k hk).1
 have s1:=z8h h hi hk
 have s2:=z8h h hk hj
 simp only[zcw,Bool.and_eq_true,beq_iff_eq,decide_eq_decide]at s1 s2
 generalize ent m i j=a at *
 generalize ent m j i=a' at *
 generalize ent m i k=b at *
 generalize ent m k j=c at *
 generalize ent m j k=b' at *
 generalize ent m k i=c' at *
 rw[Bool.or_comm (decide (j=k))]
 cases(decide (i=k)||decide (j=k))
 ·unfold mutE
  simp only[Bool.false_eq_true,if_false]
  by_cases h1:0<b/\0<c
  ·rw[if_pos h1,if_neg (by omega),if_pos (by omega)]
   grind
  ·rw[if_neg h1]
   by_cases h2:b<0/\c<0
   ·rw[if_pos h2,if_pos (by omega)]
    grind
   ·rw[if_neg h2,if_neg (by omega),if_neg (by omega)]
    exact e1
 ·unfold mutE
  simp only[if_true]
  grind
def zi9{α:Type}{n p:Nat}{F G:Nat->α}(h:F p=G p):zkv n (p+1) F G=zkv n p F G:=by
 unfold zkv
 apply List.map_congr_left
 intro i hi
 by_cases h1:i<p
 ·rw[if_pos h1,if_pos (by omega)]
 ·rw[if_neg h1]
  by_cases h2:i=p
  ·subst h2;rw[if_pos (by omega)];exact h
  ·rw[if_neg (by omega)]
end Go.Fw
set_option linter.defProp false
set_option linter.unusedSimpArgs false
set_option maxRecDepth 100000
namespace Go.Fw
section
variable {ρ : Type}
namespace z0v
def P(m:Int×Int×List Int)(i j:Int):Bool:=atP m i j
def g(m:Int×Int×List Int)(i j:Int):Int:=atK m i j
end z0v
namespace z0v
def Z0{ρ:Type}(N:Nat)(a:MT)(b c:Int)(kr:Int->Option ρ):Option ρ :=
 cond (lk N (inB (w64 ((w64 (b*a.1))+c)) a.2.2.length)) (
  kr (a.2.2.getD (w64 ((w64 (b*a.1))+c)).toNat 0)) none
def Spec:Prop:=∀ (v0:MT) (v1 v2:Int),Ty.bd (.pair (.int .i64) (.pair (.int .i64) (.sl 0 (.int .i64)))) v0->P v0 v1 v2=true->∃N0,∀N,N0<=N->Z0 N v0 v1 v2 (λv6=>some ((),(v6,())))=some ((),((g v0 v1 v2),()))
def ok:Spec:=λm i j hb hp=>⟨0,λN hN=>by
 obtain⟨h1,h2,h3⟩:=zo3 hb.2.2.1 hp
 simp only[Z0,g,atK,h1]
 rw[ct (zrr h2 h3)]⟩
end z0v
end
end Go.Fw
namespace Go.Fw
section
variable {ρ : Type}
namespace z1z
def g(l:List Int)(n:Int):Bool:=l.any λx=>decide (x=n)
end z1z
namespace z1z
def Z1{ρ:Type}(N:Nat)(a:LI)(b:Int)(kn:LI->Int->Option ρ):Option ρ :=
 kn a b
def Z4{ρ:Type}(N:Nat)(a:LI)(b:Int)(kn:LI->I2 (Option ρ)):Option ρ :=
 kn a b 0
def Z7{ρ:Type}(N:Nat)(a:LI)(c b:Int)(kn:LI->I2 (Option ρ))(k0:Option ρ)(kr:Bool->Option ρ):Option ρ :=
 cond (lk N (decide (b<(a.length:Int))))
 (
  cond (lk N (inB b a.length)) (
   cond (lk N (decide ((a.getD b.toNat 0)=c)))
   (
    kr true)
   (
    kn a c (w64 (b+1)))) none)
 (
  k0)
def Z6L{ρ:Type}(N:Nat)(k0:Option ρ)(kr:Bool->Option ρ):Nat->LI->Int->Int->Option ρ
 | 0,_,_,_=>none
 | M+1,a,b,c=>Z7 N a b c (λa b c=>Z6L N k0 kr M a b c) k0 kr
def Z6 N a b c k0 kr:=(Z6L N k0 kr N a b c:Option ρ)
def Z5 N a b c kn kr:=(Z6 N a b c kn kr:Option ρ)
def Z3 N a b kn kr:=(Z4 N a b (λa b c=>Z5 N a b c kn kr):Option ρ)
def Z8{ρ:Type}(N:Nat) (kr:Bool->Option ρ):Option ρ :=
 kr false
def Z2 N a b kr:=(Z3 N a b (Z8 N kr) kr:Option ρ)
def Z0 N a b kr:=(Z1 N a b (λa b=>Z2 N a b kr):Option ρ)
def Spec:Prop:=∀ (v0:LI) (v1:Int),Ty.bd (.sl 0 (.int .i64)) v0->∃N0,∀N,N0<=N->Z0 N v0 v1 (λv4=>some ((),(v4,())))=some ((),((g v0 v1),()))
def loop{ρ:Type}(N:Nat)(kr:Bool->Option ρ)(n:Int)(a:List Int)(ha:a.length<=maxLen):∀(M j:Nat),j<=a.length->a.length-j<M ->
  Z6L N (kr false) kr M a n (j:Int)=kr (g (a.drop j) n):=by
 intro M
 induction M with
 | zero=>intro j _ h;omega
 | succ M ih =>
  intro j hj hM
  simp only[Z6L,Z7]
  by_cases h:j<a.length
  ·rw[ct (dt (by omega)),ct (z0o h),Int.toNat_natCast,z0z (by omega),ih (j+1) h (by omega),z1u 0 h]
   simp only[g,List.any_cons,z2i]
   cases decide (a.getD j 0=n)<;>rfl
  ·rw[cf (df (by omega)),List.drop_of_length_le (by omega)];rfl
def ok:Spec:=λa n ha=>⟨a.length+1,λN hN=>by
 simp only[Z1,Z4,Z7,Z6,Z5,Z3,Z8,Z2,Z0]
 exact(loop N (λt=>some ((),(t,()))) n a ha.1 N 0 (by omega) (by omega)).trans rfl⟩
def g_iff{l:List Int}{n:Int}:g l n=true↔n∈l:=by
 simp[g]
end z1z
end
end Go.Fw
namespace Go.Fw
section
variable {ρ : Type}
namespace z0p
def P(m:Int×Int×List Int)(i:Int):Bool:=z4v m&&(decide (0<=i)&&decide (i<m.1))
def g(m:Int×Int×List Int)(i:Int):List Int×List Int:=(z32 (zcc m i.toNat).1,z32 (zcc m i.toNat).2)
end z0p
namespace z0p
def Z1{ρ:Type}(N:Nat)(a:MT)(b:Int)(kn:I3 (LI->Option ρ)):Option ρ :=
 kn b a.1 a.2.1 a.2.2
def Z3{ρ:Type}(N:Nat)(a b c:Int)(d:LI)(kn:LI->I3 (LI->Option ρ)):Option ρ :=
 kn ([a]:List Int) a b c d
def Z5{ρ:Type}(N:Nat)(a:LI)(b c d:Int)(e:LI)(kn:LI->LI->I2 (LI->Option ρ)):Option ρ :=
 kn a ([b]:List Int) c d e
def Z8{ρ:Type}(N:Nat)(a b:LI)(c d:Int)(e:LI)(kn:LI->LI->I3 (LI->Option ρ)):Option ρ :=
 kn a b 0 c d e
def Z12{ρ:Type}(N:Nat)(a b:LI)(c d e:Int)(f:LI)(kn:LI->LI->I3 (LI->Option ρ))(k0:LI->LI->Option ρ):Option ρ :=
 cond (lk N (decide (c<(a.length:Int))))
 (
  kn a b c d e f)
 (
  k0 a b)
def Z16{ρ:Type}(N:Nat)(a b:LI)(c d e:Int)(f:LI)(kn:LI->LI->I4 (LI->Option ρ)):Option ρ :=
 kn a b c 0 d e f
def Z19{ρ:Type}(N:Nat)(a h:LI)(c b d e:Int)(f:LI)(kn:LI->LI->I4 (LI->Option ρ))(k2:LI->LI->I3 (LI->Option ρ)):Option ρ :=
 cond (lk N (decide (b<d)))
 (
  cond (lk N (inB c a.length)) (
   cond (lk N (z0v.P (d,(e,f)) (a.getD c.toNat 0) b)) (
    cond (lk N (!(decide ((z0v.g (d,(e,f)) (a.getD c.toNat 0) b)=0))))
    (
     cond (!(lk N ((z1z.g a b))))
     (
      cond (lk N (Nat.blt (a.length+([b]:List Int).length) 1099511627776)) (
       cond (lk N (inB c (a++([b]:List Int)).length)) (
        cond (lk N (Nat.blt (h.length+([((a++([b]:List Int)).getD c.toNat 0)]:List Int).length) 1099511627776)) (
         kn (a++([b]:List Int)) (h++([((a++([b]:List Int)).getD c.toNat 0)]:List Int)) c (w64 (b+1)) d e f) none) none) none)
     (
      kn a h c (w64 (b+1)) d e f))
    (
     kn a h c (w64 (b+1)) d e f)) none) none)
 (
  k2 a h c d e f)
def Z18L{ρ:Type}(N:Nat)(k2:LI->LI->I3 (LI->Option ρ)):Nat->LI->LI->Int->Int->Int->Int->LI->Option ρ
 | 0,_,_,_,_,_,_,_=>none
 | M+1,a,b,c,d,e,f,g=>Z19 N a b c d e f g (λa b c d e f g=>Z18L N k2 M a b c d e f g) k2
def Z18 N a b c d e f g k2:=(Z18L N k2 N a b c d e f g:Option ρ)
def Z17 N a b c d e f g kn:=(Z18 N a b c d e f g kn:Option ρ)
def Z15 N a b c d e f kn:=(Z16 N a b c d e f (λa b c g d e f=>Z17 N a b c g d e f kn):Option ρ)
def Z14 N a b c d e f kn:=(Z15 N a b c d e f kn:Option ρ)
def Z20{ρ:Type}(N:Nat)(a b:LI)(c d e:Int)(f:LI)(kn:LI->LI->I3 (LI->Option ρ)):Option ρ :=
 kn a b (w64 (c+1)) d e f
def Z13 N a b c d e f kn:=(Z14 N a b c d e f (λa b c d e f=>Z20 N a b c d e f kn):Option ρ)
def Z11 N a b c d e f kn k0:=(Z12 N a b c d e f (λa b c d e f=>Z13 N a b c d e f kn) k0:Option ρ)
def Z10L{ρ:Type}(N:Nat)(k0:LI->LI->Option ρ):Nat->LI->LI->Int->Int->Int->LI->Option ρ
 | 0,_,_,_,_,_,_=>none
 | M+1,a,b,c,d,e,f=>Z11 N a b c d e f (λa b c d e f=>Z10L N k0 M a b c d e f) k0
def Z10 N a b c d e f k0:=(Z10L N k0 N a b c d e f:Option ρ)
def Z9 N a b c d e f kn:=(Z10 N a b c d e f kn:Option ρ)
def Z7 N a b c d e kn:=(Z8 N a b c d e (λa b f c d e=>Z9 N a b f c d e kn):Option ρ)
def Z21{ρ:Type}(N:Nat)(a b:LI)(kr:LI->LI->Option ρ):Option ρ :=
 kr a b
def Z6 N a b c d e kr:=(Z7 N a b c d e (λa b=>Z21 N a b kr):Option ρ)
def Z4 N a e b c d kr:=(Z5 N a e b c d (λa f b c d=>Z6 N a f b c d kr):Option ρ)
def Z2 N a b c d kr:=(Z3 N a b c d (λe a b c d=>Z4 N e a b c d kr):Option ρ)
def Z0 N b a kr:=(Z1 N b a (λa c d e=>Z2 N a c d e kr):Option ρ)
def Spec:Prop:=∀ (v0:MT) (v1:Int),Ty.bd (.pair (.int .i64) (.pair (.int .i64) (.sl 0 (.int .i64)))) v0->P v0 v1=true->∃N0,∀N,N0<=N->Z0 N v0 v1 (λv4 v5=>some ((),(v4,(v5,()))))=some ((),((g v0 v1).1,((g v0 v1).2,())))
def inner{ρ:Type}(N:Nat)(k2:List Int->List Int->Int->Int->Int->List Int->Option ρ)(m:Int×Int×List Int)(hd:z4v m=true)(i p:Nat):∀(M j:Nat) (s:List Nat×List Nat),zd4 m.1.toNat (ent m) i s->p<s.1.length->j<=m.1.toNat->m.1.toNat-j<M ->
  Z18L N k2 M (z32 s.1) (z32 s.2) (p:Int) (j:Int) m.1 m.2.1 m.2.2 =
   k2 (z32 (pIn (ent m) (s.1.getD p 0) ((List.range m.1.toNat).drop j) s).1) (z32 (pIn (ent m) (s.1.getD p 0) ((List.range m.1.toNat).drop j) s).2) (p:Int) m.1 m.2.1 m.2.2:=by
 obtain⟨n,r,hn,hr,hn1,hn5,hnr,hr8,hl⟩:=z19 hd
 intro M
 induction M with
 | zero=>intro j s _ _ _ h;omega
 | succ M ih =>
  intro j s hs hp hj hM
  have hle:=hs.le
  have hlen:=hs.len
  simp only[Z18L,Z19]
  by_cases h:j<m.1.toNat
  ·have hx:s.1.getD p 0<m.1.toNat:=hs.lt _ (z1d 0 hp)
   have h1:Nat.blt ((z32 s.1).length+([(j:Int)]).length) 1099511627776=true:=by
    simp[z1q,Nat.blt_eq];omega
   have h2:Nat.blt ((z32 s.2).length+([((z32 (s.1++[j])).getD (p:Int).toNat 0)]).length) 1099511627776=true:=by
    simp[z1q,Nat.blt_eq];omega
   rw[ct (dt (by omega)),ct (z0o (by rw[z1q];exact hp)),z5z h,pIn]
   simp only[Int.toNat_natCast,z3g]
   rw[ct (show z0v.P (m.1,(m.2.1,m.2.2)) _ _=true from zkm hd (by omega) h),z0z (by rw[z0q];omega)]
   have hA:z0v.g (m.1,(m.2.1,m.2.2)) ((s.1.getD p 0:Nat):Int) (j:Int)=ent m (s.1.getD p 0) j:=z8r (by omega) _ _
   by_cases ha:ent m (s.1.getD p 0) j=0
   ·rw[cf (nf (hA.trans ha)),if_neg (λhc=>hc.1 ha)]
    exact ih (j+1) s hs hp h (by omega)
   ·rw[ct (nt (λhc=>ha (hA.symm.trans hc)))]
    by_cases hm:j∈s.1
    ·rw[cf' (by rw[z2i,z1z.g_iff.2 (zn8.2 hm)];rfl),if_neg (λhc=>hc.2 hm)]
     exact ih (j+1) s hs hp h (by omega)
    ·have hf:z1z.g (z32 s.1) (j:Int)=false:=by
      cases hc:z1z.g (z32 s.1) (j:Int)
      ·rfl
      ·exact absurd (zn8.1 (z1z.g_iff.1 hc)) hm
     rw[ct' (by rw[z2i,hf];rfl),ct h1,za0,ct (z0o (by rw[z1q];simp;omega)),if_pos ⟨ha,hm⟩]
     have e:(s.1++[j]).getD p 0=s.1.getD p 0:=z2n hp
     rw[z3g,e,za0]
     rw[z3g,Int.toNat_natCast,e]at h2
     rw[ct h2]
     have:=ih (j+1) (s.1++[j],s.2++[s.1.getD p 0]) (hs.step hp h ⟨ha,hm⟩) (by simp;omega) h (by omega)
     simp only[e]at this
     exact this
  ·rw[cf (df (by omega)),List.drop_of_length_le (by simp;omega),pIn]
def loop{ρ:Type}(N:Nat)(hN:10<=N)(k0:List Int->List Int->Option ρ)(m:Int×Int×List Int)(hd:z4v m=true)(i:Nat):∀(M p:Nat) (s:List Nat×List Nat),zd4 m.1.toNat (ent m) i s->p<=m.1.toNat->m.1.toNat-p<M ->
  Z10L N k0 M (z32 s.1) (z32 s.2) (p:Int) m.1 m.2.1 m.2.2=k0 (z32 (pGo (ent m) m.1.toNat (m.1.toNat-p) p s).1) (z32 (pGo (ent m) m.1.toNat (m.1.toNat-p) p s).2):=by
 obtain⟨n,r,hn,hr,hn1,hn5,hnr,hr8,hl⟩:=z19 hd
 intro M
 induction M with
 | zero=>intro p s _ _ h;omega
 | succ M ih =>
  intro p s hs hp hM
  have hle:=hs.le
  simp only[Z10L,Z11,Z12]
  by_cases h:p<s.1.length
  ·rw[ct (dt (by rw[z1q];omega))]
   simp only[Z13,Z14,Z15,Z16,Z17,Z18,Z20]
   have hin:=inner (ρ:=ρ) N (λa b c d e f=>Z10L N k0 M a b (w64 (c+1)) d e f) m hd i p N 0 s hs h (by omega) (by omega)
   rw[show((0:Nat):Int)=0 from rfl]at hin
   rw[hin,z0z (by rw[z0q];omega),List.drop_zero]
   obtain⟨h1,h2,h3⟩:=zgn (p:=p) (List.range m.1.toNat) s hs h (λx hx=>List.mem_range.1 hx)
   rw[ih (p+1) _ h1 (by omega) (by omega),show m.1.toNat-p=(m.1.toNat-(p+1))+1 by omega,pGo,if_pos h]
  ·rw[cf (df (by rw[z1q];omega))]
   cases hc:m.1.toNat-p with
   | zero=>rfl
   | succ f=>rw[pGo,if_neg h]
def ok:Spec:=λm i hb hp=>⟨10,λN hN=>by
 simp only[P,Bool.and_eq_true,decide_eq_true_eq]at hp
 obtain⟨hd,h0,h1⟩:=hp
 obtain⟨x,rfl⟩:=Int.eq_ofNat_of_zero_le h0
 obtain⟨n,r,hn,hr,hn1,hn5,hnr,hr8,hl⟩:=z19 hd
 simp only[Z0,Z1,Z2,Z3,Z4,Z5,Z6,Z7,Z8,Z9,Z10,Z21]
 have:=loop (ρ:=Unit×List Int×List Int×Unit) N hN (λa b=>some ((),(a,(b,())))) m hd x N 0 ([x],[x]) (zd4.first (by omega)) (by omega) (by omega)
 exact this⟩
end z0p
end
end Go.Fw
namespace Go.Fw
section
variable {ρ : Type}
namespace z2w
def g(n:Int):Int:=mx n (w64 (0-n))
end z2w
namespace z2w
def Z0{ρ:Type}(N:Nat)(a:Int)(kr:Int->Option ρ):Option ρ :=
 kr (mx a (w64 (0-a)))
def Spec:Prop:=∀ (v0:Int),∃N0,∀N,N0<=N->Z0 N v0 (λv2=>some ((),(v2,())))=some ((),((g v0),()))
def ok:Spec:=λn=>⟨0,λN hN=>by
 simp only[Z0,g]⟩
end z2w
end
end Go.Fw
namespace Go.Fw
section
variable {ρ : Type}
namespace z2g
def P(a b:Int):Bool:=decide (0<=a)&&(decide (a<9223372036854775808)&&(decide (0<=b)&&decide (b<9223372036854775808)))
def g(a b:Int):Int:=(Int.gcd a b:Int)
end z2g
namespace z2g
def Z1{ρ:Type}(N:Nat)(a b:Int)(kn:I2 (Option ρ)):Option ρ :=
 kn a b
def Z5{ρ:Type}(N:Nat)(b a:Int)(kn:I2 (Option ρ))(k0:Int->Option ρ):Option ρ :=
 cond (lk N (!(decide (a=0))))
 (
  cond (lk N (!(decide (a=0)))) (
   kn a (Int.tmod b a)) none)
 (
  k0 b)
def Z4L{ρ:Type}(N:Nat)(k0:Int->Option ρ):Nat->Int->Int->Option ρ
 | 0,_,_=>none
 | M+1,a,b=>Z5 N a b (λa b=>Z4L N k0 M a b) k0
def Z4 N a b k0:=(Z4L N k0 N a b:Option ρ)
def Z3 N a b kn:=(Z4 N a b kn:Option ρ)
def Z6{ρ:Type}(N:Nat)(a:Int)(kr:Int->Option ρ):Option ρ :=
 kr a
def Z2 N a b kr:=(Z3 N a b (λa=>Z6 N a kr):Option ρ)
def Z0 N a b kr:=(Z1 N a b (λa b=>Z2 N a b kr):Option ρ)
def Spec:Prop:=∀ (v0 v1:Int),P v0 v1=true->∃N0,∀N,N0<=N->Z0 N v0 v1 (λv4=>some ((),(v4,())))=some ((),((g v0 v1),()))
def loop{ρ:Type}(N:Nat)(k0:Int->Option ρ):∀(M:Nat) (a b:Nat),b<M->Z4L N k0 M (a:Int) (b:Int)=k0 (Nat.gcd b a:Nat):=by
 intro M
 induction M with
 | zero=>intro a b h;omega
 | succ M ih =>
  intro a b hM
  simp only[Z4L,Z5]
  by_cases h:b=0
  ·subst h
   rw[cf (by simp),Nat.gcd_zero_left]
  ·rw[ct (nt (by omega)),ct (nt (by omega)),show Int.tmod (a:Int) (b:Int)=((a%b:Nat):Int)from rfl,ih _ _ (by have:=Nat.mod_lt a (Nat.pos_of_ne_zero h);omega),<-Nat.gcd_rec]
def ok:Spec:=λa b hp=>⟨b.toNat+1,λN hN=>by
 simp only[P,Bool.and_eq_true,decide_eq_true_eq]at hp
 obtain⟨h1,h2,h3,h4⟩:=hp
 obtain⟨x,rfl⟩:=Int.eq_ofNat_of_zero_le h1
 obtain⟨y,rfl⟩:=Int.eq_ofNat_of_zero_le h3
 simp only[Z1,Z5,Z4,Z3,Z6,Z2,Z0,g]
 rw[loop N _ N x y (by omega),Nat.gcd_comm]
 rfl⟩
end z2g
end
end Go.Fw
namespace Go.Fw
section
variable {ρ : Type}
namespace z02
def P(m:Int×Int×List Int):Bool:=z2d m
def g(m:Int×Int×List Int):List Int×Bool:=(z5h m,!decide (z5h m=[]))
end z02
namespace z02
def Z1{ρ:Type}(N:Nat)(a:MT)(kn:I2 (LI->Option ρ)):Option ρ :=
 kn a.1 a.2.1 a.2.2
def Z3{ρ:Type}(N:Nat)(a b:Int)(c:LI)(kn:LI->I2 (LI->Option ρ)):Option ρ :=
 cond (lk N (leB 0 a&&decide (a<1099511627776))) (
  kn (List.replicate a.toNat (0:Int)) a b c) none
def Z6{ρ:Type}(N:Nat)(a:LI)(b c:Int)(d:LI)(kn:LI->I3 (LI->Option ρ)):Option ρ :=
 kn a 0 b c d
def Z10{ρ:Type}(N:Nat)(b:LI)(c a d:Int)(e:LI)(kn:LI->I3 (LI->Option ρ))(k0:LI->I2 (LI->Option ρ)):Option ρ :=
 cond (lk N (decide (c<a)))
 (
  kn b c a d e)
 (
  k0 b a d e)
def Z14{ρ:Type}(N:Nat)(a:LI)(b c d:Int)(e:LI)(kn k1:LI->I3 (LI->Option ρ)):Option ρ :=
 cond (lk N (inB b a.length)) (
  cond (lk N (decide (0<(a.getD b.toNat 0))))
  (
   k1 a b c d e)
  (
   kn a b c d e)) none
def Z16{ρ:Type}(N:Nat)(e:LI)(a b c:Int)(d:LI)(kn:LI->LI->LI->I3 (LI->Option ρ)):Option ρ :=
 cond (lk N (z0p.P (b,(c,d)) a)) (
  kn e (z0p.g (b,(c,d)) a).1 (z0p.g (b,(c,d)) a).2 a b c d) none
def Z18{ρ:Type}(N:Nat)(b c d:LI)(a e f:Int)(g:LI)(kn:LI->LI->LI->I3 (LI->Option ρ)):Option ρ :=
 cond (lk N (inB a b.length)) (
  kn (b.set a.toNat 1) c d a e f g) none
def Z21{ρ:Type}(N:Nat)(a b c:LI)(d e f:Int)(g:LI)(kn:LI->LI->LI->I4 (LI->Option ρ)):Option ρ :=
 kn a b c d 1 e f g
def Z24{ρ:Type}(N:Nat)(d b e:LI)(c a f h:Int)(i:LI)(kn:LI->LI->LI->I4 (LI->Option ρ))(k2:LI->LI->LI->I3 (LI->Option ρ)):Option ρ :=
 cond (lk N (decide (a<(b.length:Int))))
 (
  cond (lk N (inB c d.length)) (
   cond (lk N (inB a b.length)) (
    cond (lk N (inB a e.length)) (
     cond (lk N (z0v.P (f,(h,i)) (b.getD a.toNat 0) (e.getD a.toNat 0))) (
      cond (lk N (inB c d.length)) (
       kn (d.set c.toNat (w64 ((d.getD c.toNat 0)*(z2w.g (z0v.g (f,(h,i)) (b.getD a.toNat 0) (e.getD a.toNat 0)))))) b e c (w64 (a+1)) f h i) none) none) none) none) none)
 (
  k2 d b e c f h i)
def Z23L{ρ:Type}(N:Nat)(k2:LI->LI->LI->I3 (LI->Option ρ)):Nat->LI->LI->LI->Int->Int->Int->Int->LI->Option ρ
 | 0,_,_,_,_,_,_,_,_=>none
 | M+1,a,b,c,d,e,f,g,h=>Z24 N a b c d e f g h (λa b c d e f g h=>Z23L N k2 M a b c d e f g h) k2
def Z23 N a b c d e f g h k2:=(Z23L N k2 N a b c d e f g h:Option ρ)
def Z22 N a b c d e f g h kn:=(Z23 N a b c d e f g h kn:Option ρ)
def Z20 N a b c d e f g kn:=(Z21 N a b c d e f g (λa b c d h e f g=>Z22 N a b c d h e f g kn):Option ρ)
def Z26{ρ:Type}(N:Nat)(a c d:LI)(b e f:Int)(g:LI)(kn:LI->LI->LI->I4 (LI->Option ρ)):Option ρ :=
 cond (lk N (inB b a.length)) (
  kn a c d b (a.getD b.toNat 0) e f g) none
def Z29{ρ:Type}(N:Nat)(a b c:LI)(d e f g:Int)(h:LI)(kn:LI->LI->LI->I5 (LI->Option ρ)):Option ρ :=
 kn a b c d e 1 f g h
def Z32{ρ:Type}(N:Nat)(h b c:LI)(j i a d e:Int)(f:LI)(kn:LI->LI->LI->I5 (LI->Option ρ))(k4:LI->LI->I4 (LI->Option ρ)):Option ρ :=
 let x1_:=(z2w.g (z0v.g (d,(e,f)) (b.getD a.toNat 0) (c.getD a.toNat 0)))
 let x2_:=(lk N (inB a b.length))
 let x0_:=(h.set (b.getD a.toNat 0).toNat (w64 (Int.tdiv (w64 ((h.getD (c.getD a.toNat 0).toNat 0)*(z2w.g (z0v.g (d,(e,f)) (c.getD a.toNat 0) (b.getD a.toNat 0))))) x1_)))
 cond (lk N (decide (a<(b.length:Int))))
 (
 cond x2_ (
 cond (lk N (inB a c.length)) (
 cond (lk N (inB (c.getD a.toNat 0) h.length)) (
 cond (lk N (inB a c.length)) (
 cond x2_ (
 cond x2_ (
 cond (lk N (inB a c.length)) (
 cond (lk N (z0v.P (d,(e,f)) (c.getD a.toNat 0) (b.getD a.toNat 0))) (
 cond (lk N (z0v.P (d,(e,f)) (b.getD a.toNat 0) (c.getD a.toNat 0))) (
 cond (lk N (!(decide (x1_=0)))) (
 cond (lk N (inB (b.getD a.toNat 0) h.length)) (
 cond x2_ (
 cond (lk N (inB (b.getD a.toNat 0) x0_.length)) (
 cond (lk N (z2g.P i (x0_.getD (b.getD a.toNat 0).toNat 0))) (
 kn x0_ b c j (z2g.g i (x0_.getD (b.getD a.toNat 0).toNat 0)) (w64 (a+1)) d e f) none) none) none) none) none) none) none) none) none) none) none) none) none) none)
 (
 k4 h b j i d e f)
def Z31L{ρ:Type}(N:Nat)(k4:LI->LI->I4 (LI->Option ρ)):Nat->LI->LI->LI->Int->Int->Int->Int->Int->LI->Option ρ
 | 0,_,_,_,_,_,_,_,_,_=>none
 | M+1,a,b,c,d,e,f,g,h,i=>Z32 N a b c d e f g h i (λa b c d e f g h i=>Z31L N k4 M a b c d e f g h i) k4
def Z31 N a b c d e f g h i k4:=(Z31L N k4 N a b c d e f g h i:Option ρ)
def Z30 N a b c d e f g h i kn:=(Z31 N a b c d e f g h i kn:Option ρ)
def Z28 N a b c d e f g h kn:=(Z29 N a b c d e f g h (λa b c d e i f g h=>Z30 N a b c d e i f g h kn):Option ρ)
def Z34{ρ:Type}(N:Nat)(a b:LI)(c d e f:Int)(g:LI)(kn:LI->LI->I5 (LI->Option ρ)):Option ρ :=
 kn a b c d 0 e f g
def Z37{ρ:Type}(N:Nat)(c a:LI)(e d b f g:Int)(h:LI)(kn:LI->LI->I5 (LI->Option ρ))(k6:LI->I3 (LI->Option ρ)):Option ρ :=
 cond (lk N (decide (b<(a.length:Int))))
 (
  cond (lk N (inB b a.length)) (
   cond (lk N (inB b a.length)) (
    cond (lk N (inB (a.getD b.toNat 0) c.length)) (
     cond (lk N (!(decide (d=0)))) (
      cond (lk N (inB (a.getD b.toNat 0) c.length)) (
       kn (c.set (a.getD b.toNat 0).toNat (w64 (Int.tdiv (c.getD (a.getD b.toNat 0).toNat 0) d))) a e d (w64 (b+1)) f g h) none) none) none) none) none)
 (
  k6 c e f g h)
def Z36L{ρ:Type}(N:Nat)(k6:LI->I3 (LI->Option ρ)):Nat->LI->LI->Int->Int->Int->Int->Int->LI->Option ρ
 | 0,_,_,_,_,_,_,_,_=>none
 | M+1,a,b,c,d,e,f,g,h=>Z37 N a b c d e f g h (λa b c d e f g h=>Z36L N k6 M a b c d e f g h) k6
def Z36 N a b c d e f g h k6:=(Z36L N k6 N a b c d e f g h:Option ρ)
def Z35 N a b c d e f g h kn:=(Z36 N a b c d e f g h kn:Option ρ)
def Z33 N a b c d e f g kn:=(Z34 N a b c d e f g (λa b c d h e f g=>Z35 N a b c d h e f g kn):Option ρ)
def Z27 N a b h c d e f g kn:=(Z28 N a b h c d e f g (λa b c d e f g=>Z33 N a b c d e f g kn):Option ρ)
def Z25 N a b c d e f g kn:=(Z26 N a b c d e f g (λa b c d h e f g=>Z27 N a b c d h e f g kn):Option ρ)
def Z19 N a b c d e f g kn:=(Z20 N a b c d e f g (λa b c d e f g=>Z25 N a b c d e f g kn):Option ρ)
def Z17 N a b c d e f g kn:=(Z18 N a b c d e f g (λa b c d e f g=>Z19 N a b c d e f g kn):Option ρ)
def Z15 N a b c d e kn:=(Z16 N a b c d e (λa f g b c d e=>Z17 N a f g b c d e kn):Option ρ)
def Z13 N a b c d e kn k1:=(Z14 N a b c d e (λa b c d e=>Z15 N a b c d e kn) k1:Option ρ)
def Z12 N a b c d e kn:=(Z13 N a b c d e kn kn:Option ρ)
def Z38{ρ:Type}(N:Nat)(a:LI)(b c d:Int)(e:LI)(kn:LI->I3 (LI->Option ρ)):Option ρ :=
 kn a (w64 (b+1)) c d e
def Z11 N a b c d e kn:=(Z12 N a b c d e (λa b c d e=>Z38 N a b c d e kn):Option ρ)
def Z9 N a b c d e kn k0:=(Z10 N a b c d e (λa b c d e=>Z11 N a b c d e kn) k0:Option ρ)
def Z8L{ρ:Type}(N:Nat)(k0:LI->I2 (LI->Option ρ)):Nat->LI->Int->Int->Int->LI->Option ρ
 | 0,_,_,_,_,_=>none
 | M+1,a,b,c,d,e=>Z9 N a b c d e (λa b c d e=>Z8L N k0 M a b c d e) k0
def Z8 N a b c d e k0:=(Z8L N k0 N a b c d e:Option ρ)
def Z7 N a b c d e kn:=(Z8 N a b c d e kn:Option ρ)
def Z5 N a b c d kn:=(Z6 N a b c d (λa e b c d=>Z7 N a e b c d kn):Option ρ)
def Z41{ρ:Type}(N:Nat)(a:LI)(b c:Int)(d:LI)(kn:LI->I3 (LI->Option ρ)):Option ρ :=
 kn a 0 b c d
def Z45{ρ:Type}(N:Nat)(a:LI)(b c d:Int)(e:LI)(kn:LI->I3 (LI->Option ρ))(k8:LI->Option ρ):Option ρ :=
 cond (lk N (decide (b<c)))
 (
  kn a b c d e)
 (
  k8 a)
def Z49{ρ:Type}(N:Nat)(a:LI)(b c d:Int)(e:LI)(kn:LI->I4 (LI->Option ρ)):Option ρ :=
 kn a b 0 c d e
def Z52{ρ:Type}(N:Nat)(d:LI)(a b c e:Int)(f:LI)(kn:LI->I4 (LI->Option ρ))(k10:LI->I3 (LI->Option ρ))(kr:LI->Bool->Option ρ):Option ρ :=
 cond (lk N (decide (b<c)))
 (
  cond (lk N (inB a d.length)) (
   cond (lk N (inB b d.length)) (
    cond (lk N (z0v.P (c,(e,f)) a b)) (
     cond (lk N (z0v.P (c,(e,f)) b a)) (
      cond (lk N (!(decide ((w64 ((d.getD a.toNat 0)*(z0v.g (c,(e,f)) a b)))=(w64 (0-(w64 ((d.getD b.toNat 0)*(z0v.g (c,(e,f)) b a)))))))))
      (
       kr ([]:List Int) false)
      (
       kn d a (w64 (b+1)) c e f)) none) none) none) none)
 (
  k10 d a c e f)
def Z51L{ρ:Type}(N:Nat)(k10:LI->I3 (LI->Option ρ))(kr:LI->Bool->Option ρ):Nat->LI->Int->Int->Int->Int->LI->Option ρ
 | 0,_,_,_,_,_,_=>none
 | M+1,a,b,c,d,e,f=>Z52 N a b c d e f (λa b c d e f=>Z51L N k10 kr M a b c d e f) k10 kr
def Z51 N a b c d e f k10 kr:=(Z51L N k10 kr N a b c d e f:Option ρ)
def Z50 N a b c d e f kn kr:=(Z51 N a b c d e f kn kr:Option ρ)
def Z48 N a b c d e kn kr:=(Z49 N a b c d e (λa b f c d e=>Z50 N a b f c d e kn kr):Option ρ)
def Z47 N a b c d e kn kr:=(Z48 N a b c d e kn kr:Option ρ)
def Z53{ρ:Type}(N:Nat)(a:LI)(b c d:Int)(e:LI)(kn:LI->I3 (LI->Option ρ)):Option ρ :=
 kn a (w64 (b+1)) c d e
def Z46 N a b c d e kn kr:=(Z47 N a b c d e (λa b c d e=>Z53 N a b c d e kn) kr:Option ρ)
def Z44 N a b c d e kn k8 kr:=(Z45 N a b c d e (λa b c d e=>Z46 N a b c d e kn kr) k8:Option ρ)
def Z43L{ρ:Type}(N:Nat)(k8:LI->Option ρ)(kr:LI->Bool->Option ρ):Nat->LI->Int->Int->Int->LI->Option ρ
 | 0,_,_,_,_,_=>none
 | M+1,a,b,c,d,e=>Z44 N a b c d e (λa b c d e=>Z43L N k8 kr M a b c d e) k8 kr
def Z43 N a b c d e k8 kr:=(Z43L N k8 kr N a b c d e:Option ρ)
def Z42 N a b c d e kn kr:=(Z43 N a b c d e kn kr:Option ρ)
def Z40 N a b c d kn kr:=(Z41 N a b c d (λa e b c d=>Z42 N a e b c d kn kr):Option ρ)
def Z54{ρ:Type}(N:Nat)(a:LI)(kr:LI->Bool->Option ρ):Option ρ :=
 kr a true
def Z39 N a b c d kr:=(Z40 N a b c d (λa=>Z54 N a kr) kr:Option ρ)
def Z4 N a b c d kr:=(Z5 N a b c d (λa b c d=>Z39 N a b c d kr):Option ρ)
def Z2 N a b c kr:=(Z3 N a b c (λd a b c=>Z4 N d a b c kr):Option ρ)
def Z0 N a kr:=(Z1 N a (λb c d=>Z2 N b c d kr):Option ρ)
def Spec:Prop:=∀ (v0:MT),Ty.bd (.pair (.int .i64) (.pair (.int .i64) (.sl 0 (.int .i64)))) v0->P v0=true->∃N0,∀N,N0<=N->Z0 N v0 (λv2 v3=>some ((),(v2,(v3,()))))=some ((),((g v0).1,((g v0).2,())))
def zub{a:Int}(h:-99<=a/\a<=99):z2w.g a=z5v a:=by
 unfold z2w.g
 rw[z1t (by omega) (by omega),mx_eq]
 unfold z5v
 omega
section
variable {ρ : Type} {N : Nat} {m : Int × Int × List Int} {s : List Nat × List Nat} {i : Nat}
def at_g(hd:0<=m.1)(a b:Nat):z0v.g (m.1,(m.2.1,m.2.2)) (a:Int) (b:Int)=ent m a b:=z8r hd a b
def at_p(hd:z4v m=true){a b:Nat}(ha:a<m.1.toNat)(hb:b<m.1.toNat):z0v.P (m.1,(m.2.1,m.2.2)) (a:Int) (b:Int)=true:=by
 obtain⟨n,r,hn,hr,hn1,hn5,hnr,hr8,hl⟩:=z19 hd
 exact zkm hd (by omega) hb
def loop1(hs:z2d m=true)(h:zd4 m.1.toNat (ent m) i s)(hi:i<m.1.toNat)(k2:List Int->List Int->List Int->Int->Int->Int->List Int->Option ρ)(d0:List Int)(hd0:d0.length=m.1.toNat):∀(M k:Nat),1<=k->k<=s.1.length->s.1.length-k<M ->
  Z23L N k2 M (d0.set i (z5k (qK m s) k)) (z32 s.1) (z32 s.2) (i:Int) (k:Int) m.1 m.2.1 m.2.2=k2 (d0.set i (z5k (qK m s) s.1.length)) (z32 s.1) (z32 s.2) (i:Int) m.1 m.2.1 m.2.2:=by
 have hdim:=z21 (z27 hs)
 obtain⟨n,r,hn,hr,hn1,hn5,hnr,hr8,hl⟩:=z19 hdim
 have hle:=h.le
 intro M
 induction M with
 | zero=>intro k _ _ hM;omega
 | succ M ih =>
  intro k h1 hk hM
  simp only[Z23L,Z24]
  by_cases hlt:k<s.1.length
  ·have hb:=z63 (zdt hs h) (k+1) (by omega)
   have hp9:=zqn (k:=k+1) (by omega)
   have e:qK m s k=z2w.g (ent m (s.1.getD k 0) (s.2.getD k 0)):=by
    rw[zub (z3h (z27 hs) _ _),qK,if_neg (by omega)]
   rw[ct (dt (by rw[z1q];omega)),ct (z0o (by rw[List.length_set];omega)),ct (z0o (by rw[z1q];omega)),ct (z0o (by rw[z1q,h.len];omega))]
   simp only[Int.toNat_natCast,z3g]
   rw[ct (at_p hdim (h.lt _ (z1d 0 hlt)) (zig h h1 hlt)),ct (z0o (by rw[List.length_set];omega)),List.set_set,z1x (by omega),if_pos rfl,at_g (by omega),<-e,
    show z5k (qK m s) k*qK m s k=z5k (qK m s) (k+1)from rfl,z1t (by omega) (by omega),z0z (by rw[z0q];omega)]
   exact ih (k+1) (by omega) (by omega) (by omega)
  ·rw[cf (df (by rw[z1q];omega)),show k=s.1.length by omega]
def loop2(hs:z2d m=true)(h:zd4 m.1.toNat (ent m) i s)(k4:List Int->List Int->Int->Int->Int->Int->List Int->Option ρ)(d0:List Int):∀(M k:Nat) (d:List Int) (g:Int),1<=k->k<=s.1.length->s.1.length-k<M->T2 m s d0 k d g ->
  ∃d' g',T2 m s d0 s.1.length d' g'/\Z31L N k4 M d (z32 s.1) (z32 s.2) (i:Int) g (k:Int) m.1 m.2.1 m.2.2=k4 d' (z32 s.1) (i:Int) g' m.1 m.2.1 m.2.2:=by
 have hdim:=z21 (z27 hs)
 obtain⟨n,r,hn,hr,hn1,hn5,hnr,hr8,hl⟩:=z19 hdim
 have hle:=h.le
 intro M
 induction M with
 | zero=>intro k _ _ _ _ hM;omega
 | succ M ih =>
  intro k d g h1 hk hM ht
  simp only[Z31L,Z32]
  by_cases hlt:k<s.1.length
  ·obtain⟨⟨a1,a2⟩,⟨b1,b2⟩,hst⟩:=ht.step hs h (by omega) h1 hlt
   obtain⟨⟨hq,_⟩,hp,_⟩:=zd8 hs h h1 hlt
   have hg:=ht.g_range h1
   have hx:=h.lt _ (z1d 0 hlt)
   have hf:=zig h h1 hlt
   have e1:z2w.g (ent m (s.1.getD k 0) (s.2.getD k 0))=qK m s k:=by
    rw[zub (z3h (z27 hs) _ _),qK,if_neg (by omega)]
   have e2:z2w.g (ent m (s.2.getD k 0) (s.1.getD k 0))=pK m s k:=by
    rw[zub (z3h (z27 hs) _ _),pK]
   have c1:inB (k:Int) (z32 s.1).length=true:=z0o (by rw[z1q];omega)
   have c2:inB (k:Int) (z32 s.2).length=true:=z0o (by rw[z1q,h.len];omega)
   rw[ct (dt (by rw[z1q];omega)),ct c1,ct c2]
   simp only[Int.toNat_natCast,z3g]
   rw[ct (z0o (by rw[ht.len];exact hf)),ct c2,ct c1,ct c1,ct c2,ct (at_p hdim hf hx),ct (at_p hdim hx hf)]
   simp only[at_g (show 0<=m.1 by omega),e1,e2]
   rw[ct (nt (by omega)),ct (z0o (by rw[ht.len];exact hx)),ct c1]
   simp only[z1t (show -9223372036854775808<=d.getD (s.2.getD k 0) 0*pK m s k by omega) (by omega)]
   simp only[z1t (show -9223372036854775808<=Int.tdiv (d.getD (s.2.getD k 0) 0*pK m s k) (qK m s k) by omega) (by omega)]
   rw[ct (z0o (by rw[List.length_set,ht.len];exact hx)),z1x (by rw[ht.len];exact hx),if_pos rfl]
   rw[ct (show z2g.P g _=true by
    simp only[z2g.P,Bool.and_eq_true,decide_eq_true_eq]
    exact⟨by omega,by omega,by omega,by omega⟩),z0z (by rw[z0q];omega)]
   exact ih (k+1) _ _ (by omega) (by omega) (by omega) hst
  ·have e:k=s.1.length:=by omega
   subst e
   exact⟨d,g,ht,by rw[cf (df (by rw[z1q];omega))]⟩
def loop3(hs:z2d m=true)(h:zd4 m.1.toNat (ent m) i s)(k6:List Int->Int->Int->Int->List Int->Option ρ)(d0 d2:List Int)(g:Int)(h2:T2 m s d0 s.1.length d2 g):∀(M k:Nat) (d:List Int),k<=s.1.length->s.1.length-k<M->T3 m s d2 g k d ->
  ∃d',T3 m s d2 g s.1.length d'/\Z36L N k6 M d (z32 s.1) (i:Int) g (k:Int) m.1 m.2.1 m.2.2=k6 d' (i:Int) m.1 m.2.1 m.2.2:=by
 have hle:=h.le
 have hdim:=z21 (z27 hs)
 obtain⟨n,r,hn,hr,hn1,hn5,hnr,hr8,hl⟩:=z19 hdim
 have hg:=h2.g_range h.pos
 intro M
 induction M with
 | zero=>intro k _ _ hM;omega
 | succ M ih =>
  intro k d hk hM ht
  simp only[Z36L,Z37]
  by_cases hlt:k<s.1.length
  ·have hx:=h.lt _ (z1d 0 hlt)
   have c1:inB (k:Int) (z32 s.1).length=true:=z0o (by rw[z1q];omega)
   have hv:=h2.val k hlt
   have hp8:=zqn (k:=4+k) (by omega)
   have hdv:0<=Int.tdiv (d2.getD (s.1.getD k 0) 0) g/\Int.tdiv (d2.getD (s.1.getD k 0) 0) g<=9227446944279201:=by
    rw[Int.tdiv_eq_ediv_of_nonneg (by omega)]
    refine⟨Int.ediv_nonneg (by omega) (by omega), ?_⟩
    have:=Int.ediv_le_self (a:=d2.getD (s.1.getD k 0) 0) g (by omega)
    omega
   rw[ct (dt (by rw[z1q];omega)),ct c1,ct c1]
   simp only[Int.toNat_natCast,z3g]
   rw[ct (z0o (by rw[ht.len];exact hx)),ct (nt (by omega)),ct (z0o (by rw[ht.len];exact hx)),ht.cur h.nd h.lt hlt,z1t (by omega) (by omega),z0z (by rw[z0q];omega)]
   exact ih (k+1) _ (by omega) (by omega) (ht.step h.nd h.lt hlt)
  ·have e:k=s.1.length:=by omega
   subst e
   exact⟨d,ht,by rw[cf (df (by rw[z1q];omega))]⟩
def outer(hN:10<=N)(hs:z2d m=true)(k0:List Int->Int->Int->List Int->Option ρ):∀(M i:Nat) (d:List Int),i<=m.1.toNat->m.1.toNat-i<M->d.length=m.1.toNat->Part m.1.toNat (ent m) (λx=>d.getD x 0)->(∀x,x<i->0<d.getD x 0) ->
  ∃d',(d'.length=m.1.toNat/\Part m.1.toNat (ent m) (λx=>d'.getD x 0)/\∀x,x<m.1.toNat->0<d'.getD x 0)/\Z8L N k0 M d (i:Int) m.1 m.2.1 m.2.2=k0 d' m.1 m.2.1 m.2.2:=by
 have hdim:=z21 (z27 hs)
 obtain⟨n,r,hn,hr,hn1,hn5,hnr,hr8,hl⟩:=z19 hdim
 intro M
 induction M with
 | zero=>intro i _ _ hM;omega
 | succ M ih =>
  intro i d hi hM hdl hpt hpos
  simp only[Z8L,Z9,Z10]
  by_cases hlt:i<m.1.toNat
  ·rw[ct (dt (by omega))]
   simp only[Z11,Z12,Z13,Z14]
   rw[ct (z0o (by omega)),Int.toNat_natCast]
   by_cases hd:0<d.getD i 0
   ·rw[ct (dt hd)]
    simp only[Z38]
    rw[z0z (by rw[z0q];omega)]
    exact ih (i+1) d hlt (by omega) hdl hpt (λx hx=>by
     by_cases e:x=i
     ·subst e;exact hd
     ·exact hpos x (by omega))
   ·rw[cf (df hd)]
    obtain⟨h,hcl⟩:=piece_ok hlt
    simp only[Z15,Z16]
    rw[ct (show z0p.P (m.1,(m.2.1,m.2.2)) (i:Int)=true by
     simp only[z0p.P,Bool.and_eq_true,decide_eq_true_eq]
     exact⟨hdim,by omega,by omega⟩)]
    simp only[Z17,Z18]
    rw[ct (z0o (by omega)),Int.toNat_natCast]
    have eP:z0p.g (m.1,(m.2.1,m.2.2)) (i:Int)=(z32 (zcc m i).1,z32 (zcc m i).2):=rfl
    rw[eP]
    generalize zcc m i=s at h hcl
    have hle:=h.le
    simp only[Z19,Z20,Z21,Z22,Z23]
    have l1:=loop1 (ρ:=ρ) (N:=N) hs h hlt (λa b c d e f g=>Z25 N a b c d e f g (λa b c d e=>Z38 N a b c d e (λa b c d e=>Z8L N k0 M a b c d e))) d hdl N 1 (by omega) h.pos (by omega)
    rw[show z5k (qK m s) 1=1 by simp[z5k,qK]]at l1
    rw[show(((1:Nat):Int))=1 from rfl]at l1
    rw[l1]
    simp only[Z25,Z26]
    have hset:∀v,(d.set i v).length=m.1.toNat:=λv=>by rw[List.length_set];exact hdl
    rw[ct (z0o (by rw[hset];exact hlt)),Int.toNat_natCast,z1x (by omega),if_pos rfl]
    simp only[Z27,Z28,Z29,Z30,Z31]
    have hH:=z63 (zdt hs h) s.1.length (by omega)
    have hHp:(99:Int) ^ s.1.length<=99 ^ (4+0)\/s.1.length=5:=by
     by_cases e:s.1.length=5
     ·exact Or.inr e
     ·left
      have:99 ^ s.1.length<=99 ^ (4+0):=Nat.pow_le_pow_right (by omega) (by omega)
      exact_mod_cast this
    have hH4:z5k (qK m s) s.1.length<=99 ^ (4+0):=by
     rcases hHp with hc | hc
     ·omega
     ·rw[hc]
      have q1:z5k (qK m s) 1=1:=by simp[z5k,qK]
      have b:∀k,1<=k->k<=s.1.length->z5k (qK m s) k<=99 ^ (k-1):=by
       intro k
       induction k with
       | zero=>intro h _;omega
       | succ k ihk =>
        intro _ hk
        by_cases e:k=0
        ·subst e;rw[q1];decide
        ·have c1:=ihk (by omega) (by omega)
         have c2:=zdt hs h k (by omega)
         have c3:=z63 (zdt hs h) k (by omega)
         have:z5k (qK m s) k*qK m s k<=99 ^ (k-1)*99:=Int.mul_le_mul c1 c2.2 (by omega) (Int.pow_nonneg (by omega))
         rw[<-Int.pow_succ,show(k-1).succ=k by omega]at this
         exact this
      exact b 5 (by omega) (by omega)
    have t0:T2 m s d 1 (d.set i (z5k (qK m s) s.1.length)) (z5k (qK m s) s.1.length):=by
     refine⟨hset _, ?_, ?_,λk h1 h2=>by omega, ?_⟩
     ·intro x hx hall
      rw[z1x (by omega),if_neg (λe=>hall 0 (by omega) (by rw[h.hd];exact e.symm))]
     ·intro k hk
      have e:k=0:=by omega
      subst e
      rw[h.hd,z1x (by omega),if_pos rfl]
      refine⟨hH.1,hH4,⟨z5k (qK m s) 1,rfl⟩⟩
     ·show _=((z7u [(d.set i (z5k (qK m s) s.1.length)).getD (s.1.getD 0 0) 0]:Nat):Int)
      rw[h.hd,z1x (by omega),if_pos rfl,z7u,z7u,Nat.gcd_zero_right]
      omega
    obtain⟨d2,g2,ht2,l2⟩:=loop2 (ρ:=ρ) (N:=N) hs h (λa b c d e f g=>Z33 N a b c d e f g (λa b c d e=>Z38 N a b c d e (λa b c d e=>Z8L N k0 M a b c d e))) d N 1 _ _ (by omega) h.pos (by omega) t0
    rw[show(((1:Nat):Int))=1 from rfl]at l2
    rw[l2]
    simp only[Z33,Z34,Z35,Z36]
    obtain⟨d3,ht3,l3⟩:=loop3 (ρ:=ρ) (N:=N) hs h (λa b c d e=>Z38 N a b c d e (λa b c d e=>Z8L N k0 M a b c d e)) d d2 g2 ht2 N 0 d2 (by omega) (by omega) ⟨ht2.len,λ_ _ _=>rfl,λk hk=>by omega⟩
    rw[show(((0:Nat):Int))=0 from rfl]at l3
    rw[l3]
    obtain⟨p1,p2,p3⟩:=zqo hs hlt h (by omega) hcl hpt (by omega) ht2 ht3
    simp only[Z38]
    rw[z0z (by rw[z0q];omega)]
    exact ih (i+1) d3 hlt (by omega) ht3.len p1 (λx hx=>by
     by_cases e:x=i
     ·subst e;exact p2
     ·exact p3 x (by omega) (hpos x (by omega)))
  ·rw[cf (df (by omega))]
   exact⟨d,⟨hdl,hpt,λx hx=>hpos x (by omega)⟩,rfl⟩
def edge(m:Int×Int×List Int)(d:List Int)(i j:Nat):Prop:=d.getD i 0*ent m i j=-(d.getD j 0*ent m j i)
def edge_w(hs:z1a m=true){d:List Int}(hd:Part m.1.toNat (ent m) (λx=>d.getD x 0)){i j:Nat}(hi:i<m.1.toNat)(hj:j<m.1.toNat) :
  (w64 (d.getD i 0*ent m i j)=w64 (0-w64 (d.getD j 0*ent m j i)))↔edge m d i j:=by
 have key:∀a b:Nat,a<m.1.toNat->-913517247483640899<=d.getD a 0*ent m a b/\d.getD a 0*ent m a b<=913517247483640899:=by
  intro a b ha
  obtain⟨h1,h2,_⟩:=hd a ha
  have h3:=z3h hs a b
  have h1':0<=d.getD a 0:=h1
  have h2':d.getD a 0<=9227446944279201:=h2
  have c1:d.getD a 0*ent m a b<=d.getD a 0*99:=Int.mul_le_mul_of_nonneg_left h3.2 h1'
  have c2:d.getD a 0*(-99)<=d.getD a 0*ent m a b:=Int.mul_le_mul_of_nonneg_left h3.1 h1'
  omega
 have k1:=key i j hi
 have k2:=key j i hj
 rw[z1t (by omega) (by omega),z1t (n:=d.getD j 0*ent m j i) (by omega) (by omega),z1t (by omega) (by omega),Int.zero_sub]
 rfl
def check1(hs:z2d m=true){d:List Int}(hdl:d.length=m.1.toNat)(hd:Part m.1.toNat (ent m) (λx=>d.getD x 0))(k10:List Int->Int->Int->Int->List Int->Option ρ)(kr:List Int->Bool->Option ρ){i:Nat}(hi:i<m.1.toNat):∀(M j:Nat),j<=m.1.toNat->m.1.toNat-j<M ->
  (Z51L N k10 kr M d (i:Int) (j:Int) m.1 m.2.1 m.2.2=kr [] false/\∃j',j'<m.1.toNat/\¬ edge m d i j') \/
  (Z51L N k10 kr M d (i:Int) (j:Int) m.1 m.2.1 m.2.2=k10 d (i:Int) m.1 m.2.1 m.2.2/\∀j',j<=j'->j'<m.1.toNat->edge m d i j'):=by
 have hdim:=z21 (z27 hs)
 obtain⟨n,r,hn,hr,hn1,hn5,hnr,hr8,hl⟩:=z19 hdim
 intro M
 induction M with
 | zero=>intro j _ hM;omega
 | succ M ih =>
  intro j hj hM
  simp only[Z51L,Z52]
  by_cases hlt:j<m.1.toNat
  ·rw[ct (dt (by omega)),ct (z0o (by omega)),ct (z0o (by omega)),ct (at_p hdim hi hlt),ct (at_p hdim hlt hi)]
   have hA:z0v.g (m.1,(m.2.1,m.2.2)) (i:Int) (j:Int)=ent m i j:=at_g (by omega) _ _
   have hB:z0v.g (m.1,(m.2.1,m.2.2)) (j:Int) (i:Int)=ent m j i:=at_g (by omega) _ _
   simp only[Int.toNat_natCast,hA,hB]
   by_cases he:edge m d i j
   ·rw[cf (nf ((edge_w (z27 hs) hd hi hlt).2 he)),z0z (by rw[z0q];omega)]
    rcases ih (j+1) hlt (by omega)with hc | hc
    ·exact Or.inl hc
    ·refine Or.inr ⟨hc.1,λj' h1 h2=>?_⟩
     by_cases e:j'=j
     ·subst e;exact he
     ·exact hc.2 j' (by omega) h2
   ·rw[ct (nt (λhc=>he ((edge_w (z27 hs) hd hi hlt).1 hc)))]
    exact Or.inl ⟨rfl,j,hlt,he⟩
  ·rw[cf (df (by omega))]
   exact Or.inr ⟨rfl,λj' h1 h2=>by omega⟩
def check2(hN:10<=N)(hs:z2d m=true){d:List Int}(hdl:d.length=m.1.toNat)(hd:Part m.1.toNat (ent m) (λx=>d.getD x 0))(k8:List Int->Option ρ)(kr:List Int->Bool->Option ρ):∀(M i:Nat),i<=m.1.toNat->m.1.toNat-i<M ->
  (Z43L N k8 kr M d (i:Int) m.1 m.2.1 m.2.2=kr [] false/\∃i' j',i'<m.1.toNat/\j'<m.1.toNat/\¬ edge m d i' j') \/
  (Z43L N k8 kr M d (i:Int) m.1 m.2.1 m.2.2=k8 d/\∀i',i<=i'->i'<m.1.toNat->∀j',j'<m.1.toNat->edge m d i' j'):=by
 have hdim:=z21 (z27 hs)
 obtain⟨n,r,hn,hr,hn1,hn5,hnr,hr8,hl⟩:=z19 hdim
 intro M
 induction M with
 | zero=>intro i _ hM;omega
 | succ M ih =>
  intro i hi hM
  simp only[Z43L,Z44,Z45]
  by_cases hlt:i<m.1.toNat
  ·rw[ct (dt (by omega))]
   simp only[Z46,Z47,Z48,Z49,Z50,Z51]
   have hc:=check1 (ρ:=ρ) (N:=N) hs hdl hd (λa b c d e=>Z53 N a b c d e (λa b c d e=>Z43L N k8 kr M a b c d e)) kr hlt N 0 (by omega) (by omega)
   rw[show((0:Nat):Int)=0 from rfl]at hc
   rcases hc with⟨hc,j',h1,h2⟩ | ⟨hc,h1⟩
   ·exact Or.inl ⟨hc,i,j',hlt,h1,h2⟩
   ·rw[hc]
    simp only[Z53]
    rw[z0z (by rw[z0q];omega)]
    rcases ih (i+1) hlt (by omega)with h2 | h2
    ·exact Or.inl h2
    ·refine Or.inr ⟨h2.1,λi' h3 h4=>?_⟩
     by_cases e:i'=i
     ·subst e;exact λj' hj'=>h1 j' (by omega) hj'
     ·exact h2.2 i' (by omega) h4
  ·rw[cf (df (by omega))]
   exact Or.inr ⟨rfl,λi' h1 h2=>by omega⟩
end
def ok:Spec:=λm hb hp=>⟨10,λN hN=>by
 have hs:z2d m=true:=hp
 have hdim:=z21 (z27 hs)
 obtain⟨n,r,hn,hr,hn1,hn5,hnr,hr8,hl⟩:=z19 hdim
 simp only[Z0,Z1,Z2,Z3]
 rw[ct (by rw[zrg (by omega),dt (by omega)];rfl)]
 simp only[Z4,Z5,Z6,Z7,Z8]
 have hz:∀x,(List.replicate m.1.toNat (0:Int)).getD x 0=0:=λx=>by
  rw[List.getD_eq_getElem?_getD,List.getElem?_replicate]
  split<;>rfl
 obtain⟨d,⟨h1,h2,h3⟩,h4⟩:=outer (ρ:=Unit×List Int×Bool×Unit) hN hs (λa b c d=>Z39 N a b c d (λt2 t3=>some ((),(t2,(t3,()))))) N 0 (List.replicate m.1.toNat 0) (by omega) (by omega) (by simp) (λj hj=>by
  show 0<=(List.replicate m.1.toNat (0:Int)).getD j 0/\(List.replicate m.1.toNat (0:Int)).getD j 0<=_/\(0<(List.replicate m.1.toNat (0:Int)).getD j 0->_)
  rw[hz]
  exact⟨by omega,by omega,λhc=>by omega⟩) (λx hx=>by omega)
 rw[show((0:Nat):Int)=0 from rfl]at h4
 rw[h4]
 simp only[Z39,Z40,Z41,Z42,Z43]
 have hc:=check2 (ρ:=Unit×List Int×Bool×Unit) hN hs h1 h2 (λd4=>Z54 N d4 (λt2 t3=>some ((),(t2,(t3,()))))) (λt2 t3=>some ((),(t2,(t3,())))) N 0 (by omega) (by omega)
 rw[show((0:Nat):Int)=0 from rfl]at hc
 rcases hc with⟨hc,i',j',h5,h6,h7⟩ | ⟨hc,h5⟩
 ·rw[hc,g,zqq hs h2 h3 h5 h6 h7]
  rfl
 ·have h6:=zn1 h1 h2 h3 (λi hi j hj=>h5 i (by omega) hi j hj)
  rw[hc,g,h6]
  simp only[Z54]
  rw[df (λe=>by rw[e]at h1;simp at h1;omega)]
  rfl⟩
def fac_ex{m:Int×Int×List Int}(hs:z2d m=true)(h:∃e,zac m.1.toNat (ent m) e):z5h m≠[]:=by
 have hdim:=z21 (z27 hs)
 obtain⟨n,r,hn,hr,hn1,hn5,hnr,hr8,hl⟩:=z19 hdim
 have hz:∀x,(List.replicate m.1.toNat (0:Int)).getD x 0=0:=λx=>by
  rw[List.getD_eq_getElem?_getD,List.getElem?_replicate]
  split<;>rfl
 obtain⟨d,⟨h1,h2,h3⟩,h4⟩:=outer (ρ:=Unit) (N:=10) (Nat.le_refl _) hs (λ_ _ _ _=>none) 10 0 (List.replicate m.1.toNat 0) (by omega) (by omega) (by simp) (λj hj=>by
  show 0<=(List.replicate m.1.toNat (0:Int)).getD j 0/\(List.replicate m.1.toNat (0:Int)).getD j 0<=_/\(0<(List.replicate m.1.toNat (0:Int)).getD j 0->_)
  rw[hz]
  exact⟨by omega,by omega,λhc=>by omega⟩) (λx hx=>by omega)
 obtain⟨e,he⟩:=h
 rw[zn1 h1 h2 h3 (λi hi j hj=>zqr hs h2 h3 he hi hj)]
 intro hc
 rw[hc]at h1
 simp at h1
 omega
end z02
end
end Go.Fw
namespace Go.Fw
def z95(m:Int×Int×List Int):(z1a m&&!decide (z5h m=[]))=(z2d m&&!decide (z5h m=[])):=by
 by_cases h:z5h m=[]
 ·rw[dt h];simp
 ·cases hs:z1a m
  ·simp[z2d,hs]
  ·rw[zry hs h]
def zj6{m:Int×Int×List Int}{k:Nat}(h:(z2d m&&!decide (z5h m=[]))=true)(hk:k<m.1.toNat):(z1a (z5m m k)&&!decide (z5h (z5m m k)=[]))=z2d (z5m m k):=by
 simp only[Bool.and_eq_true,Bool.not_eq_true',decide_eq_false_iff_not]at h
 cases hs:z2d (z5m m k)
 ·rw[z95,hs];rfl
 ·have hd:=z21 (z27 h.1)
  have:=z02.fac_ex hs ⟨_,zd9 hd hk (zdd h.2).2.1⟩
  rw[z95,hs,df this];rfl
end Go.Fw
namespace Go.Fw
end Go.Fw
namespace Go.Fw
structure z7t(m:Int×Int×List Int)(d:Nat->Int):Prop where
 shaped:z1a m=true
 good:zac m.1.toNat (ent m) d
def z7t.sizes{m:Int×Int×List Int}{d:Nat->Int}(h:z7t m d):z2d m=true:=by
 rw[z2d,h.shaped,Bool.true_and,List.all_eq_true]
 intro i hi
 rw[List.all_eq_true]
 intro j hj
 exact z8h h.good (List.mem_range.1 hi) (List.mem_range.1 hj)
def z7t.fac{m:Int×Int×List Int}{d:Nat->Int}(h:z7t m d):z5h m≠[]:=z02.fac_ex h.sizes ⟨d,h.good⟩
def z7t.ok{m:Int×Int×List Int}{d:Nat->Int}(h:z7t m d):(z2d m&&!decide (z5h m=[]))=true:=by
 rw[h.sizes,df h.fac];rfl
def z7t.dim{m:Int×Int×List Int}{d:Nat->Int}(h:z7t m d):z4v m=true:=z21 h.shaped
def zmw{m:Int×Int×List Int}(h:(z2d m&&!decide (z5h m=[]))=true):∃d,z7t m d:=by
 simp only[Bool.and_eq_true,Bool.not_eq_true',decide_eq_false_iff_not]at h
 exact⟨_,z27 h.1,(zdd h.2).2.1⟩
def z5y{m:Int×Int×List Int}:z1a m=true↔z4v m=true/\∀x∈m.2.2,-99<=x/\x<=99:=by
 simp only[z1a,entK,Bool.and_eq_true,List.all_eq_true,z3o]
def z7t.mut{m:Int×Int×List Int}{d:Nat->Int}(h:z7t m d){k:Nat}(hk:k<m.1.toNat)(hs:z2d (z5m m k)=true):z7t (z5m m k) d:=⟨z27 hs,zd9 h.dim hk h.good⟩
end Go.Fw
namespace Go.Fw
def z5i{m:Int×Int×List Int}(hd:z4v m=true)(names:List Int){p q:Nat}(hp:p<m.2.1.toNat)(hq:q<m.1.toNat) :
  ent (z6w m names) p q=ent m (zfe m.1.toNat (names.map Int.toNat) p) (zal (names.map Int.toNat) q):=by
 obtain⟨n,r,hn,hr,hn1,hn5,hnr,hr8,hl⟩:=z19 hd
 have e0:m.1.toNat=n:=by omega
 have hlt:=z9i (n:=n) (r:=r) (i:=p) (j:=q) (by omega) (by omega)
 unfold ent z6w
 show((List.range m.2.2.length).map λp=>m.2.2.getD (z7r m.1.toNat (names.map Int.toNat) p) 0).getD (p*m.1.toNat+q) 0=_
 rw[List.getD_eq_getElem?_getD,List.getElem?_map,List.getElem?_range (by rw[e0];omega)]
 show m.2.2.getD (z7r m.1.toNat (names.map Int.toNat) (p*m.1.toNat+q)) 0=_
 unfold z7r
 rw[ztn hq,zr7 hq]
def za7{m:Int×Int×List Int}(names:List Int)(h:z4v m=true):z4v (z6w m names)=true:=by
 simpa[z4v,z6w]using h
def z7t.ren{m:Int×Int×List Int}{d:Nat->Int}(h:z7t m d){names:List Int}(hn:z4e names m.1=true):z7t (z6w m names) λp=>d (zal (names.map Int.toNat) p):=by
 obtain⟨L,rfl,h1,h2,h3⟩:=z67 hn
 have hd:=h.dim
 obtain⟨n,r,en,hr,hn1,hn5,hnr,hr8,hl⟩:=z19 hd
 refine⟨z5y.2 ⟨za7 _ hd,λx hx=>?_⟩,λu hu=>?_⟩
 ·have h0:=(z5y.1 h.shaped).2
  obtain⟨p,_,rfl⟩:=List.mem_map.1 hx
  rw[List.getD_eq_getElem?_getD]
  cases hq:m.2.2[z7r m.1.toNat ((z32 L).map Int.toNat) p]? with
  | none=>exact⟨by decide,by decide⟩
  | some y=>exact h0 y (List.mem_of_getElem? hq)
 ·have hu:u<m.1.toNat:=hu
  rw[z3m]
  have pu:=(z36 (z30 h1 h2 h3 hu)).1
  refine⟨(h.good _ (by omega)).1,λv hv=>?_⟩
  have hv:v<m.1.toNat:=hv
  have pv:=(z36 (z30 h1 h2 h3 hv)).1
  rw[z5i hd _ (by omega) hv,z5i hd _ (by omega) hu,z3m]
  unfold zfe
  rw[if_pos hu,if_pos hv]
  exact(h.good _ (by omega)).2 _ (by omega)
end Go.Fw
namespace Go.Fw
end Go.Fw
namespace Go.Fw
section
variable {m : Int × Int × List Int} {L : List Nat} (hd : z4v m = true) (h1 : L.Nodup) (h2 : ∀ x ∈ L, x < m.1.toNat) (h3 : L.length = m.1.toNat)
include hd h1 h2 h3
end
end Go.Fw
namespace Go.Fw
abbrev z3:Int×Int×List Int:=(0,(0,[]))
def zbg(x:Int×Int×List Int)(k:Nat):Int×Int×List Int:=zb4 (z5m x k)
def znf(S:List (Int×Int×List Int))(d:List Int):Bool:=S.any λy=>decide (y.2.2=d)
def zua(S:List (Int×Int×List Int))(y:Int×Int×List Int):List (Int×Int×List Int):=if znf S y.2.2=true then S else S++[y]
def z85(x:Int×Int×List Int)(k:Nat)(S:List (Int×Int×List Int)):Option (List (Int×Int×List Int)) :=
 if z2d (z5m x k)=true then(if(zua S (zbg x k)).length<=100 then some (zua S (zbg x k))else none)else none
def zio(x:Int×Int×List Int):Nat->Nat->List (Int×Int×List Int)->Option (List (Int×Int×List Int))
 | _,0,S=>some S
 | k,r+1,S=>(z85 x k S).bind (zio x (k+1) r)
def zmu(n:Nat):Nat->Nat->List (Int×Int×List Int)->Option (List (Int×Int×List Int))
 | 0,_,_=>none
 | F+1,a,S=>if a<S.length then(zio (S.getD a z3) 0 n S).bind (zmu n F (a+1))else some S
def ztt(m:Int×Int×List Int):Option (List (Int×Int×List Int)):=zmu m.1.toNat 102 0 [zb4 m]
def Fit(n:Int)(x:Int×Int×List Int):Prop:=(∃d,z7t x d)/\x.1=n/\x.2.1=n
def zku(n:Int)(S:List (Int×Int×List Int)):Prop:=∀x∈S,Fit n x
def hasD_iff{S:List (Int×Int×List Int)}{d:List Int}:znf S d=true↔∃y∈S,y.2.2=d:=by simp[znf]
def canS_ren{m:Int×Int×List Int}(hd:z4v m=true)(hsq:m.2.1=m.1):∃o,z4e o m.1=true/\zb4 m=z6w m o:=by
 obtain⟨n,r,hn,hr',hn1,hn5,hnr,hr8,hl⟩:=z19 hd
 have e1:m.1.toNat=n:=by omega
 have hx:∀o,z6w m o=(m.1,m.2.1,z6p m o):=λo=>rfl
 rcases zas (z6p m) (zbf n n []) m.2.2 with h | ⟨o,ho,h⟩
 ·refine⟨(List.range n).map Int.ofNat, ?_, ?_⟩
  ·rw[hn];exact z6y hn5 (zn5 hn5)
  ·have:=zmx hd hsq
   rw[e1]at this
   rw[this]
   unfold zb4
   rw[e1,h]
 ·refine⟨o, ?_, ?_⟩
  ·rw[hn];exact z6y hn5 ((zan hn5 o).2 ho)
  ·rw[hx]
   unfold zb4
   rw[e1,h]
def Fit.can{n:Int}{x:Int×Int×List Int}(h:Fit n x):Fit n (zb4 x):=by
 obtain⟨⟨d,hR⟩,h1,h2⟩:=h
 obtain⟨o,ho,e⟩:=canS_ren hR.dim (h2.trans h1.symm)
 exact⟨⟨_,by rw[e];exact hR.ren ho⟩,h1,h2⟩
def Fit.mut{n:Int}{x:Int×Int×List Int}(h:Fit n x){k:Nat}(hk:k<n.toNat)(hs:z2d (z5m x k)=true):Fit n (z5m x k):=by
 obtain⟨⟨d,hR⟩,h1,h2⟩:=h
 exact⟨⟨d,hR.mut (by rw[h1];exact hk) hs⟩,h1,h2⟩
def Fit.nxt{n:Int}{x:Int×Int×List Int}(h:Fit n x){k:Nat}(hk:k<n.toNat)(hs:z2d (z5m x k)=true):Fit n (zbg x k):=(h.mut hk hs).can
def Fit.dim{n:Int}{x:Int×Int×List Int}(h:Fit n x):z4v x=true:=by
 obtain⟨⟨d,hR⟩,_⟩:=h
 exact hR.dim
def Fit.shaped{n:Int}{x:Int×Int×List Int}(h:Fit n x):z1a x=true:=by
 obtain⟨⟨d,hR⟩,_⟩:=h
 exact hR.shaped
def Fit.bound{n:Int}{x:Int×Int×List Int}(h:Fit n x):1<=n/\n<=5/\(x.2.2.length:Int)=n*n:=by
 obtain⟨m,r,hn,hr',hn1,hn5,hnr,hr8,hl⟩:=z19 h.dim
 obtain⟨_,h1,h2⟩:=h
 have:r=m:=by omega
 subst this
 exact⟨by omega,by omega,by rw[hl,<-h1,hn];exact Int.natCast_mul r r⟩
def addD_fit{n:Int}{S:List (Int×Int×List Int)}{y:Int×Int×List Int}(h:zku n S)(hy:Fit n y):zku n (zua S y):=by
 intro x hx
 unfold zua at hx
 split at hx
 ·exact h x hx
 ·rcases List.mem_append.1 hx with hx | hx
  ·exact h x hx
  ·rw[List.mem_singleton.1 hx];exact hy
def zeo{S:List (Int×Int×List Int)}{y d:Int×Int×List Int}{a:Nat}(h:a<S.length):(zua S y).getD a d=S.getD a d:=by
 unfold zua
 split
 ·rfl
 ·rw[List.getD_eq_getElem?_getD,List.getElem?_append_left h,List.getD_eq_getElem?_getD]
def addD_len{S:List (Int×Int×List Int)}{y:Int×Int×List Int}:S.length<=(zua S y).length:=by
 unfold zua
 split
 ·exact Nat.le_refl _
 ·simp
def zh3{n:Int}{S:List (Int×Int×List Int)}(h:zku n S){a:Nat}(ha:a<S.length):Fit n (S.getD a z3):=h _ (z1d _ ha)
def zdj{n:Int}{x:Int×Int×List Int}{k:Nat}{S S':List (Int×Int×List Int)}(hS:zku n S)(hx:Fit n x)(hk:k<n.toNat)(h:z85 x k S=some S') :
  S'=zua S (zbg x k)/\zku n S'/\S.length<=S'.length/\S'.length<=100:=by
 unfold z85 at h
 split at h
 ·rename_i hs
  split at h
  ·rename_i hl
   injection h with h
   subst h
   exact⟨rfl,addD_fit hS (hx.nxt hk hs),addD_len,hl⟩
  ·cases h
 ·cases h
def zd7{n:Int}{x:Int×Int×List Int}(hx:Fit n x):∀(r k:Nat) {S S':List (Int×Int×List Int)},k+r=n.toNat->zku n S->S.length<=100->zio x k r S=some S' ->
  zku n S'/\S.length<=S'.length/\S'.length<=100/\∀a d,a<S.length->S'.getD a d=S.getD a d
 | 0,k,S,S',_,hS,hl,h=>by
  injection h with h
  subst h
  exact⟨hS,Nat.le_refl _,hl,λ_ _ _=>rfl⟩
 | r+1,k,S,S',hk,hS,hl,h=>by
  obtain⟨S1,h1,h2⟩:=Option.bind_eq_some_iff.1 (show(z85 x k S).bind (zio x (k+1) r)=some S' from h)
  obtain⟨e,f1,f2,f3⟩:=zdj hS hx (by omega) h1
  obtain⟨g1,g2,g3,g4⟩:=zd7 hx r (k+1) (by omega) f1 f3 h2
  refine⟨g1,Nat.le_trans f2 g2,g3,λa d ha=>?_⟩
  rw[g4 a d (by omega),e,zeo ha]
end Go.Fw
namespace Go.Fw
def leD(a b:List Int):Bool:=!z3d b a
def z4d(l:List (List Int)):Prop:=l.Pairwise λa b=>leD a b=true
def zaw(a b c:List Int)(h1:leD a b=true)(h2:leD b c=true):leD a c=true:=by
 simp only[leD,Bool.not_eq_true']at *
 cases h:z3d c a
 ·rfl
 cases h3:z3d a b
 ·have:=z6z h3 h1
  subst this
  rw[h2]at h;cases h
 ·rw[z5e h h3]at h2;cases h2
def zjd(a b:List Int):(leD a b||leD b a)=true:=by
 simp only[leD]
 cases h:z3d b a
 ·rfl
 cases h2:z3d a b
 ·rfl
 ·have:=z5e h h2
  rw[z6h]at this;cases this
def leD_anti{a b:List Int}(h1:leD a b=true)(h2:leD b a=true):a=b:=by
 simp only[leD,Bool.not_eq_true']at h1 h2
 exact z6z h2 h1
def zdl:∀{l l':List (List Int)},l.Perm l'->z4d l->z4d l'->l=l'
 | [],l',h,_,_=>(List.Perm.nil_eq h)
 | a::l,[],h,_,_=>by simpa using h.length_eq
 | a::l,b::l',h,h1,h2=>by
  have e:a=b:=by
   rcases List.mem_cons.1 (h.mem_iff.1 List.mem_cons_self)with e | ha
   ·exact e
   rcases List.mem_cons.1 (h.mem_iff.2 List.mem_cons_self)with e | hb
   ·exact e.symm
   exact leD_anti ((List.pairwise_cons.1 h1).1 b hb) ((List.pairwise_cons.1 h2).1 a ha)
  subst e
  rw[zdl (List.Perm.cons_inv h) (List.pairwise_cons.1 h1).2 (List.pairwise_cons.1 h2).2]
def zgf(l:List (List Int)):List (List Int):=l.mergeSort leD
def z90(l:List (List Int)):(zgf l).Perm l:=List.mergeSort_perm l leD
def zij(l:List (List Int)):z4d (zgf l):=List.pairwise_mergeSort zaw zjd l
def zmq{l l':List (List Int)}(h:l'.Perm l)(hs:z4d l'):l'=zgf l:=zdl (h.trans (z90 l).symm) hs (zij l)
def zcx(s:Nat):Nat->List (List Int)->List (List Int)
 | 0,l=>l
 | F+1,l=>if l=[]then[]else(l.take s).merge ((l.drop s).take s) leD++zcx s F (l.drop (2*s))
def BlkD(s:Nat)(l:List (List Int)):Prop:=∀k,z4d ((l.drop (s*k)).take s)
def zj7(a b:List (List Int)):(a.merge b leD).length=a.length+b.length:=by
 simp
def zdv{s:Nat}(hs:0<s):∀(F:Nat) (l:List (List Int)),l.length<=F->BlkD s l->(zcx s F l).Perm l/\BlkD (2*s) (zcx s F l)
 | 0,l,h,hb=>by
  have:l=[]:=List.eq_nil_of_length_eq_zero (by omega)
  subst this
  exact⟨List.Perm.refl _,λk=>by simp[zcx,z4d]⟩
 | F+1,l,h,hb=>by
  unfold zcx
  by_cases hl:l=[]
  ·subst hl
   rw[if_pos rfl]
   exact⟨List.Perm.refl _,λk=>by simp[z4d]⟩
  rw[if_neg hl]
  have hpos:0<l.length:=List.length_pos_iff.2 hl
  have hb2:BlkD s (l.drop (2*s)):=λk=>by
   have:=hb (k+2)
   rw[List.drop_drop,show 2*s+s*k=s*(k+2) by rw[Nat.mul_add,Nat.mul_comm s 2];omega]
   exact this
  obtain⟨p1,p2⟩:=zdv hs F (l.drop (2*s)) (by simp;omega) hb2
  have e1:z4d (l.take s):=by simpa using hb 0
  have e2:z4d ((l.drop s).take s):=by simpa using hb 1
  have hm:z4d ((l.take s).merge ((l.drop s).take s) leD):=List.pairwise_merge zaw zjd _ _ e1 e2
  have hml:((l.take s).merge ((l.drop s).take s) leD).length=min (2*s) l.length:=by
   rw[zj7];simp;omega
  refine⟨?_,λk=>?_⟩
  ·have q1:=(List.merge_perm_append (xs:=l.take s) (ys:=(l.drop s).take s) (le:=leD)).append p1
   refine q1.trans ?_
   have:l.take s++(l.drop s).take s++l.drop (2*s)=l:=by
    rw[List.append_assoc,show l.drop (2*s)=(l.drop s).drop s by rw[List.drop_drop];congr 1;omega,List.take_append_drop,List.take_append_drop]
   rw[this]
  ·cases k with
   | zero =>
    rw[Nat.mul_zero,List.drop_zero]
    by_cases h2:2*s<=l.length
    ·rw[List.take_append_of_le_length (by omega),List.take_of_length_le (by omega)]
     exact hm
    ·have:l.drop (2*s)=[]:=List.drop_of_length_le (by omega)
     have e3:zcx s F (l.drop (2*s))=[]:=by
      rw[this]at p1 ⊢
      exact List.Perm.eq_nil p1
     rw[e3,List.append_nil]
     exact hm.sublist (List.take_sublist _ _)
   | succ k =>
    by_cases h2:2*s<=l.length
    ·have:=p2 k
     rw[show 2*s*(k+1)=2*s+2*s*k by rw[Nat.mul_add];omega,<-List.drop_drop,List.drop_append_of_le_length (by omega),List.drop_of_length_le (by omega:_<=2*s),List.nil_append]
     exact this
    ·have:l.drop (2*s)=[]:=List.drop_of_length_le (by omega)
     have e3:zcx s F (l.drop (2*s))=[]:=by
      rw[this]at p1 ⊢
      exact List.Perm.eq_nil p1
     rw[e3,List.append_nil,List.drop_of_length_le (by rw[hml];have:2*s<=2*s*(k+1):=Nat.le_mul_of_pos_right _ (Nat.succ_pos k);omega)]
     simp[z4d]
def blk_one(l:List (List Int)):BlkD 1 l:=λk=>by
 unfold z4d
 rcases h:l.drop (1*k)with _ | ⟨a,r⟩
 ·simp
 ·simp
def blk_all{s:Nat}{l:List (List Int)}(h:BlkD s l)(hs:l.length<=s):z4d l:=by
 have:=h 0
 rwa [Nat.mul_zero,List.drop_zero,List.take_of_length_le hs]at this
end Go.Fw
namespace Go.Fw
def okC3(m:Int×Int×List Int):Bool:=(z2d m&&!decide (z5h m=[]))&&decide (m.2.1=m.1)
def mcL(n:Int)(S:List (Int×Int×List Int)):List (Int×Int×List Int):=(zgf (S.map (·.2.2))).map λd=>(n,(n,d))
def mcK(m:Int×Int×List Int):List (Int×Int×List Int)×Bool :=
 if okC3 m=true then(match ztt m with
  | some S=>(mcL m.1 S,true)
  | none=>([],false))else([],false)
def zn6{m:Int×Int×List Int}(hp:okC3 m=true):Fit m.1 m:=by
 simp only[okC3,Bool.and_eq_true,decide_eq_true_eq]at hp
 obtain⟨d,hR⟩:=zmw (m:=m) (by simpa using hp.1)
 exact⟨⟨d,hR⟩,rfl,hp.2⟩
def zmt{n:Int}:∀(F a:Nat) {S S':List (Int×Int×List Int)},zku n S->S.length<=100->zmu n.toNat F a S=some S'->zku n S'/\S.length<=S'.length/\S'.length<=100
 | 0,a,S,S',_,_,h=>by cases h
 | F+1,a,S,S',hS,hl,h=>by
  have e1:zmu n.toNat (F+1) a S=if a<S.length then(zio (S.getD a z3) 0 n.toNat S).bind (zmu n.toNat F (a+1))else some S:=rfl
  rw[e1]at h
  split at h
  ·rename_i ha
   obtain⟨S1,h1,h2⟩:=Option.bind_eq_some_iff.1 h
   obtain⟨f1,f2,f3,f4⟩:=zd7 (zh3 hS ha) n.toNat 0 (by omega) hS hl h1
   obtain⟨g1,g2,g3⟩:=zmt F _ f1 f3 h2
   exact⟨g1,Nat.le_trans f2 g2,g3⟩
  ·injection h with h
   subst h
   exact⟨hS,Nat.le_refl _,hl⟩
def zm3{m:Int×Int×List Int}(hp:okC3 m=true){S:List (Int×Int×List Int)}(h:ztt m=some S):zku m.1 S/\1<=S.length/\S.length<=100 :=
 zmt _ _ (λx hx=>by rw[List.mem_singleton.1 hx];exact(zn6 hp).can) (by simp) h
def Fit.len{n:Int}{x:Int×Int×List Int}(h:Fit n x):1<=x.2.2.length/\x.2.2.length<=25:=by
 obtain⟨b1,b2,b3⟩:=h.bound
 have h1:n*n<=5*5:=Int.mul_le_mul b2 b2 (by omega) (by omega)
 have h2:1*1<=n*n:=Int.mul_le_mul b1 b1 (by omega) (by omega)
 omega
def Fit.ents{n:Int}{x:Int×Int×List Int}(h:Fit n x):∀u∈x.2.2,-99<=u/\u<=99:=by
 obtain⟨⟨d,hR⟩,_⟩:=h
 exact(z5y.1 hR.shaped).2
def mcL_eq{n:Int}{S S':List (Int×Int×List Int)}(hS:zku n S)(hp:S'.Perm S)(hs:z4d (S'.map (·.2.2))):S'=mcL n S:=by
 unfold mcL
 rw[<-zmq (hp.map _) hs,List.map_map]
 refine((List.map_congr_left λx hx=>?_).trans (List.map_id _)).symm
 obtain⟨_,h1,h2⟩:=hS x (hp.mem_iff.1 hx)
 obtain⟨a,b,c⟩:=x
 simp only at h1 h2
 subst h1 h2
 rfl
end Go.Fw
namespace Go.Fw
def zl2(A:Nat->Nat->Int)(L:List Nat)(num den:List Int)(x k:Nat):Prop:=(A x k=0/\A k x=0)\/(k∈L/\num.getD x 0*A x k*den.getD k 0=-(num.getD k 0*A k x*den.getD x 0))
structure zi5(n:Nat)(A:Nat->Nat->Int)(s:Nat)(num0:List Int)(L:List Nat)(num den:List Int):Prop where
 nl:num.length=n
 dl:den.length=n
 nd:L.Nodup
 lt:∀x∈L,x<n
 hd:L.getD 0 0=s
 pos:0<L.length
 out:∀x,x<n->x∉L->num.getD x 0=num0.getD x 0
 new:∀x∈L,num0.getD x 0=0
 frac:∃Q:Int,0<Q/\Q<=99 ^ (L.length-1)/\∀x∈L,0<num.getD x 0/\num.getD x 0<=99 ^ (L.length-1)/\0<den.getD x 0/\den.getD x 0∣Q/\Int.gcd (num.getD x 0) (den.getD x 0)=1
 good:∀e,zac n A e->∀x∈L,num.getD x 0*e s=den.getD x 0*e x
def zi5.le{n:Nat}{A:Nat->Nat->Int}{s:Nat}{num0 num den:List Int}{L:List Nat}(h:zi5 n A s num0 L num den):L.length<=n:=zap n L h.nd h.lt
def zoe(n:Nat)(A:Nat->Nat->Int)(num0:List Int):Prop:=∀y,y<n->num0.getD y 0≠0->∀k,k<n->(A y k≠0\/A k y≠0)->num0.getD k 0≠0
def frac_eq{a b c d:Int}(ha:0<a)(hb:0<b)(hc:0<c)(hd:0<d)(h1:Int.gcd a b=1)(h2:Int.gcd c d=1)(h:a*d=c*b):a=c/\b=d:=by
 obtain⟨a,rfl⟩:=Int.eq_ofNat_of_zero_le (Int.le_of_lt ha)
 obtain⟨b,rfl⟩:=Int.eq_ofNat_of_zero_le (Int.le_of_lt hb)
 obtain⟨c,rfl⟩:=Int.eq_ofNat_of_zero_le (Int.le_of_lt hc)
 obtain⟨d,rfl⟩:=Int.eq_ofNat_of_zero_le (Int.le_of_lt hd)
 have h3:a*d=c*b:=by exact_mod_cast h
 have e1:a∣c:=Nat.Coprime.dvd_of_dvd_mul_right (k:=a) (n:=b) h1 ⟨d,h3.symm⟩
 have e2:c∣a:=Nat.Coprime.dvd_of_dvd_mul_right (k:=c) (n:=d) h2 ⟨b,h3⟩
 have e3:=Nat.dvd_antisymm e1 e2
 subst e3
 exact⟨rfl,by rw[Nat.eq_of_mul_eq_mul_left (by omega) h3]⟩
section
variable {n : Nat} {A : Nat → Nat → Int} {s p j : Nat} {num0 num den : List Int} {L : List Nat}
structure StepN(A:Nat->Nat->Int)(x j:Nat)(num den:List Int)(a0 b0 g a b:Int):Prop where
 ea0:a0=num.getD x 0*z5v (A x j)
 eb0:b0=den.getD x 0*z5v (A j x)
 eg:g=(Int.gcd a0 b0:Int)
 gp:0<g
 a0p:0<a0
 b0p:0<b0
 ea:a*g=a0
 eb:b*g=b0
 ap:0<a
 bp:0<b
 co:Int.gcd a b=1
def stepN(x j:Nat)(hx:0<num.getD x 0)(hd:0<den.getD x 0)(h1:A x j≠0)(h2:A j x≠0) :
  StepN A x j num den (num.getD x 0*z5v (A x j)) (den.getD x 0*z5v (A j x)) (Int.gcd (num.getD x 0*z5v (A x j)) (den.getD x 0*z5v (A j x)))
   (Int.tdiv (num.getD x 0*z5v (A x j)) (Int.gcd (num.getD x 0*z5v (A x j)) (den.getD x 0*z5v (A j x)))) (Int.tdiv (den.getD x 0*z5v (A j x)) (Int.gcd (num.getD x 0*z5v (A x j)) (den.getD x 0*z5v (A j x)))):=by
 have a0p:0<num.getD x 0*z5v (A x j):=Int.mul_pos hx (z99 h1)
 have b0p:0<den.getD x 0*z5v (A j x):=Int.mul_pos hd (z99 h2)
 generalize ha0:num.getD x 0*z5v (A x j)=a0 at a0p ⊢
 generalize hb0:den.getD x 0*z5v (A j x)=b0 at b0p ⊢
 have gp:0<(Int.gcd a0 b0:Int):=by
  have:=Int.gcd_pos_of_ne_zero_left b0 (show a0≠0 by omega)
  omega
 have ea:Int.tdiv a0 (Int.gcd a0 b0)*(Int.gcd a0 b0:Int)=a0:=Int.tdiv_mul_cancel (Int.gcd_dvd_left ..)
 have eb:Int.tdiv b0 (Int.gcd a0 b0)*(Int.gcd a0 b0:Int)=b0:=Int.tdiv_mul_cancel (Int.gcd_dvd_right ..)
 have pos:∀c d:Int,0<d->0<c*d->0<c:=λc d hd h=>by
  rcases Int.lt_or_le 0 c with h' | h'
  ·exact h'
  ·have:=Int.mul_nonpos_of_nonpos_of_nonneg h' (Int.le_of_lt hd);omega
 refine⟨ha0.symm,hb0.symm,rfl,gp,a0p,b0p,ea,eb,pos _ _ gp (by rw[ea];exact a0p),pos _ _ gp (by rw[eb];exact b0p), ?_⟩
 have h3:Int.gcd (Int.tdiv a0 (Int.gcd a0 b0)*(Int.gcd a0 b0:Int)) (Int.tdiv b0 (Int.gcd a0 b0)*(Int.gcd a0 b0:Int))=Int.gcd a0 b0:=by rw[ea,eb]
 rw[Int.gcd_mul_right,Int.natAbs_natCast]at h3
 have gp':0<Int.gcd a0 b0:=by omega
 exact Nat.eq_of_mul_eq_mul_right gp' (by rw[h3,Nat.one_mul])
def Skew(A:Nat->Nat->Int)(x j:Nat):Prop:=∃u:Int,(u=1\/u=-1)/\A x j=u*z5v (A x j)/\A j x=-(u*z5v (A j x))
def skew_of{x j:Nat}(h1:A x j≠0)(h2:A j x≠0)(h:(0<A x j)↔(0 < -A j x)):Skew A x j:=by
 unfold Skew z5v
 by_cases hp:0<A x j
 ·have:=h.1 hp
  exact⟨1,Or.inl rfl,by omega,by omega⟩
 ·have:¬ 0 < -A j x:=λhc=>hp (h.2 hc)
  exact⟨-1,Or.inr rfl,by omega,by omega⟩
def zid{x:Nat}{a0 b0 g a b:Int}(st:StepN A x j num den a0 b0 g a b)(hx:x<n)(hj:j<n){e:Nat->Int}(he:zac n A e)(hg:num.getD x 0*e s=den.getD x 0*e x):a*e s=b*e j:=by
 have h1:=zo8 (he x hx).1 (he j hj).1 ((he x hx).2 j hj)
 have h2:=st.ea0
 have h3:=st.eb0
 have h4:=st.ea
 have h5:=st.eb
 have h6:g*(a*e s)=g*(b*e j):=by grind
 exact Int.eq_of_mul_eq_mul_left (by have:=st.gp;omega) h6
def zie{x:Nat}{a0 b0 g a b:Int}(st:StepN A x j num den a0 b0 g a b)(sk:Skew A x j):num.getD x 0*A x j*b=-(a*A j x*den.getD x 0):=by
 obtain⟨u,hu,h1,h2⟩:=sk
 have h3:=st.ea0
 have h4:=st.eb0
 have h5:=st.ea
 have h6:=st.eb
 rw[h1,h2]
 grind
def zi5.grow{a0 b0 g a b:Int}(h:zi5 n A s num0 L num den)(hp:p<L.length)(hj:j<n)(hz:num.getD j 0=0)(st:StepN A (L.getD p 0) j num den a0 b0 g a b)(hb:∀x y,z5v (A x y)<=99) :
  zi5 n A s num0 (L++[j]) (num.set j a) (den.set j b)/\j∉L:=by
 obtain⟨Q,q1,q2,q3⟩:=h.frac
 have hxm:L.getD p 0∈L:=z1d 0 hp
 have hnj:j∉L:=λhc=>by have:=(q3 j hc).1;omega
 have hxj:∀x∈L,j≠x:=λx hx e=>hnj (e▸hx)
 have hnl:j<num.length:=by rw[h.nl];exact hj
 have hdl:j<den.length:=by rw[h.dl];exact hj
 have e1:∀x∈L,(num.set j a).getD x 0=num.getD x 0:=λx hx=>by rw[z1x hnl,if_neg (hxj x hx)]
 have e2:∀x∈L,(den.set j b).getD x 0=den.getD x 0:=λx hx=>by rw[z1x hdl,if_neg (hxj x hx)]
 have e3:(num.set j a).getD j 0=a:=by rw[z1x hnl,if_pos rfl]
 have e4:(den.set j b).getD j 0=b:=by rw[z1x hdl,if_pos rfl]
 have hlen:(L++[j]).length-1=L.length-1+1:=by have:=h.pos;simp;omega
 have hpp:(0:Int)<=99 ^ (L.length-1):=Int.pow_nonneg (by omega)
 refine⟨⟨by rw[List.length_set,h.nl],by rw[List.length_set,h.dl], ?_, ?_,(z2n h.pos).trans h.hd,by simp, ?_, ?_, ?_, ?_⟩,hnj⟩
 ·exact List.nodup_append.2 ⟨h.nd,by simp,λa ha' b hb e=>by
   rw[List.mem_singleton]at hb;subst hb;subst e;exact hnj ha'⟩
 ·intro x hx
  rcases List.mem_append.1 hx with hx | hx
  ·exact h.lt x hx
  ·rw[List.mem_singleton]at hx;omega
 ·intro x hx hni
  rw[List.mem_append,List.mem_singleton]at hni
  rw[z1x hnl,if_neg (λe=>hni (Or.inr e.symm))]
  exact h.out x hx (λhc=>hni (Or.inl hc))
 ·intro x hx
  rcases List.mem_append.1 hx with hx | hx
  ·exact h.new x hx
  ·rw[List.mem_singleton]at hx
   subst hx
   rw[<-h.out x hj hnj]
   exact hz
 ·obtain⟨c1,c2,c3,c4,c5⟩:=q3 _ hxm
  have ga:a<=a0:=by
   have:=Int.mul_le_mul_of_nonneg_left (show(1:Int)<=g by have:=st.gp;omega) (Int.le_of_lt st.ap)
   have:=st.ea
   omega
  have hq1:0<z5v (A j (L.getD p 0)):=by
   have h1:=st.b0p
   rw[st.eb0]at h1
   rcases Int.lt_or_le 0 (z5v (A j (L.getD p 0)))with h' | h'
   ·exact h'
   ·have:=Int.mul_nonpos_of_nonneg_of_nonpos (Int.le_of_lt c3) h';omega
  have hp1:0<=z5v (A (L.getD p 0) j):=by unfold z5v;omega
  refine⟨Q*z5v (A j (L.getD p 0)),Int.mul_pos q1 hq1, ?_, ?_⟩
  ·rw[hlen,Int.pow_succ]
   exact Int.mul_le_mul q2 (hb _ _) (by omega) hpp
  ·intro x hx
   rcases List.mem_append.1 hx with hx | hx
   ·rw[e1 x hx,e2 x hx]
    obtain⟨d1,d2,d3,d4,d5⟩:=q3 x hx
    refine⟨d1, ?_,d3,Int.dvd_trans d4 ⟨_,rfl⟩,d5⟩
    rw[hlen,Int.pow_succ]
    have:=Int.mul_le_mul_of_nonneg_left (show(1:Int)<=99 by omega) hpp
    omega
   ·rw[List.mem_singleton]at hx
    subst hx
    rw[e3,e4]
    refine⟨st.ap, ?_,st.bp, ?_,st.co⟩
    ·rw[hlen,Int.pow_succ]
     have:a0<=99 ^ (L.length-1)*99:=by
      rw[st.ea0]
      exact Int.mul_le_mul c2 (hb _ _) hp1 hpp
     omega
    ·have h1:b∣b0:=⟨g,st.eb.symm⟩
     have h2:b0∣Q*z5v (A x (L.getD p 0)):=by
      rw[st.eb0]
      exact Int.mul_dvd_mul c4 (Int.dvd_refl _)
     exact Int.dvd_trans h1 h2
 ·intro e he x hx
  rcases List.mem_append.1 hx with hx | hx
  ·rw[e1 x hx,e2 x hx]
   exact h.good e he x hx
  ·rw[List.mem_singleton]at hx
   subst hx
   rw[e3,e4]
   exact zid st (h.lt _ hxm) hj he (h.good e he _ hxm)
def zl2.grow{x k:Nat}{a b:Int}(hL:∀x∈L,j≠x)(hnl:j<num.length)(hdl:j<den.length)(hx:x∈L)(h:zl2 A L num den x k):zl2 A (L++[j]) (num.set j a) (den.set j b) x k:=by
 rcases h with h | ⟨h1,h2⟩
 ·exact Or.inl h
 ·refine Or.inr ⟨List.mem_append_left _ h1, ?_⟩
  rw[z1x hnl,if_neg (hL x hx),z1x hdl,if_neg (hL k h1),z1x hnl,if_neg (hL k h1),z1x hdl,if_neg (hL x hx)]
  exact h2
end
end Go.Fw
namespace Go.Fw
structure OInv(n:Nat)(A:Nat->Nat->Int)(num out:List Int):Prop where
 nl:num.length=n
 ol:out.length=n
 closed:zoe n A num
 done:∀j,j<n->num.getD j 0≠0->0<out.getD j 0/\(∀k,k<n->out.getD j 0*A j k=-(out.getD k 0*A k j)) /\
  ∃L:List Nat,(∀k∈L,k<n/\num.getD k 0≠0)/\z7u (L.map λk=>out.getD k 0)=1/\∀e,zac n A e->∀k∈L,out.getD j 0*e k=out.getD k 0*e j
section
variable {n : Nat} {A : Nat → Nat → Int} {s : Nat} {num0 num den out0 out2 out3 : List Int} {L : List Nat} {com g : Int}
def OInv.piece(h:OInv n A num0 out0)(f:zi5 n A s num0 L num den)(he:∀x∈L,∀k,k<n->zl2 A L num den x k)(hc:0<com)(hg:0<g)
  (h2:∀x∈L,out2.getD x 0*den.getD x 0=com*num.getD x 0) (hgl:g=((z7u (L.map λx=>out2.getD x 0):Nat):Int))
  (h3:∀x∈L,out3.getD x 0*g=out2.getD x 0) (ho:∀x,x<n->x∉L->out3.getD x 0=out0.getD x 0) (hl:out3.length=n) :
  OInv n A num out3/\num.getD s 0≠0/\∀x,x<n->num0.getD x 0≠0->num.getD x 0≠0:=by
 obtain⟨Q,q1,q2,q3⟩:=f.frac
 have hpos:∀x∈L,0<num.getD x 0/\0<den.getD x 0:=λx hx=>⟨(q3 x hx).1,(q3 x hx).2.2.1⟩
 have hk:∀x∈L,out3.getD x 0*g*den.getD x 0=com*num.getD x 0:=λx hx=>by rw[h3 x hx];exact h2 x hx
 have hop:∀x∈L,0<out3.getD x 0:=λx hx=>by
  have h4:=Int.mul_pos hc (hpos x hx).1
  rw[<-hk x hx]at h4
  rcases Int.lt_or_le 0 (out3.getD x 0)with h' | h'
  ·exact h'
  ·have h5:=Int.mul_nonpos_of_nonpos_of_nonneg h' (Int.le_of_lt hg)
   have h6:=Int.mul_nonpos_of_nonpos_of_nonneg h5 (Int.le_of_lt (hpos x hx).2)
   omega
 have hns:num.getD s 0≠0:=by
  have:=(hpos s (by rw[<-f.hd];exact z1d 0 f.pos)).1
  omega
 have old:∀x,x<n->num0.getD x 0≠0->x∉L:=λx hx h0 hc=>h0 (f.new x hc)
 refine⟨⟨f.nl,hl, ?_, ?_⟩,hns,λx hx h0=>by rw[f.out x hx (old x hx h0)];exact h0⟩
 ·intro y hy h1 k hk' ha
  by_cases hm:y∈L
  ·rcases he y hm k hk' with hz | hz
   ·omega
   ·have:=(hpos k hz.1).1;omega
  ·rw[f.out y hy hm]at h1
   have h4:=h.closed y hy h1 k hk' ha
   rw[f.out k hk' (old k hk' h4)]
   exact h4
 ·intro j hj h1
  by_cases hm:j∈L
  ·refine⟨hop j hm, ?_,L,λk hk'=>⟨f.lt k hk',by have:=(hpos k hk').1;omega⟩, ?_, ?_⟩
   ·intro k hk'
    rcases he j hm k hk' with⟨z1,z2⟩ | ⟨z1,z2⟩
    ·rw[z1,z2];simp
    ·have e1:=hk j hm
     have e2:=hk k z1
     have e3:(g*den.getD j 0*den.getD k 0)*(out3.getD j 0*A j k)=(g*den.getD j 0*den.getD k 0)*(-(out3.getD k 0*A k j)):=by grind
     have e4:=Int.mul_pos (Int.mul_pos hg (hpos j hm).2) (hpos k z1).2
     exact Int.eq_of_mul_eq_mul_left (by omega) e3
   ·have e1:L.map (λx=>g*out3.getD x 0)=L.map (λx=>out2.getD x 0):=List.map_congr_left (λx hx=>by rw[Int.mul_comm];exact h3 x hx)
    have e2:=zda g (L.map (λx=>out3.getD x 0))
    rw[List.map_map]at e2
    have e3:z7u (L.map (λx=>out2.getD x 0))=g.natAbs*z7u (L.map (λx=>out3.getD x 0)):=by rw[<-e1];exact e2
    have e5:z7u (L.map (λx=>out2.getD x 0))=g.natAbs:=by
     have:=congrArg Int.natAbs hgl
     simpa using this.symm
    rw[e5]at e3
    exact Nat.eq_of_mul_eq_mul_left (show 0<g.natAbs by omega) (by rw[Nat.mul_one];exact e3.symm)
   ·intro e hge k hkL
    have key:∀x∈L,out3.getD x 0*g*e s=com*e x:=by
     intro x hx
     have e1:=hk x hx
     have e2:=f.good e hge x hx
     have e3:den.getD x 0*(out3.getD x 0*g*e s)=den.getD x 0*(com*e x):=by grind
     exact Int.eq_of_mul_eq_mul_left (by have:=(hpos x hx).2;omega) e3
    have e1:=key j hm
    have e2:=key k hkL
    have hs:0<e s:=(hge s (by rw[<-f.hd];exact f.lt _ (z1d 0 f.pos))).1
    have e3:(g*e s)*(out3.getD j 0*e k)=(g*e s)*(out3.getD k 0*e j):=by grind
    have e4:=Int.mul_pos hg hs
    exact Int.eq_of_mul_eq_mul_left (by omega) e3
  ·rw[f.out j hj hm]at h1
   obtain⟨a1,a2,L',a3,a4,a5⟩:=h.done j hj h1
   rw[ho j hj hm]
   have hL':∀k∈L',k∉L:=λk hk'=>old k (a3 k hk').1 (a3 k hk').2
   refine⟨a1, ?_,L',λk hk'=>⟨(a3 k hk').1,by rw[f.out k (a3 k hk').1 (hL' k hk')];exact(a3 k hk').2⟩, ?_, ?_⟩
   ·intro k hk'
    by_cases hkL:k∈L
    ·by_cases z1:A j k=0
     ·by_cases z2:A k j=0
      ·rw[z1,z2];simp
      ·exact absurd (f.new k hkL) (h.closed j hj h1 k hk' (Or.inr z2))
     ·exact absurd (f.new k hkL) (h.closed j hj h1 k hk' (Or.inl z1))
    ·rw[ho k hk' hkL];exact a2 k hk'
   ·rw[show L'.map (λk=>out3.getD k 0)=L'.map (λk=>out0.getD k 0)from List.map_congr_left (λk hk'=>ho k (a3 k hk').1 (hL' k hk'))]
    exact a4
   ·intro e hge k hk'
    rw[ho k (a3 k hk').1 (hL' k hk')]
    exact a5 e hge k hk'
end
def OInv.fac{m:Int×Int×List Int}{num out:List Int}(h:OInv m.1.toNat (ent m) num out)(hp:∀x,x<m.1.toNat->num.getD x 0≠0):z5h m=out:=by
 refine zrz h.ol (λi hi=>⟨(h.done i hi (hp i hi)).1,(h.done i hi (hp i hi)).2.1⟩) (λi hi=>?_)
 obtain⟨L,a1,a2,a3⟩:=(h.done i hi (hp i hi)).2.2
 exact⟨L,λk hk=>(a1 k hk).1,a2,a3⟩
def lcm_step{c d Q:Int}(hc:0<c)(hd:0<d)(h1:c∣Q)(h2:d∣Q)(hQ:0<Q) :
  0<(Int.gcd c d:Int)/\0<Int.tdiv c (Int.gcd c d)/\Int.tdiv c (Int.gcd c d)<=c/\0<Int.tdiv c (Int.gcd c d)*d/\Int.tdiv c (Int.gcd c d)*d∣Q/\c∣Int.tdiv c (Int.gcd c d)*d/\d∣Int.tdiv c (Int.gcd c d)*d:=by
 obtain⟨c,rfl⟩:=Int.eq_ofNat_of_zero_le (Int.le_of_lt hc)
 obtain⟨d,rfl⟩:=Int.eq_ofNat_of_zero_le (Int.le_of_lt hd)
 obtain⟨Q,rfl⟩:=Int.eq_ofNat_of_zero_le (Int.le_of_lt hQ)
 have e:Int.tdiv (c:Int) (Int.gcd (c:Int) (d:Int))=((c / Nat.gcd c d:Nat):Int):=rfl
 rw[e]
 have hg:0<Nat.gcd c d:=Nat.gcd_pos_of_pos_left d (by omega)
 have h3:c / Nat.gcd c d*d=Nat.lcm c d:=by
  rw[Nat.lcm,Nat.mul_comm,Nat.mul_comm c d,Nat.mul_div_assoc _ (Nat.gcd_dvd_left c d)]
 have h4:0<c / Nat.gcd c d:=Nat.div_pos (Nat.gcd_le_left d (by omega)) hg
 have h5:c / Nat.gcd c d<=c:=Nat.div_le_self _ _
 rw[<-Int.natCast_mul,h3]
 have h6:0<Nat.lcm c d:=Nat.lcm_pos (by omega) (by omega)
 refine⟨by show(0:Int)<((Nat.gcd c d:Nat):Int);omega,by omega,by omega,by omega, ?_, ?_, ?_⟩
 ·exact Int.natCast_dvd_natCast.2 (Nat.lcm_dvd (Int.natCast_dvd_natCast.1 h1) (Int.natCast_dvd_natCast.1 h2))
 ·exact Int.natCast_dvd_natCast.2 (Nat.dvd_lcm_left c d)
 ·exact Int.natCast_dvd_natCast.2 (Nat.dvd_lcm_right c d)
end Go.Fw
namespace Go.Fw
def z5f(n:Int):ByteArray:=⟨(Lib.itoa n).toArray⟩
end Go.Fw
namespace Go.Fw
def zbl(n:Int):(z5f n).data.toList=Lib.itoa n:=by simp[z5f]
def z4g(l:List Int):List UInt8:=Lib.join (l.map Lib.itoa) [32]
def z4s(l:List Int):ByteArray:=⟨(z4g l).toArray⟩
def zoz{l:List Int}(h:l≠[])(n:Int):z4g (l++[n])=z4g l++[32]++Lib.itoa n:=by
 unfold z4g Lib.join
 cases l with
 | nil=>exact absurd rfl h
 | cons x xs =>
  rw[List.map_append,List.map_cons,List.map_cons,List.map_nil]
  induction xs generalizing x with
  | nil=>simp[List.intercalate,List.intersperse]
  | cons y ys ih =>
   have:=ih y (by simp)
   simp only[List.map_cons,List.cons_append,List.intercalate,List.intersperse,List.flatten_cons,List.append_assoc]at this ⊢
   rw[this]
def zrj(n:Int):z4g [n]=Lib.itoa n:=by simp[z4g,Lib.join,List.intercalate]
def zrk:z4g []=[]:=rfl
def zje{l:List Int}(h:l.all zkx=true):(z4g l).length<=22*l.length:=by
 have key:∀j,j<=l.length->(z4g (l.take j)).length<=22*j:=by
  intro j
  induction j with
  | zero=>intro _;simp[zrk]
  | succ j ih =>
   intro hj
   have h2:zkx (l.getD j 0)=true:=List.all_eq_true.1 h _ (z1d 0 hj)
   have hn:(Lib.itoa (l.getD j 0)).length<=21:=by
    simp only[zkx,Bool.and_eq_true,decide_eq_true_eq]at h2
    exact Lib.itoa_length_le _ h2.1 h2.2
   have:=ih (by omega)
   rw[<-zdi 0 hj]
   by_cases he:l.take j=[]
   ·rw[he,List.nil_append,zrj]
    omega
   ·rw[zoz he]
    simp only[List.length_append,List.length_cons,List.length_nil]
    omega
 have:=key l.length (Nat.le_refl _)
 rwa [List.take_length]at this
def rowP(l:List Int):Bool:=decide (l.length<=2097152)&&l.all zkx
end Go.Fw
namespace Go.Fw
open Go.Proofs Go.Sort
def zra(a b:Int×Int×List Int):ltOf (λa b:Int×Int×List Int=>z71 a.2.2 b.2.2) a b=z3d a.2.2 b.2.2:=zav _ _
def zl5:SWO (ltOf λa b:Int×Int×List Int=>z71 a.2.2 b.2.2):=⟨λx=>by rw[zra];exact z6h _,λx y z h1 h2=>by
  rw[zra]at *
  exact z5e h1 h2,λx y z h1 h2=>by
  rw[zra]at *
  have h3:=zaw y.2.2 x.2.2 x.2.2
  have:leD z.2.2 x.2.2=true:=zaw z.2.2 y.2.2 x.2.2 (by simp only[leD,h2];rfl) (by simp only[leD,h1];rfl)
  simpa only[leD,Bool.not_eq_true']using this⟩
def zgd(l:List (Int×Int×List Int)):List (Int×Int×List Int):=z6v (0,(0,[])) (λa b:Int×Int×List Int=>z71 a.2.2 b.2.2) l
def zfa(l:List (Int×Int×List Int)):(zgd l).Perm l:=zla zl5 l
def zii(l:List (Int×Int×List Int)):z4d ((zgd l).map (·.2.2)):=by
 have h:=zge (d:=((0,(0,[])):Int×Int×List Int)) zl5 l
 have hl:(zgd l).length=l.length:=(zfa l).length_eq
 unfold z4d
 rw[List.pairwise_iff_getElem]
 intro i j hi hj hij
 rw[List.length_map]at hi hj
 have:=h i j hij (by omega)
 simp only[List.getElem_map]
 simp only[leD,Bool.not_eq_true']
 have e:∀k (hk:k<(zgd l).length),(z6v (0,(0,[])) (λa b:Int×Int×List Int=>z71 a.2.2 b.2.2) l).getD k (0,(0,[]))=(zgd l)[k]:=λk hk=>by
  rw[List.getD_eq_getElem?_getD]
  show((zgd l)[k]?).getD _=_
  rw[List.getElem?_eq_getElem hk]
  rfl
 rw[e i hi,e j hj]at this
 cases hq:z3d (zgd l)[j].2.2 (zgd l)[i].2.2
 ·rfl
 ·rw[<-zav]at hq
  exact(this (of_decide_eq_true hq)).elim
end Go.Fw
namespace Go.Fw
end Go.Fw
namespace Go.Fw
def z33(p:UInt8->Bool):List UInt8->List (List UInt8)
 | []=>[[]]
 | b::l=>if p b=true then[]::z33 p l else match z33 p l with
  | h::t=>(b::h)::t
  | []=>[[b]]
def z93(p:UInt8->Bool):∀l,z33 p l≠[]
 | []=>by simp[z33]
 | b::l=>by
  rw[z33]
  split
  ·simp
  ·split<;>simp
def glue(a:List UInt8):List (List UInt8)->List (List UInt8)
 | h::t=>(a++h)::t
 | []=>[a]
def glue_nil{q:List (List UInt8)}(h:q≠[]):glue [] q=q:=by
 cases q with
 | nil=>exact absurd rfl h
 | cons x xs=>rfl
def glue_sep{p:UInt8->Bool}{b:UInt8}(h:p b=true)(a l:List UInt8):glue a (z33 p (b::l))=a::z33 p l:=by
 rw[z33,if_pos h]
 simp[glue]
def baOf(l:List UInt8):ByteArray:=⟨l.toArray⟩
end Go.Fw
namespace Go.Fw
end Go.Fw
namespace Go.Fw
end Go.Fw
namespace Go.Fw
def zgj(s:ByteArray):List ByteArray:=(z33 (λb=>b == 32) s.data.toList).map baOf
end Go.Fw
namespace Go.Fw
def zpq(c:UInt8):Bool:=decide (48<=c.toNat)&&decide (c.toNat<=57)
def zkc(a:Nat)(c:UInt8):Nat:=10*a+(c.toNat-48)
def zes(a:Nat)(l:List UInt8):Nat:=l.foldl zkc a
def zae(a:Nat):zes a []=a:=rfl
def z84(a:Nat)(c:UInt8)(l:List UInt8):zes a (c::l)=zes (zkc a c) l:=by
 unfold zes
 rw[List.foldl_cons]
def valD_app(l m:List UInt8)(a:Nat):zes a (l++m)=zes (zes a l) m:=by
 unfold zes
 rw[List.foldl_append]
def zb0(a:Nat)(c:UInt8):zkc a c=10*a+(c.toNat-48):=by unfold zkc;rfl
def zly(u:Nat):(Lib.decDigits u).all zpq=true:=by
 induction u using Nat.strongRecOn with
 | _ u ih =>
  have key:∀t,t<10->zpq (UInt8.ofNat (48+t))=true:=λt ht=>by
   have:(UInt8.ofNat (48+t)).toNat=48+t:=by rw[UInt8.toNat_ofNat'];omega
   simp only[zpq,this,Bool.and_eq_true,decide_eq_true_eq]
   omega
  rw[Lib.decDigits]
  split
  ·rename_i h
   rw[List.all_cons,key u h]
   rfl
  ·rename_i h
   rw[List.all_append,ih (u / 10) (by omega),List.all_cons,key (u%10) (by omega)]
   rfl
def dec_val(u:Nat):zes 0 (Lib.decDigits u)=u:=by
 induction u using Nat.strongRecOn with
 | _ u ih =>
  have key:∀t,t<10->(UInt8.ofNat (48+t)).toNat-48=t:=λt ht=>by
   have:(UInt8.ofNat (48+t)).toNat=48+t:=by rw[UInt8.toNat_ofNat'];omega
   omega
  rw[Lib.decDigits]
  split
  ·rename_i h
   rw[z84,zb0,key u h,zae]
   omega
  ·rename_i h
   rw[valD_app,ih (u / 10) (by omega),z84,zb0,key (u%10) (by omega),zae]
   omega
def dec_ne(u:Nat):Lib.decDigits u≠[]:=by
 rw[Lib.decDigits]
 split<;>simp
def zto:∀(k u:Nat),u<10 ^ k->1<=k->(Lib.decDigits u).length<=k
 | 0,_,_,h=>by omega
 | k+1,u,h,_=>by
  rw[Lib.decDigits]
  split
  ·simp
  ·rename_i hs
   have hk:1<=k:=by
    rcases Nat.eq_zero_or_pos k with h' | h'
    ·subst h';omega
    ·exact h'
   have:=zto k (u / 10) (by rw[Nat.div_lt_iff_lt_mul (by omega),<-Nat.pow_succ];exact h) hk
   simp
   omega
def zdw{p:UInt8->Bool}:∀(x l:List UInt8),(∀b∈x,p b=false)->z33 p (x++l)=glue x (z33 p l)
 | [],l,_=>(glue_nil (z93 p l)).symm
 | b::x,l,h=>by
  have ih:=zdw x l λc hc=>h c (List.mem_cons_of_mem _ hc)
  rw[List.cons_append,z33,if_neg (by rw[h b (List.mem_cons_self ..)];simp),ih]
  have hne:=z93 p l
  cases hq:z33 p l with
  | nil=>exact absurd hq hne
  | cons y ys=>rfl
def zba:∀(xs:List (List UInt8)),xs≠[]->(∀x∈xs,∀b∈x,(b == (32:UInt8))=false)->z33 (λb=>b == 32) (Lib.join xs [32])=xs
 | [],h,_=>absurd rfl h
 | [x],_,h=>by
  rw[Lib.join_one]
  have:=zdw (p:=λb=>b == 32) x [] (h x (List.mem_cons_self ..))
  rw[List.append_nil]at this
  rw[this]
  simp[z33,glue]
 | x::y::ys,_,h=>by
  have ih:=zba (y::ys) (by simp) λz hz=>h z (List.mem_cons_of_mem _ hz)
  have e:Lib.join (x::y::ys) [32]=x++(32::Lib.join (y::ys) [32]):=by
   rw[Lib.join_cons,Lib.join_cons]
   simp[Lib.joinTail]
  rw[e,zdw _ _ (h x (List.mem_cons_self ..)),glue_sep (by rfl),ih]
def zjf(n:Int):∀b∈Lib.itoa n,(b == (32:UInt8))=false:=by
 have key:∀u,∀b∈Lib.decDigits u,(b == (32:UInt8))=false:=λu b hb=>by
  have:=List.all_eq_true.1 (zly u) b hb
  simp only[zpq,Bool.and_eq_true,decide_eq_true_eq]at this
  rw[beq_eq_false_iff_ne]
  intro e
  subst e
  have:(32:UInt8).toNat=32:=rfl
  omega
 intro b hb
 unfold Lib.itoa at hb
 split at hb
 ·rcases List.mem_cons.1 hb with rfl | hb
  ·rfl
  ·exact key _ b hb
 ·exact key _ b hb
def z7c(l:List UInt8):Nat:=match l with
 | c::_=>if c=45 then 1 else 0
 | []=>0
def numK(s:ByteArray):Int×Bool :=
  if(s.data.toList.drop (z7c s.data.toList)).length=0\/9<(s.data.toList.drop (z7c s.data.toList)).length then(0,false)
  else if(s.data.toList.drop (z7c s.data.toList)).all zpq=true then
    (if z7c s.data.toList=1 then -(zes 0 (s.data.toList.drop (z7c s.data.toList)):Int)else(zes 0 (s.data.toList.drop (z7c s.data.toList)):Int),
     zet (z5f (if z7c s.data.toList=1 then -(zes 0 (s.data.toList.drop (z7c s.data.toList)):Int)else(zes 0 (s.data.toList.drop (z7c s.data.toList)):Int))) s)
  else(0,false)
def z6t{a b:ByteArray}:zet a b=true↔a=b:=by
 unfold zet
 rw[beq_iff_eq,ByteArray.toList_eq,ByteArray.toList_eq]
 constructor
 ·intro h
  apply ByteArray.ext
  exact Array.toList_inj.1 h
 ·intro h
  rw[h]
def zbc(w:ByteArray):Option Int:=if(numK w).2=true then some (numK w).1 else none
def zr0{w:ByteArray}{n:Int}(hin:inK n (-999999999) 999999999=true)(hw:w=z5f n):numK w=(n,true):=by
 rw[z3o]at hin
 have hd:w.data.toList=Lib.itoa n:=by rw[hw,zbl]
 have hu:n.natAbs<10 ^ 9:=by
  have h9':(10:Nat) ^ 9=1000000000:=by decide
  omega
 have hl:=zto 9 n.natAbs hu (by omega)
 have hne:(Lib.decDigits n.natAbs).length≠0:=λe=>dec_ne _ (List.length_eq_zero_iff.1 e)
 have hall:=zly n.natAbs
 have hval:=dec_val n.natAbs
 by_cases hneg:n<0
 ·have e:Lib.itoa n=45::Lib.decDigits n.natAbs:=by unfold Lib.itoa;rw[if_pos hneg]
  have hs:z7c w.data.toList=1:=by rw[hd,e];rfl
  have hdr:w.data.toList.drop 1=Lib.decDigits n.natAbs:=by rw[hd,e];rfl
  have hv:-((n.natAbs:Nat):Int)=n:=by omega
  unfold numK
  rw[hs,hdr,if_neg (by omega),if_pos hall,if_pos rfl,hval,hv,z6t.2 hw.symm]
 ·have e:Lib.itoa n=Lib.decDigits n.natAbs:=by unfold Lib.itoa;rw[if_neg hneg,show n.toNat=n.natAbs by omega]
  have hs:z7c w.data.toList=0:=by
   rw[hd,e]
   unfold z7c
   split
   ·rename_i c r hc
    rw[hc,List.all_cons,Bool.and_eq_true]at hall
    have h1:=hall.1
    simp only[zpq,Bool.and_eq_true,decide_eq_true_eq]at h1
    rw[if_neg]
    intro e45
    subst e45
    have:(45:UInt8).toNat=45:=rfl
    omega
   ·rfl
  have hdr:w.data.toList.drop 0=Lib.decDigits n.natAbs:=by rw[hd,e];rfl
  have hv:((n.natAbs:Nat):Int)=n:=by omega
  unfold numK
  rw[hs,hdr,if_neg (by omega),if_pos hall,if_neg (by omega),hval,hv,z6t.2 hw.symm]
def part_can{n:Int}(hin:inK n (-999999999) 999999999=true):zbc (z5f n)=some n:=by
 unfold zbc
 rw[zr0 hin rfl,if_pos rfl]
def zi4(f:ByteArray->Option Int):List ByteArray->Option (List Int)
 | []=>some []
 | w::ws=>match f w with
  | none=>none
  | some n=>match zi4 f ws with
   | none=>none
   | some l=>some (n::l)
def zn2(s:ByteArray):List Int×Bool:=if zet s ByteArray.empty=true then([],true)else match zi4 zbc (zgj s)with
 | none=>([],false)
 | some l=>(l,true)
end Go.Fw
namespace Go.Fw
end Go.Fw
namespace Go.Fw
end Go.Fw
namespace Go.Fw
end Go.Fw
namespace Go.Fw
def itoa_ne(n:Int):Lib.itoa n≠[]:=by
 unfold Lib.itoa
 split
 ·simp
 ·exact dec_ne _
def itoas_ne{row:List Int}(h:row≠[]):z4g row≠[]:=by
 cases row with
 | nil=>exact absurd rfl h
 | cons x xs =>
  unfold z4g
  rw[List.map_cons,Lib.join_cons]
  have:=itoa_ne x
  simp[this]
def prt_row{row:List Int}(h:row≠[]):zgj (z4s row)=row.map z5f:=by
 have hd:(z4s row).data.toList=Lib.join (row.map Lib.itoa) [32]:=by simp[z4s,z4g]
 unfold zgj
 rw[hd,zba (row.map Lib.itoa) (by simpa using h) λx hx=>by
  obtain⟨n,_,rfl⟩:=List.mem_map.1 hx
  exact zjf n,List.map_map]
 rfl
def zo4:∀{row:List Int},(∀n∈row,inK n (-999999999) 999999999=true)->zi4 zbc (row.map z5f)=some row
 | [],_=>rfl
 | n::ns,h=>by
  rw[List.map_cons,zi4,part_can (h n (List.mem_cons_self ..)),zo4 λm hm=>h m (List.mem_cons_of_mem _ hm)]
def ziv{row:List Int}(h:row≠[])(hr:∀n∈row,inK n (-999999999) 999999999=true):zn2 (z4s row)=(row,true):=by
 unfold zn2
 rw[if_neg,prt_row h,zo4 hr]
 intro he
 have e:=z6t.1 he
 have:=congrArg (λb:ByteArray=>b.data.toList) e
 simp[z4s]at this
 exact itoas_ne h this
end Go.Fw
namespace Go.Fw
section
variable {ρ : Type}
namespace z1g
def P(a:List Int):Bool:=decide (a.length<1099511627776)
abbrev g(a:List Int):List Int:=a
end z1g
namespace z1g
def Z1{ρ:Type}(N:Nat)(a:LI)(kn:LI->Option ρ):Option ρ :=
 kn a
def Z3{ρ:Type}(N:Nat)(a:LI)(kn:LI->LI->Option ρ):Option ρ :=
 cond (lk N (leB 0 (a.length:Int)&&decide ((a.length:Int)<1099511627776))) (
  kn (List.replicate (a.length:Int).toNat (0:Int)) a) none
def Z6{ρ:Type}(N:Nat)(a b:LI)(kn:LI->LI->Int->Option ρ):Option ρ :=
 kn a b 0
def Z9{ρ:Type}(N:Nat)(c b:LI)(a:Int)(kn:LI->LI->Int->Option ρ)(k0:LI->Option ρ):Option ρ :=
 cond (lk N (decide (a<(b.length:Int))))
 (
  cond (lk N (inB a b.length)) (
   cond (lk N (inB a c.length)) (
    kn (c.set a.toNat (b.getD a.toNat 0)) b (w64 (a+1))) none) none)
 (
  k0 c)
def Z8L{ρ:Type}(N:Nat)(k0:LI->Option ρ):Nat->LI->LI->Int->Option ρ
 | 0,_,_,_=>none
 | M+1,a,b,c=>Z9 N a b c (λa b c=>Z8L N k0 M a b c) k0
def Z8 N a b c k0:=(Z8L N k0 N a b c:Option ρ)
def Z7 N a b c kn:=(Z8 N a b c kn:Option ρ)
def Z5 N a b kn:=(Z6 N a b (λa b c=>Z7 N a b c kn):Option ρ)
def Z10{ρ:Type}(N:Nat)(a:LI)(kr:LI->Option ρ):Option ρ :=
 kr a
def Z4 N a b kr:=(Z5 N a b (λa=>Z10 N a kr):Option ρ)
def Z2 N a kr:=(Z3 N a (λb a=>Z4 N b a kr):Option ρ)
def Z0 N a kr:=(Z1 N a (λa=>Z2 N a kr):Option ρ)
def Spec:Prop:=∀ (v0:LI),Ty.bd (.sl 0 (.int .i64)) v0->P v0=true->∃N0,∀N,N0<=N->Z0 N v0 (λv2=>some ((),(v2,())))=some ((),((g v0),()))
def loop{ρ:Type}(N:Nat)(k0:List Int->Option ρ)(a:List Int)(ha:a.length<=maxLen):∀(M j:Nat) (out:List Int),out.length=a.length->out.take j=a.take j->j<=a.length->a.length-j<M ->
  Z8L N k0 M out a (j:Int)=k0 a:=by
 intro M
 induction M with
 | zero=>intro j out _ _ _ h;omega
 | succ M ih =>
  intro j out ho ht hj hM
  simp only[Z8L,Z9]
  by_cases h:j<a.length
  ·rw[ct (dt (by omega)),ct (z0o h),ct (z0o (by omega)),Int.toNat_natCast,z0z (by omega)]
   refine ih (j+1) _ (by simpa using ho) ?_ h (by omega)
   rw[zb5 (by omega),ht,zdi 0 h]
  ·rw[cf (df (by omega))]
   have:j=a.length:=by omega
   subst this
   rw[List.take_of_length_le (by omega),List.take_length]at ht
   rw[ht]
def ok:Spec:=λa hb hp=>⟨a.length+1,λN hN=>by
 have hl:a.length<1099511627776:=by simpa[P]using hp
 simp only[Z1,Z3,Z6,Z9,Z8,Z7,Z5,Z10,Z4,Z2,Z0]
 rw[ct (by simp[leB];omega)]
 exact loop _ _ a hb.1 _ 0 _ (by simp) (by simp) (by omega) (by omega)⟩
end z1g
end
end Go.Fw
namespace Go.Fw
def toInt_P(a:List Int)(h:(a.length:Int)<=1048576):z1g.P a=true:=by
 unfold z1g.P
 exact dt (by omega)
end Go.Fw
namespace Go.Fw
section
variable {ρ : Type}
namespace z2f
def g(a:List Int)(left:Int):Int:=if w64 (left-a.length)<0 then -1 else w64 (left-a.length)
end z2f
namespace z2f
def Z0{ρ:Type}(N:Nat)(a:LI)(b:Int)(kr:Int->Option ρ):Option ρ :=
 cond (lk N (decide ((w64 (b-(a.length:Int)))<0)))
 (
  kr (-1))
 (
  kr (w64 (b-(a.length:Int))))
def Spec:Prop:=∀ (v0:LI) (v1:Int),Ty.bd (.sl 0 (.int .i64)) v0->∃N0,∀N,N0<=N->Z0 N v0 v1 (λv4=>some ((),(v4,())))=some ((),((g v0 v1),()))
def ok:Spec:=λa left ha=>⟨0,λN hN=>by
 simp only[Z0,g]
 by_cases h:w64 (left-a.length)<0
 ·rw[ct (dt h),if_pos h]
 ·rw[cf (df h),if_neg h]⟩
end z2f
end
end Go.Fw
namespace Go.Fw
def szInt_le(a:List Int)(left:Int)(hb:a.length<=maxLen)(h0:0<=left)(h1:left<=1048576)(h:¬ z2f.g a left<0):(a.length:Int)<=left/\z2f.g a left=left-a.length:=by
 have hw:w64 (left-a.length)=left-a.length:=z1t (by rw[z0q]at hb;omega) (by omega)
 unfold z2f.g at h ⊢
 rw[hw]at h ⊢
 by_cases hl:left-(a.length:Int)<0
 ·rw[if_pos hl]at h;omega
 ·rw[if_neg hl];omega
end Go.Fw
namespace Go.Fw
section
variable {ρ : Type}
namespace z2r
def g(a:Int×Int×List Int)(left:Int):Int:=if z2f.g a.2.2 left<0 then -1 else z2f.g a.2.2 left
end z2r
namespace z2r
def Z0{ρ:Type}(N:Nat)(a:MT)(b:Int)(kr:Int->Option ρ):Option ρ :=
 cond (lk N (decide ((z2f.g a.2.2 b)<0)))
 (
  kr (-1))
 (
  kr (z2f.g a.2.2 b))
def Spec:Prop:=∀ (v0:MT) (v1:Int),Ty.bd (.pair (.int .i64) (.pair (.int .i64) (.sl 0 (.int .i64)))) v0->∃N0,∀N,N0<=N->Z0 N v0 v1 (λv4=>some ((),(v4,())))=some ((),((g v0 v1),()))
def ok:Spec:=λa left ha=>⟨0,λN hN=>by
 simp only[Z0,g]
 by_cases h:z2f.g a.2.2 left<0
 ·rw[ct (dt h),if_pos h]
 ·rw[cf (df h),if_neg h]⟩
end z2r
end
end Go.Fw
namespace Go.Fw
section
variable {ρ : Type}
namespace z1c
def P(a:Int×Int×List Int):Bool:=z1g.P a.2.2
abbrev g(a:Int×Int×List Int):Int×Int×List Int:=a
end z1c
namespace z1c
def Z0{ρ:Type}(N:Nat)(a:MT)(kr:LI->I2 (Option ρ)):Option ρ :=
 cond (lk N (z1g.P a.2.2)) (
  kr (z1g.g a.2.2) a.1 a.2.1) none
def Spec:Prop:=∀ (v0:MT),Ty.bd (.pair (.int .i64) (.pair (.int .i64) (.sl 0 (.int .i64)))) v0->P v0=true->∃N0,∀N,N0<=N->Z0 N v0 (λv2_2 v2_0 v2_1=>some ((),((v2_0,(v2_1,v2_2)),())))=some ((),((g v0),()))
def ok:Spec:=λa hb hp=>⟨0,λN hN=>by
 simp only[Z0]
 exact ct (show z1g.P a.2.2=true from hp)⟩
end z1c
end
end Go.Fw
namespace Go.Fw
def szMat_P(a:Int×Int×List Int)(hb:a.2.2.length<=maxLen)(h:¬ z2r.g a 1048576<0):z1c.P a=true/\a.2.2.length<=1048576:=by
 have h':¬ z2f.g a.2.2 1048576<0:=by
  unfold z2r.g at h
  by_cases e:z2f.g a.2.2 1048576<0
  ·rw[if_pos e]at h;omega
  ·exact e
 have:=(szInt_le a.2.2 1048576 hb (by omega) (by omega) h').1
 exact⟨toInt_P _ this,by omega⟩
end Go.Fw
namespace Go.Fw
section
variable {ρ : Type}
namespace z0k
def mk:List Int->Int->List Int×Int
 | [],k=>([],k)
 | _::xs,k=>(k::(mk xs (w64 (k+1))).1,(mk xs (w64 (k+1))).2)
def g(a:List Int)(k:Int):List Int×Int:=mk a k
end z0k
namespace z0k
def Z1{ρ:Type}(N:Nat)(a:LI)(b:Int)(kn:LI->Int->Option ρ):Option ρ :=
 kn a b
def Z4{ρ:Type}(N:Nat)(a:LI)(b:Int)(kn:LI->I2 (Option ρ)):Option ρ :=
 kn a b 0
def Z7{ρ:Type}(N:Nat)(a:LI)(c b:Int)(kn:LI->I2 (Option ρ))(k0:LI->Int->Option ρ):Option ρ :=
 cond (lk N (decide (b<(a.length:Int))))
 (
  cond (lk N (inB b a.length)) (
   kn (a.set b.toNat c) (w64 (c+1)) (w64 (b+1))) none)
 (
  k0 a c)
def Z6L{ρ:Type}(N:Nat)(k0:LI->Int->Option ρ):Nat->LI->Int->Int->Option ρ
 | 0,_,_,_=>none
 | M+1,a,b,c=>Z7 N a b c (λa b c=>Z6L N k0 M a b c) k0
def Z6 N a b c k0:=(Z6L N k0 N a b c:Option ρ)
def Z5 N a b c kn:=(Z6 N a b c kn:Option ρ)
def Z3 N a b kn:=(Z4 N a b (λa b c=>Z5 N a b c kn):Option ρ)
def Z8{ρ:Type}(N:Nat)(a:LI)(b:Int)(kr:LI->Int->Option ρ):Option ρ :=
 kr a b
def Z2 N b a kr:=(Z3 N b a (λc a=>Z8 N c a kr):Option ρ)
def Z0 N a b kr:=(Z1 N a b (λa b=>Z2 N a b kr):Option ρ)
def Spec:Prop:=∀ (v0:LI) (v1:Int),Ty.bd (.sl 0 (.int .i64)) v0->∃N0,∀N,N0<=N->Z0 N v0 v1 (λw0 v4=>some (w0,(v4,())))=some ((g v0 v1).1,((g v0 v1).2,()))
def loop{ρ:Type}(N:Nat)(k0:List Int->Int->Option ρ):∀(M j:Nat) (a:List Int) (k:Int),a.length<=maxLen->j<=a.length->a.length-j<M ->
  Z6L N k0 M a k (j:Int)=k0 (a.take j++(mk (a.drop j) k).1) (mk (a.drop j) k).2:=by
 intro M
 induction M with
 | zero=>intro j a k _ _ h;omega
 | succ M ih =>
  intro j a k ha hj hM
  simp only[Z6L,Z7]
  by_cases h:j<a.length
  ·rw[ct (dt (by omega)),ct (z0o h),Int.toNat_natCast,z0z (by omega),ih (j+1) _ _ (by simpa using ha) (by simp;omega) (by simp;omega),z1u 0 h,
    List.drop_set_of_lt (by omega),zb5 (by omega)]
   simp[mk]
  ·have:j=a.length:=by omega
   subst this
   rw[cf (df (by omega))]
   simp[mk]
def ok:Spec:=λa k ha=>⟨a.length+1,λN hN=>by
 simp only[Z1,Z4,Z7,Z6,Z5,Z3,Z8,Z2,Z0]
 rw[show(0:Int)=((0:Nat):Int)from rfl,loop _ _ _ 0 a k ha.1 (by omega) (by omega)]
 simp[g]⟩
def mk_end:∀(a:List Int) (k:Int),0<=k->k+a.length<9223372036854775808->(mk a k).2=k+a.length
 | [],k,_,_=>by simp[mk]
 | _::xs,k,h0,h=>by
  simp only[mk,List.length_cons]at h ⊢
  rw[z1t (by omega) (by omega),mk_end xs (k+1) (by omega) (by omega)]
  omega
end z0k
end
end Go.Fw
namespace Go.Fw
section
variable {ρ : Type}
namespace z18
def hd:List Int->Int->Int
 | [],k=>k
 | x::xs,k=>if x=k then hd xs (w64 (k+1))else -1
def g(a:List Int)(k:Int):Int:=hd a k
end z18
namespace z18
def Z1{ρ:Type}(N:Nat)(a:LI)(b:Int)(kn:LI->Int->Option ρ):Option ρ :=
 kn a b
def Z4{ρ:Type}(N:Nat)(a:LI)(b:Int)(kn:LI->I2 (Option ρ)):Option ρ :=
 kn a b 0
def Z7{ρ:Type}(N:Nat)(a:LI)(c b:Int)(kn:LI->I2 (Option ρ))(k0 kr:Int->Option ρ):Option ρ :=
 cond (lk N (decide (b<(a.length:Int))))
 (
  cond (lk N (inB b a.length)) (
   cond (lk N (!(decide ((a.getD b.toNat 0)=c))))
   (
    kr (-1))
   (
    kn a (w64 (c+1)) (w64 (b+1)))) none)
 (
  k0 c)
def Z6L{ρ:Type}(N:Nat)(k0 kr:Int->Option ρ):Nat->LI->Int->Int->Option ρ
 | 0,_,_,_=>none
 | M+1,a,b,c=>Z7 N a b c (λa b c=>Z6L N k0 kr M a b c) k0 kr
def Z6 N a b c k0 kr:=(Z6L N k0 kr N a b c:Option ρ)
def Z5 N a b c kn kr:=(Z6 N a b c kn kr:Option ρ)
def Z3 N a b kn kr:=(Z4 N a b (λa b c=>Z5 N a b c kn kr):Option ρ)
def Z8{ρ:Type}(N:Nat)(a:Int)(kr:Int->Option ρ):Option ρ :=
 kr a
def Z2 N b a kr:=(Z3 N b a (λa=>Z8 N a kr) kr:Option ρ)
def Z0 N a b kr:=(Z1 N a b (λa b=>Z2 N a b kr):Option ρ)
def Spec:Prop:=∀ (v0:LI) (v1:Int),Ty.bd (.sl 0 (.int .i64)) v0->∃N0,∀N,N0<=N->Z0 N v0 v1 (λv4=>some ((),(v4,())))=some ((),((g v0 v1),()))
def loop{ρ:Type}(N:Nat)(kr:Int->Option ρ)(a:List Int)(ha:a.length<=maxLen):∀(M j:Nat) (k:Int),j<=a.length->a.length-j<M ->
  Z6L N kr kr M a k (j:Int)=kr (hd (a.drop j) k):=by
 intro M
 induction M with
 | zero=>intro j k _ h;omega
 | succ M ih =>
  intro j k hj hM
  simp only[Z6L,Z7]
  by_cases h:j<a.length
  ·rw[ct (dt (by omega)),ct (z0o h),Int.toNat_natCast,z0z (by omega),ih (j+1) _ h (by omega),z1u 0 h]
   by_cases e:a.getD j 0=k
   ·rw[cf (nf e),hd,if_pos e]
   ·rw[ct (nt e),hd,if_neg e]
  ·rw[cf (df (by omega)),List.drop_of_length_le (by omega),hd]
def ok:Spec:=λa k ha=>⟨a.length+1,λN hN=>by
 simp only[Z1,Z4,Z7,Z6,Z5,Z3,Z8,Z2,Z0]
 rw[show(0:Int)=((0:Nat):Int)from rfl,loop _ _ a ha.1 N 0 k (by omega) (by omega)]
 simp[g]⟩
end z18
end
end Go.Fw
namespace Go.Fw
def zcj:∀(a:List Int) (k:Int),z18.g (z0k.g a k).1 k=(z0k.g a k).2
 | [],k=>rfl
 | x::xs,k=>by
  have ih:=zcj xs (w64 (k+1))
  simp only[z18.g,z0k.g,z0k.mk,z18.hd,if_true]at ih ⊢
  exact ih
end Go.Fw
namespace Go.Fw
section
variable {ρ : Type}
namespace z23
def g(a:Int×Int×List Int)(k:Int):(Int×Int×List Int)×Int:=((a.1,a.2.1,(z0k.g a.2.2 k).1),(z0k.g a.2.2 k).2)
end z23
namespace z23
def Z0{ρ:Type}(N:Nat)(a:MT)(b:Int)(kr:LI->I3 (Option ρ)):Option ρ :=
 kr (z0k.g a.2.2 b).1 (z0k.g a.2.2 b).2 a.1 a.2.1
def Spec:Prop:=∀ (v0:MT) (v1:Int),Ty.bd (.pair (.int .i64) (.pair (.int .i64) (.sl 0 (.int .i64)))) v0->∃N0,∀N,N0<=N->Z0 N v0 v1 (λw0_2 v4 w0_0 w0_1=>some ((w0_0,(w0_1,w0_2)),(v4,())))=some ((g v0 v1).1,((g v0 v1).2,()))
def ok:Spec:=λa k ha=>⟨0,λN hN=>by simp only[Z0,g]⟩
end z23
end
end Go.Fw
namespace Go.Fw
end Go.Fw
namespace Go.Fw
section
variable {ρ : Type}
namespace z0i
def mk:List (Int×Int×List Int)->Int->List (Int×Int×List Int)×Int
 | [],k=>([],k)
 | t::ts,k=>((k,(w64 (k+1),(z0k.g t.2.2 (w64 (w64 (k+1)+1))).1))::(mk ts (z0k.g t.2.2 (w64 (w64 (k+1)+1))).2).1,(mk ts (z0k.g t.2.2 (w64 (w64 (k+1)+1))).2).2)
def g(a:List (Int×Int×List Int))(k:Int):List (Int×Int×List Int)×Int:=mk a k
end z0i
namespace z0i
def Z1{ρ:Type}(N:Nat)(a:LM)(b:Int)(kn:LM->Int->Option ρ):Option ρ :=
 kn a b
def Z4{ρ:Type}(N:Nat)(a:LM)(b:Int)(kn:LM->I2 (Option ρ)):Option ρ :=
 kn a b 0
def Z7{ρ:Type}(N:Nat)(b:LM)(c a:Int)(kn:LM->I2 (Option ρ))(k0:LM->Int->Option ρ):Option ρ :=
 let x1_:=(b.set a.toNat (c,(b.getD a.toNat (0,(0,[]))).2))
 let x0_:=(x1_.set a.toNat ((x1_.getD a.toNat (0,(0,[]))).1,((w64 (c+1)),(x1_.getD a.toNat (0,(0,[]))).2.2)))
 let x2_:=(x0_.getD a.toNat (0,(0,[])))
 cond (lk N (decide (a<(b.length:Int))))
 (
 cond (lk N (inB a b.length)) (
 cond (lk N (inB a x1_.length)) (
 cond (lk N (inB a x0_.length)) (
 kn (x0_.set a.toNat (x2_.1,(x2_.2.1,(z0k.g x2_.2.2 (w64 ((w64 (c+1))+1))).1))) (z0k.g x2_.2.2 (w64 ((w64 (c+1))+1))).2 (w64 (a+1))) none) none) none)
 (
 k0 b c)
def Z6L{ρ:Type}(N:Nat)(k0:LM->Int->Option ρ):Nat->LM->Int->Int->Option ρ
 | 0,_,_,_=>none
 | M+1,a,b,c=>Z7 N a b c (λa b c=>Z6L N k0 M a b c) k0
def Z6 N a b c k0:=(Z6L N k0 N a b c:Option ρ)
def Z5 N a b c kn:=(Z6 N a b c kn:Option ρ)
def Z3 N a b kn:=(Z4 N a b (λa b c=>Z5 N a b c kn):Option ρ)
def Z8{ρ:Type}(N:Nat)(a:LM)(b:Int)(kr:LM->Int->Option ρ):Option ρ :=
 kr a b
def Z2 N b a kr:=(Z3 N b a (λc a=>Z8 N c a kr):Option ρ)
def Z0 N a b kr:=(Z1 N a b (λa b=>Z2 N a b kr):Option ρ)
def Spec:Prop:=∀ (v0:LM) (v1:Int),Ty.bd (.sl 0 (.pair (.int .i64) (.pair (.int .i64) (.sl 0 (.int .i64))))) v0->∃N0,∀N,N0<=N->Z0 N v0 v1 (λw0 v4=>some (w0,(v4,())))=some ((g v0 v1).1,((g v0 v1).2,()))
def loop{ρ:Type}(N:Nat)(k0:List (Int×Int×List Int)->Int->Option ρ):∀(M j:Nat) (a:List (Int×Int×List Int)) (k:Int),a.length<=maxLen->j<=a.length->a.length-j<M ->
  Z6L N k0 M a k (j:Int)=k0 (a.take j++(mk (a.drop j) k).1) (mk (a.drop j) k).2:=by
 intro M
 induction M with
 | zero=>intro j a k _ _ h;omega
 | succ M ih =>
  intro j a k ha hj hM
  simp only[Z6L,Z7]
  by_cases h:j<a.length
  ·rw[ct (dt (by omega)),ct (z0o h),Int.toNat_natCast]
   simp only[List.set_set,zay h]
   rw[ct (z0o (by simpa using h)),ct (z0o (by simpa using h)),z0z (by omega),ih (j+1) _ _ (by simpa using ha) (by simp;omega) (by simp;omega),z1u (0,(0,[])) h,
    List.drop_set_of_lt (by omega),zb5 (by omega)]
   simp[mk]
  ·have:j=a.length:=by omega
   subst this
   rw[cf (df (by omega))]
   simp[mk]
def ok:Spec:=λa k ha=>⟨a.length+1,λN hN=>by
 simp only[Z1,Z4,Z7,Z6,Z5,Z3,Z8,Z2,Z0]
 rw[show(0:Int)=((0:Nat):Int)from rfl,loop _ _ _ 0 a k ha.1 (by omega) (by omega)]
 simp[g]⟩
end z0i
end
end Go.Fw
namespace Go.Fw
section
variable {ρ : Type}
namespace z0x
def hd:List (Int×Int×List Int)->Int->Int
 | [],k=>k
 | t::ts,k=>if t.1=k then(if t.2.1=w64 (k+1)then(if z18.g t.2.2 (w64 (w64 (k+1)+1))<0 then -1 else hd ts (z18.g t.2.2 (w64 (w64 (k+1)+1))))else -1)else -1
def g(a:List (Int×Int×List Int))(k:Int):Int:=hd a k
end z0x
namespace z0x
def Z1{ρ:Type}(N:Nat)(a:LM)(b:Int)(kn:LM->Int->Option ρ):Option ρ :=
 kn a b
def Z4{ρ:Type}(N:Nat)(a:LM)(b:Int)(kn:LM->I2 (Option ρ)):Option ρ :=
 kn a b 0
def Z7{ρ:Type}(N:Nat)(a:LM)(c b:Int)(kn:LM->I2 (Option ρ))(k0 kr:Int->Option ρ):Option ρ :=
 cond (lk N (decide (b<(a.length:Int))))
 (
  cond (lk N (inB b a.length)) (
   cond (lk N (!(decide ((a.getD b.toNat (0,(0,[]))).1=c))))
   (
    kr (-1))
   (
    cond (lk N (inB b a.length)) (
     cond (lk N (!(decide ((a.getD b.toNat (0,(0,[]))).2.1=(w64 (c+1))))))
     (
      kr (-1))
     (
      cond (lk N (inB b a.length)) (
       cond (lk N (decide ((z18.g (a.getD b.toNat (0,(0,[]))).2.2 (w64 ((w64 (c+1))+1)))<0)))
       (
        kr (-1))
       (
        kn a (z18.g (a.getD b.toNat (0,(0,[]))).2.2 (w64 ((w64 (c+1))+1))) (w64 (b+1)))) none)) none)) none)
 (
  k0 c)
def Z6L{ρ:Type}(N:Nat)(k0 kr:Int->Option ρ):Nat->LM->Int->Int->Option ρ
 | 0,_,_,_=>none
 | M+1,a,b,c=>Z7 N a b c (λa b c=>Z6L N k0 kr M a b c) k0 kr
def Z6 N a b c k0 kr:=(Z6L N k0 kr N a b c:Option ρ)
def Z5 N a b c kn kr:=(Z6 N a b c kn kr:Option ρ)
def Z3 N a b kn kr:=(Z4 N a b (λa b c=>Z5 N a b c kn kr):Option ρ)
def Z8{ρ:Type}(N:Nat)(a:Int)(kr:Int->Option ρ):Option ρ :=
 kr a
def Z2 N b a kr:=(Z3 N b a (λa=>Z8 N a kr) kr:Option ρ)
def Z0 N a b kr:=(Z1 N a b (λa b=>Z2 N a b kr):Option ρ)
def Spec:Prop:=∀ (v0:LM) (v1:Int),Ty.bd (.sl 0 (.pair (.int .i64) (.pair (.int .i64) (.sl 0 (.int .i64))))) v0->∃N0,∀N,N0<=N->Z0 N v0 v1 (λv4=>some ((),(v4,())))=some ((),((g v0 v1),()))
def loop{ρ:Type}(N:Nat)(kr:Int->Option ρ)(a:List (Int×Int×List Int))(ha:a.length<=maxLen):∀(M j:Nat) (k:Int),j<=a.length->a.length-j<M ->
  Z6L N kr kr M a k (j:Int)=kr (hd (a.drop j) k):=by
 intro M
 induction M with
 | zero=>intro j k _ h;omega
 | succ M ih =>
  intro j k hj hM
  simp only[Z6L,Z7]
  by_cases h:j<a.length
  ·rw[ct (dt (by omega)),ct (z0o h),Int.toNat_natCast,z0z (by omega),ih (j+1) _ h (by omega),z1u (0,(0,[])) h]
   by_cases e1:(a.getD j (0,(0,[]))).1=k
   ·rw[cf (nf e1),ct (z0o h),hd,if_pos e1]
    by_cases e3:(a.getD j (0,(0,[]))).2.1=w64 (k+1)
    ·rw[cf (nf e3),ct (z0o h),if_pos e3]
     by_cases e2:z18.g (a.getD j (0,(0,[]))).2.2 (w64 (w64 (k+1)+1))<0
     ·rw[ct (dt e2),if_pos e2]
     ·rw[cf (df e2),if_neg e2]
    ·rw[ct (nt e3),if_neg e3]
   ·rw[ct (nt e1),hd,if_neg e1]
  ·rw[cf (df (by omega)),List.drop_of_length_le (by omega),hd]
def ok:Spec:=λa k ha=>⟨a.length+1,λN hN=>by
 simp only[Z1,Z4,Z7,Z6,Z5,Z3,Z8,Z2,Z0]
 rw[show(0:Int)=((0:Nat):Int)from rfl,loop _ _ a ha.1 N 0 k (by omega) (by omega)]
 simp[g]⟩
end z0x
end
end Go.Fw
namespace Go.Fw
def szMS:List (Int×Int×List Int)->Nat
 | []=>0
 | t::ts=>2+t.2.2.length+szMS ts
def zeb:∀(l:List (Int×Int×List Int)) (k:Int),0<=k->k+szMS l<4611686018427387904 ->
  z0x.g (z0i.g l k).1 k=(z0i.g l k).2/\(z0i.g l k).2=k+szMS l
 | [],k,_,_=>⟨rfl,by simp[z0i.g,z0i.mk,szMS]⟩
 | t::ts,k,h0,h=>by
  simp only[szMS]at h ⊢
  have e4:w64 (k+1)=k+1:=z1t (by omega) (by omega)
  have e5:w64 (k+1+1)=k+1+1:=z1t (by omega) (by omega)
  have e2:=zcj t.2.2 (k+1+1)
  have e3:(z0k.g t.2.2 (k+1+1)).2=k+1+1+t.2.2.length:=z0k.mk_end t.2.2 (k+1+1) (by omega) (by omega)
  obtain⟨i1,i2⟩:=zeb ts (k+1+1+t.2.2.length) (by omega) (by omega)
  simp only[z0x.g,z0i.g,z0i.mk,z0x.hd,e4,e5,e2,e3,if_true]at i1 i2 ⊢
  rw[if_neg (by omega)]
  exact⟨i1,by rw[i2];omega⟩
def szMS_le{l:List (Int×Int×List Int)}{a b:Nat}(h1:l.length<=a)(h2:∀x∈l,x.2.2.length<=b):szMS l<=a*(b+2):=by
 have:szMS l<=l.length*(b+2):=by
  clear h1
  induction l with
  | nil=>simp[szMS]
  | cons x xs ih =>
   have h3:=ih (λy hy=>h2 y (List.mem_cons_of_mem _ hy))
   have h4:=h2 x List.mem_cons_self
   rw[szMS,List.length_cons,Nat.add_mul,Nat.one_mul]
   omega
 exact Nat.le_trans this (Nat.mul_le_mul_right (b+2) h1)
end Go.Fw
namespace Go.Fw
section
variable {ρ : Type}
namespace z3w
def g(n low high:Int):Bool:=inK n low high
end z3w
namespace z3w
def Z0{ρ:Type}(N:Nat)(a b c:Int)(kr:Bool->Option ρ):Option ρ :=
 cond (lk N (decide (b<=a)))
 (
  kr (lk N (decide (a<=c))))
 (
  kr false)
def Spec:Prop:=∀ (v0 v1 v2:Int),∃N0,∀N,N0<=N->Z0 N v0 v1 v2 (λv6=>some ((),(v6,())))=some ((),((g v0 v1 v2),()))
def ok:Spec:=λn low high=>⟨0,λN hN=>by
 simp only[Z0,z2i,g,inK]
 cases decide (low<=n)<;>rfl⟩
end z3w
end
end Go.Fw
namespace Go.Fw
section
variable {ρ : Type}
namespace z0m
def g(m:Int×Int×List Int):Bool:=z2d m
end z0m
namespace z0m
def Z1{ρ:Type}(N:Nat)(a:MT)(kn:I2 (LI->Option ρ)):Option ρ :=
 kn a.1 a.2.1 a.2.2
def Z3{ρ:Type}(N:Nat)(a b:Int)(c:LI)(kn:I2 (LI->Option ρ))(kr:Bool->Option ρ):Option ρ :=
 cond (!(lk N ((z3w.g a 1 5))))
 (
  kr false)
 (
  cond (!(lk N ((z3w.g b a 8))))
  (
   kr false)
  (
   cond (lk N (!(decide ((c.length:Int)=(w64 (a*b))))))
   (
    kr false)
   (
    kn a b c)))
def Z6{ρ:Type}(N:Nat)(a b:Int)(c:LI)(kn:I3 (LI->Option ρ)):Option ρ :=
 kn 0 a b c
def Z9{ρ:Type}(N:Nat)(b c d:Int)(a:LI)(kn:I3 (LI->Option ρ))(k0:I2 (LI->Option ρ))(kr:Bool->Option ρ):Option ρ :=
 cond (lk N (decide (b<(a.length:Int))))
 (
  cond (lk N (inB b a.length)) (
   cond (!(lk N ((z3w.g (a.getD b.toNat 0) (-99) 99))))
   (
    kr false)
   (
    kn (w64 (b+1)) c d a)) none)
 (
  k0 c d a)
def Z8L{ρ:Type}(N:Nat)(k0:I2 (LI->Option ρ))(kr:Bool->Option ρ):Nat->Int->Int->Int->LI->Option ρ
 | 0,_,_,_,_=>none
 | M+1,a,b,c,d=>Z9 N a b c d (λa b c d=>Z8L N k0 kr M a b c d) k0 kr
def Z8 N a b c d k0 kr:=(Z8L N k0 kr N a b c d:Option ρ)
def Z7 N a b c d kn kr:=(Z8 N a b c d kn kr:Option ρ)
def Z5 N a b c kn kr:=(Z6 N a b c (λd a b c=>Z7 N d a b c kn kr):Option ρ)
def Z12{ρ:Type}(N:Nat)(a b:Int)(c:LI)(kn:I3 (LI->Option ρ)):Option ρ :=
 kn 0 a b c
def Z16{ρ:Type}(N:Nat)(a b c:Int)(d:LI)(kn:I3 (LI->Option ρ))(k2:Option ρ):Option ρ :=
 cond (lk N (decide (a<b)))
 (
  kn a b c d)
 (
  k2)
def Z20{ρ:Type}(N:Nat)(a b c:Int)(d:LI)(kn:I4 (LI->Option ρ)):Option ρ :=
 kn a 0 b c d
def Z23{ρ:Type}(N:Nat)(b c a d:Int)(e:LI)(kn:I4 (LI->Option ρ))(k4:I3 (LI->Option ρ))(kr:Bool->Option ρ):Option ρ :=
 cond (lk N (decide (c<a)))
 (
  cond (lk N (z0v.P (a,(d,e)) b c)) (
   cond (lk N (z0v.P (a,(d,e)) c b)) (
    cond (lk N (!(((lk N (decide (0<(z0v.g (a,(d,e)) b c)))) == (lk N (decide ((z0v.g (a,(d,e)) c b)<0)))))))
    (
     kr false)
    (
     cond (lk N (!(((lk N (decide ((z0v.g (a,(d,e)) b c)=0))) == (lk N (decide ((z0v.g (a,(d,e)) c b)=0)))))))
     (
      kr false)
     (
      kn b (w64 (c+1)) a d e))) none) none)
 (
  k4 b a d e)
def Z22L{ρ:Type}(N:Nat)(k4:I3 (LI->Option ρ))(kr:Bool->Option ρ):Nat->Int->Int->Int->Int->LI->Option ρ
 | 0,_,_,_,_,_=>none
 | M+1,a,b,c,d,e=>Z23 N a b c d e (λa b c d e=>Z22L N k4 kr M a b c d e) k4 kr
def Z22 N a b c d e k4 kr:=(Z22L N k4 kr N a b c d e:Option ρ)
def Z21 N a b c d e kn kr:=(Z22 N a b c d e kn kr:Option ρ)
def Z19 N a b c d kn kr:=(Z20 N a b c d (λa e b c d=>Z21 N a e b c d kn kr):Option ρ)
def Z18 N a b c d kn kr:=(Z19 N a b c d kn kr:Option ρ)
def Z24{ρ:Type}(N:Nat)(a b c:Int)(d:LI)(kn:I3 (LI->Option ρ)):Option ρ :=
 kn (w64 (a+1)) b c d
def Z17 N a b c d kn kr:=(Z18 N a b c d (λa b c d=>Z24 N a b c d kn) kr:Option ρ)
def Z15 N a b c d kn k2 kr:=(Z16 N a b c d (λa b c d=>Z17 N a b c d kn kr) k2:Option ρ)
def Z14L{ρ:Type}(N:Nat)(k2:Option ρ)(kr:Bool->Option ρ):Nat->Int->Int->Int->LI->Option ρ
 | 0,_,_,_,_=>none
 | M+1,a,b,c,d=>Z15 N a b c d (λa b c d=>Z14L N k2 kr M a b c d) k2 kr
def Z14 N a b c d k2 kr:=(Z14L N k2 kr N a b c d:Option ρ)
def Z13 N a b c d kn kr:=(Z14 N a b c d kn kr:Option ρ)
def Z11 N a b c kn kr:=(Z12 N a b c (λd a b c=>Z13 N d a b c kn kr):Option ρ)
def Z25{ρ:Type}(N:Nat) (kr:Bool->Option ρ):Option ρ :=
 kr true
def Z10 N a b c kr:=(Z11 N a b c (Z25 N kr) kr:Option ρ)
def Z4 N a b c kr:=(Z5 N a b c (λa b c=>Z10 N a b c kr) kr:Option ρ)
def Z2 N a b c kr:=(Z3 N a b c (λa b c=>Z4 N a b c kr) kr:Option ρ)
def Z0 N a kr:=(Z1 N a (λb c d=>Z2 N b c d kr):Option ρ)
def Spec:Prop:=∀ (v0:MT),Ty.bd (.pair (.int .i64) (.pair (.int .i64) (.sl 0 (.int .i64)))) v0->∃N0,∀N,N0<=N->Z0 N v0 (λv2=>some ((),(v2,())))=some ((),((g v0),()))
section
variable {ρ : Type} {N : Nat} {m : Int × Int × List Int}
def at_g(hd:0<=m.1)(a b:Nat):z0v.g (m.1,(m.2.1,m.2.2)) (a:Int) (b:Int)=ent m a b:=z8r hd a b
def at_p(hd:z4v m=true){a b:Nat}(ha:a<m.1.toNat)(hb:b<m.1.toNat):z0v.P (m.1,(m.2.1,m.2.2)) (a:Int) (b:Int)=true:=by
 obtain⟨n,r,hn,hr,hn1,hn5,hnr,hr8,hl⟩:=z19 hd
 exact zkm hd (by omega) hb
def loop1(hl:m.2.2.length<=maxLen)(k0:Int->Int->List Int->Option ρ)(kr:Bool->Option ρ):∀(M j:Nat),j<=m.2.2.length->m.2.2.length-j<M ->
  Z8L N k0 kr M (j:Int) m.1 m.2.1 m.2.2=cond (entK (m.2.2.drop j)) (k0 m.1 m.2.1 m.2.2) (kr false):=by
 intro M
 induction M with
 | zero=>intro j _ h;omega
 | succ M ih =>
  intro j hj hM
  simp only[Z8L,Z9]
  by_cases h:j<m.2.2.length
  ·rw[ct (dt (by omega)),ct (z0o h),Int.toNat_natCast,z0z (by omega),z1u 0 h,entK,List.all_cons,ih (j+1) h (by omega)]
   simp only[z2i,z3w.g]
   cases inK (m.2.2.getD j 0) (-99) 99<;>rfl
  ·rw[cf (df (by omega)),List.drop_of_length_le (by omega)];rfl
def loop3(hd:z4v m=true)(k4:Int->Int->Int->List Int->Option ρ)(kr:Bool->Option ρ){i:Nat}(hi:i<m.1.toNat):∀(M j:Nat),j<=m.1.toNat->m.1.toNat-j<M ->
  Z22L N k4 kr M (i:Int) (j:Int) m.1 m.2.1 m.2.2=cond (((List.range m.1.toNat).drop j).all λj=>zcw (ent m i j) (ent m j i)) (k4 (i:Int) m.1 m.2.1 m.2.2) (kr false):=by
 obtain⟨n,r,hn,hr,hn1,hn5,hnr,hr8,hl⟩:=z19 hd
 intro M
 induction M with
 | zero=>intro j _ h;omega
 | succ M ih =>
  intro j hj hM
  simp only[Z22L,Z23]
  by_cases h:j<m.1.toNat
  ·rw[ct (dt (by omega)),ct (at_p hd hi h),ct (at_p hd h hi),z5z h,List.all_cons,z0z (by rw[z0q];omega),ih (j+1) h (by omega)]
   have hA:z0v.g (m.1,(m.2.1,m.2.2)) (i:Int) (j:Int)=ent m i j:=at_g (by omega) _ _
   have hB:z0v.g (m.1,(m.2.1,m.2.2)) (j:Int) (i:Int)=ent m j i:=at_g (by omega) _ _
   simp only[z2i,hA,hB,zcw]
   cases(decide (0<ent m i j) == decide (ent m j i<0))<;>cases(decide (ent m i j=0) == decide (ent m j i=0))<;>rfl
  ·rw[cf (df (by omega)),List.drop_of_length_le (by simp;omega)];rfl
def loop2(hN:10<=N)(hd:z4v m=true)(k2:Option ρ)(kr:Bool->Option ρ):∀(M i:Nat),i<=m.1.toNat->m.1.toNat-i<M ->
  Z14L N k2 kr M (i:Int) m.1 m.2.1 m.2.2=cond (((List.range m.1.toNat).drop i).all λi=>(List.range m.1.toNat).all λj=>zcw (ent m i j) (ent m j i)) k2 (kr false):=by
 obtain⟨n,r,hn,hr,hn1,hn5,hnr,hr8,hl⟩:=z19 hd
 intro M
 induction M with
 | zero=>intro i _ h;omega
 | succ M ih =>
  intro i hi hM
  simp only[Z14L,Z15,Z16]
  by_cases h:i<m.1.toNat
  ·rw[ct (dt (by omega))]
   simp only[Z17,Z18,Z19,Z20,Z21,Z22]
   have h3:=loop3 (ρ:=ρ) (N:=N) hd (λa b c d=>Z24 N a b c d (λa b c d=>Z14L N k2 kr M a b c d)) kr h N 0 (by omega) (by omega)
   rw[show((0:Nat):Int)=0 from rfl]at h3
   rw[h3,z5z h,List.all_cons,List.drop_zero]
   simp only[Z24]
   rw[z0z (by rw[z0q];omega),ih (i+1) h (by omega)]
   cases((List.range m.1.toNat).all λj=>zcw (ent m i j) (ent m j i))<;>rfl
  ·rw[cf (df (by omega)),List.drop_of_length_le (by simp;omega)];rfl
end
def ok:Spec:=λm hb=>⟨m.2.2.length+10,λN hN=>by
 have hlen:m.2.2.length<=maxLen:=hb.2.2.1
 simp only[Z0,Z1,Z2,Z3,z3w.g,g,z2d,z1a]
 have main:z4v m=true->Z4 N m.1 m.2.1 m.2.2 (λt=>some ((),(t,())))=some ((),((entK m.2.2&&(List.range m.1.toNat).all λi=>(List.range m.1.toNat).all λj=>zcw (ent m i j) (ent m j i)),())):=by
  intro hd
  obtain⟨n,r,hn,hr,hn1,hn5,hnr,hr8,hl⟩:=z19 hd
  simp only[Z4,Z5,Z6,Z7,Z8]
  have h1:=loop1 (N:=N) hlen (λa b c=>Z10 N a b c (λt=>some ((),(t,())))) (λt=>some ((),(t,()))) N 0 (by omega) (by omega)
  rw[show((0:Nat):Int)=0 from rfl]at h1
  rw[h1,List.drop_zero]
  simp only[Z10,Z11,Z12,Z13,Z14,Z25]
  have h2:=loop2 (N:=N) (by omega) hd (some ((),(true,()))) (λt=>some ((),(t,()))) N 0 (by omega) (by omega)
  rw[show((0:Nat):Int)=0 from rfl]at h2
  rw[h2,List.drop_zero]
  cases entK m.2.2<;>cases((List.range m.1.toNat).all λi=>(List.range m.1.toNat).all λj=>zcw (ent m i j) (ent m j i))<;>rfl
 cases h1:inK m.1 1 5
 ·rw[z4v,h1];simp[z2i]
 cases h2:inK m.2.1 m.1 8
 ·rw[z4v,h1,h2];simp[z2i]
 have e1:=z3o.1 h1
 have e2:=z3o.1 h2
 have e3:0<=m.1*m.2.1:=Int.mul_nonneg (by omega) (by omega)
 have e4:m.1*m.2.1<=5*8:=Int.mul_le_mul (by omega) (by omega) (by omega) (by omega)
 rw[z1t (by omega) (by omega)]
 by_cases h3:(m.2.2.length:Int)=m.1*m.2.1
 ·have hd:z4v m=true:=by rw[z4v,h1,h2,dt h3];rfl
  rw[cf' (by simp[z2i]),cf' (by simp[z2i]),cf (nf h3),main hd,hd]
  rfl
 ·have hd:z4v m=false:=by rw[z4v,h1,h2,df h3];rfl
  rw[cf' (by simp[z2i]),cf' (by simp[z2i]),ct (nt h3),hd]
  rfl⟩
end z0m
end
end Go.Fw
namespace Go.Fw
section
variable {ρ : Type}
namespace z35
def g(m:Int×Int×List Int):Bool:=z2d m&&!decide (z5h m=[])
end z35
namespace z35
def Z0{ρ:Type}(N:Nat)(a:MT)(kr:Bool->Option ρ):Option ρ :=
 cond (!(lk N ((z0m.g a))))
 (
  kr false)
 (
  cond (lk N (z02.P a)) (
   kr (lk N ((z02.g a).2))) none)
def Spec:Prop:=∀ (v0:MT),Ty.bd (.pair (.int .i64) (.pair (.int .i64) (.sl 0 (.int .i64)))) v0->∃N0,∀N,N0<=N->Z0 N v0 (λv2=>some ((),(v2,())))=some ((),((g v0),()))
def ok:Spec:=λm hb=>⟨0,λN hN=>by
 simp only[Z0,z2i,g,z0m.g,z02.P,z02.g]
 cases z2d m<;>rfl⟩
end z35
end
end Go.Fw
namespace Go.Fw
section
variable {ρ : Type}
namespace z1m
def P(a:List Int):Bool:=decide (a.length<1099511627776)
abbrev g(a:List Int):List Int:=a
end z1m
namespace z1m
def Z0{ρ:Type}(N:Nat)(a:LI)(kr:LI->Option ρ):Option ρ :=
 cond (lk N (Nat.blt (([]:List Int).length+a.length) 1099511627776)) (
  kr (([]:List Int)++a)) none
def Spec:Prop:=∀ (v0:LI),Ty.bd (.sl 0 (.int .i64)) v0->P v0=true->∃N0,∀N,N0<=N->Z0 N v0 (λv2=>some ((),(v2,())))=some ((),((g v0),()))
def ok:Spec:=λa hb hp=>⟨0,λN hN=>by
 have hl:a.length<1099511627776:=by simpa[P]using hp
 have hc:Nat.blt (([]:List Int).length+a.length) 1099511627776=true:=by simpa using hl
 simp only[Z0,z2i,g,hc,cond_true,List.nil_append]⟩
end z1m
end
end Go.Fw
namespace Go.Fw
section
variable {ρ : Type}
namespace z0u
def P(m:Int×Int×List Int):Bool:=z1m.P m.2.2
abbrev g(m:Int×Int×List Int):Int×Int×List Int:=m
end z0u
namespace z0u
def Z0{ρ:Type}(N:Nat)(a:MT)(kr:LI->I2 (Option ρ)):Option ρ :=
 cond (lk N (z1m.P a.2.2)) (
  kr (z1m.g a.2.2) a.1 a.2.1) none
def Spec:Prop:=∀ (v0:MT),Ty.bd (.pair (.int .i64) (.pair (.int .i64) (.sl 0 (.int .i64)))) v0->P v0=true->∃N0,∀N,N0<=N->Z0 N v0 (λv2_2 v2_0 v2_1=>some ((),((v2_0,(v2_1,v2_2)),())))=some ((),((g v0),()))
def ok:Spec:=λm hb hp=>⟨0,λN hN=>by
 simp only[Z0]
 exact ct (show z1m.P m.2.2=true from hp)⟩
end z0u
end
end Go.Fw
namespace Go.Fw
section
variable {ρ : Type}
namespace z10
def P(f:List Int)(n:Int)(l:List (List Int)):Bool:=decide (0<=n)&&(decide (n<=5)&&(decide (f.length<=n.toNat)&&decide (l.length+5 ^ (n.toNat-f.length)<=4000)))
def g(f:List Int)(n:Int)(l:List (List Int)):List (List Int):=l++zbf n.toNat (n.toNat-f.length) f
def mu(f:List Int)(n:Int)(_:List (List Int)):Nat:=n.toNat-f.length
end z10
namespace z10
def Z1{ρ:Type}(N m:Nat)(a:LI)(b:Int)(c:LL)(kn:LI->LL->Int->Option ρ):Option ρ :=
 kn a c b
def Z3{ρ:Type}(N m:Nat)(a:LI)(b:LL)(c:Int)(kn:LI->LL->Int->Option ρ)(kr:LL->Option ρ):Option ρ :=
 cond (lk N (decide ((a.length:Int)=c)))
 (
  cond (lk N (Nat.blt (b.length+([a]:List (LI)).length) 1099511627776)) (
   kr (b++([a]:List (LI)))) none)
 (
  kn a b c)
def Z6{ρ:Type}(N m:Nat)(a:LI)(b:LL)(c:Int)(kn:LI->LL->I2 (Option ρ)):Option ρ :=
 kn a b c 0
def Z9{ρ:Type}(N m:Nat)(a:LI)(d:LL)(c b:Int)(kn:LI->LL->I2 (Option ρ))(k0:LL->Option ρ):Option ρ :=
 cond (lk N (decide (b<c)))
 (
  cond (!(lk N ((z1z.g a b))))
  (
   cond (lk N (z1m.P a)) (
    cond (lk N (Nat.blt ((z1m.g a).length+([b]:List Int).length) 1099511627776)) (
     cond (lk N (Nat.blt (mu ((z1m.g a)++([b]:List Int)) c d) m&&P ((z1m.g a)++([b]:List Int)) c d)) (
      kn a (g ((z1m.g a)++([b]:List Int)) c d) c (w64 (b+1))) none) none) none)
  (
   kn a d c (w64 (b+1))))
 (
  k0 d)
def Z8L{ρ:Type}(N m:Nat)(k0:LL->Option ρ):Nat->LI->LL->Int->Int->Option ρ
 | 0,_,_,_,_=>none
 | M+1,a,b,c,d=>Z9 N m a b c d (λa b c d=>Z8L N m k0 M a b c d) k0
def Z8 N m a b c d k0:=(Z8L N m k0 N a b c d:Option ρ)
def Z7 N m a b c d kn:=(Z8 N m a b c d kn:Option ρ)
def Z5 N m a b c kn:=(Z6 N m a b c (λa b c d=>Z7 N m a b c d kn):Option ρ)
def Z10{ρ:Type}(N m:Nat)(a:LL)(kr:LL->Option ρ):Option ρ :=
 kr a
def Z4 N m b a c kr:=(Z5 N m b a c (λa=>Z10 N m a kr):Option ρ)
def Z2 N m a b c kr:=(Z3 N m a b c (λa b c=>Z4 N m a b c kr) kr:Option ρ)
def Z0 N m a b c kr:=(Z1 N m a b c (λa c b=>Z2 N m a c b kr):Option ρ)
def Spec:Prop:=∀(m:Nat) (v0:LI) (v1:Int) (v2:LL),Ty.bd (.sl 0 (.int .i64)) v0->Ty.bd (.sl 0 (.sl 0 (.int .i64))) v2->(Nat.blt (mu v0 v1 v2) (m+1)&&P v0 v1 v2)=true->∃N0,∀N,N0<=N->Z0 N m v0 v1 v2 (λv6=>some ((),(v6,())))=some ((),((g v0 v1 v2),()))
def zdr(n k:Nat)(f:List Int)(j:Nat):List (List Int):=((List.range n).drop j).flatMap λx=>cond (f.any λy=>decide (y=((x:Nat):Int))) [] (zbf n k (f++[((x:Nat):Int)]))
def loop{ρ:Type}{N m n k q:Nat}(hq:5 ^ k=q)(hn:n<=5){f:List Int}(hf:f.length+(k+1)=n)(hm:k<m)(k0:List (List Int)->Option ρ):∀(M j:Nat) (l:List (List Int)),j<=n->l.length+(n-j)*q<=4000->n-j<M ->
  Z8L N m k0 M f l (n:Int) (j:Int)=k0 (l++zdr n k f j):=by
 intro M
 induction M with
 | zero=>intro j l _ _ h;omega
 | succ M ih =>
  intro j l hj hl hM
  simp only[Z8L,Z9]
  by_cases h:j<n
  ·rw[ct (dt (by omega))]
   have e:(n-j)*q=(n-(j+1))*q+q:=by
    rw[<-Nat.succ_mul]
    congr 1
    omega
   have hr:zdr n k f j=cond (f.any λy=>decide (y=((j:Nat):Int))) [] (zbf n k (f++[((j:Nat):Int)]))++zdr n k f (j+1):=by
    unfold zdr
    rw[z5z h,List.flatMap_cons]
   rw[hr,z0z (by rw[z0q];omega)]
   have e0:z1z.g f (j:Int)=f.any λy=>decide (y=((j:Nat):Int)):=rfl
   rw[e0]
   cases f.any λy=>decide (y=((j:Nat):Int))
   ·have hI:z1m.P f=true:=dt (by omega)
    have hIg:z1m.g f=f:=rfl
    have hP:(Nat.blt (mu (f++[(j:Int)]) (n:Int) l) m&&P (f++[(j:Int)]) (n:Int) l)=true:=by
     have hlen:(f++[(j:Int)]).length=f.length+1:=by simp
     simp only[mu,P,hlen,Int.toNat_natCast,Bool.and_eq_true,decide_eq_true_eq]
     refine⟨Nat.ble_eq_true_of_le (by omega),by omega,by omega,by omega, ?_⟩
     rw[show n-(f.length+1)=k by omega,hq]
     omega
    have hg:g (f++[(j:Int)]) (n:Int) l=l++zbf n k (f++[(j:Int)]):=by
     have hlen:(f++[(j:Int)]).length=f.length+1:=by simp
     rw[g,hlen,Int.toNat_natCast,show n-(f.length+1)=k by omega]
    have hb:Nat.blt (f.length+([(j:Int)]:List Int).length) 1099511627776=true:=Nat.ble_eq_true_of_le (by simp;omega)
    have hol:=zgo n hn k (f++[(j:Int)])
    rw[hq]at hol
    rw[z2i,ct' (show(!false)=true from rfl),ct hI,hIg,ct hb,ct hP,hg,ih (j+1) _ h (by rw[List.length_append];omega) (by omega),cond_false,List.append_assoc]
   ·rw[z2i,cf' (show(!true)=false from rfl),ih (j+1) l h (by omega) (by omega),cond_true,List.nil_append]
  ·rw[cf (df (by omega)),show j=n by omega]
   unfold zdr
   rw[List.drop_of_length_le (by simp)]
   simp
def ok:Spec:=λm f n l hb hb2 hp=>⟨10,λN hN=>by
 simp only[P,mu,Bool.and_eq_true,decide_eq_true_eq]at hp
 obtain⟨h0,h1,h2,h3,h4⟩:=hp
 have h0:n.toNat-f.length<m+1:=Nat.le_of_ble_eq_true h0
 obtain⟨n,rfl⟩:=Int.eq_ofNat_of_zero_le h1
 simp only[Int.toNat_natCast]at h0 h3 h4
 have hn:n<=5:=by omega
 simp only[Z0,Z1,Z2,Z3]
 by_cases h:f.length=n
 ·have hp:=Nat.pow_pos (a:=5) (n:=n-f.length) (by omega)
  have hb:Nat.blt (l.length+([f]:List (List Int)).length) 1099511627776=true:=Nat.ble_eq_true_of_le (by simp;omega)
  rw[ct (dt (by omega)),ct hb,g,Int.toNat_natCast,show n-f.length=0 by omega]
  rfl
 ·rw[cf (df (by omega))]
  simp only[Z4,Z5,Z6,Z7,Z8]
  obtain⟨k,hk⟩:∃k,f.length+(k+1)=n:=⟨n-f.length-1,by omega⟩
  have e:n-f.length=k+1:=by omega
  rw[e,Nat.pow_succ]at h4
  have h5:n*5 ^ k<=5 ^ k*5:=by rw[Nat.mul_comm];exact Nat.mul_le_mul_left _ hn
  refine(loop rfl hn hk (by omega) _ N 0 l (Nat.zero_le _) (by rw[Nat.sub_zero];exact Nat.le_trans (Nat.add_le_add_left h5 _) h4) (by omega)).trans ?_
  rw[g,Int.toNat_natCast,e]
  rfl⟩
end z10
end
end Go.Fw
