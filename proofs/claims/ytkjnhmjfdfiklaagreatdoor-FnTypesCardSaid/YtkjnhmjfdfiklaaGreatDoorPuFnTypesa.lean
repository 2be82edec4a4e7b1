/- The plain part: what the functions compute, in lists and numbers. Nothing is assumed. -/
import Derived.Test.YtkjnhmjfdfiklaaGreatDoorFwd
import Derived.Lib.ItoaLen
import Derived.Lib.Join
import Derived.Test.YtkjnhmjfdfiklaaGreatDoorFza
import Derived.Lib.AtoiAll
import Derived.Lib.SplitLaws
noncomputable section
set_option linter.defProp false
set_option linter.unusedVariables false
namespace Go.Fw
def cd:List Int->List Int->Bool
 |[],[]=>false
 |[],_::_=>true
 |_::_,[]=>false
 |x::xs,y::ys=>if x=y then cd xs ys else decide (x<y)
def ix:List Int->List Int->Int
 |[],[]=>0
 |[],_::_=>-1
 |_::_,[]=>1
 |x::xs,y::ys=>if x=y then ix xs ys else if x<y then -1 else 1
def t6:∀a b:List Int,decide (ix a b<0)=cd a b
 |[],[]=>rfl
 |[],_::_=>rfl
 |_::_,[]=>rfl
 |x::xs,y::ys=>by
  rw[ix,cd];by_cases h:x=y;·rw[if_pos h,if_pos h,t6 xs ys]
  ·rw[if_neg h,if_neg h];by_cases h2:x<y;·rw[if_pos h2,dt h2];rfl
   ·rw[if_neg h2,df h2];rfl
def bE(n lo hi:Int):Bool:=decide (lo<=n)&&decide (n<=hi)
def gq{α:Type}(n j:Nat)(F G:Nat->α):List α:=(List.range n).map λi=>if i<j then F i else G i
section
variable {α : Type} {n j : Nat} {F G : Nat → α}
def rp:(gq n j F G).length=n:=by simp[gq]
def nr{i:Nat}(h:i<n)(d:α):((List.range n).map F).getD i d=F i:=by rw[List.getD_eq_getElem?_getD,List.getElem?_map,List.getElem?_range h];rfl
def No{i:Nat}(h:i<n)(d:α):(gq n j F G).getD i d=if i<j then F i else G i:=nr h d
def Dr(h:j<n):(gq n j F G).set j (F j)=gq n (j+1) F G:=by
 apply List.ext_getElem?;intro i;by_cases hi:i<n
 ·by_cases e:j=i;·subst e;rw[List.getElem?_set_self (by rw[rp];exact h)];simp[gq,List.getElem?_map,List.getElem?_range h]
  ·rw[List.getElem?_set_ne e];simp only[gq,List.getElem?_map,List.getElem?_range hi,Option.map_some];by_cases h1:i<j;·rw[if_pos h1,if_pos (by omega)]
   ·rw[if_neg h1,if_neg (by omega)]
 ·rw[List.getElem?_eq_none (by rw[List.length_set,rp];omega),List.getElem?_eq_none (by rw[rp];omega)]
def Ds:gq n 0 F G=(List.range n).map G:=by simp[gq]
def Dt:gq n n F G=(List.range n).map F:=by unfold gq;apply List.map_congr_left;intro i hi;rw[if_pos (List.mem_range.1 hi)]
def rq{l:List α}(d:α)(h:l.length=n):(List.range n).map (λi=>l.getD i d)=l:=by
 apply List.ext_getElem?;intro i;by_cases hi:i<n;·rw[List.getElem?_map,List.getElem?_range hi,Option.map_some,List.getD_eq_getElem?_getD,List.getElem?_eq_getElem (by omega),Option.getD_some]
 ·rw[List.getElem?_eq_none (by simp;omega),List.getElem?_eq_none (by omega)]
end
def Du(x y:Int)(n:Nat)(hy:y=(n:Int))(hn:n<2147483648):0<=fC .and .i64 x y/\fC .and .i64 x y<=n:=by
 subst hy;have e:fC .and .i64 x (n:Int)=IntKind.i64.wrap ((BitVec.ofInt 64 x &&& BitVec.ofInt 64 (n:Int)).toNat:Int):=rfl;have h1:(BitVec.ofInt 64 x &&& BitVec.ofInt 64 (n:Int)).toNat<=n:=by rw[BitVec.toNat_and];refine Nat.le_trans Nat.and_le_right ?_;rw[BitVec.toNat_ofInt];omega
 rw[e];generalize(BitVec.ofInt 64 x &&& BitVec.ofInt 64 (n:Int)).toNat=k at h1;have:IntKind.i64.wrap (k:Int)=(k:Int):=by simp[IntKind.wrap,IntKind.bits,IntKind.signed];omega
 rw[this];omega
def b8(b:List Int)(r:Int×Int):Bool:=decide (0<=r.1)&&(decide (r.1<=(b.length:Int))&&decide (b.length<=maxLen))
def yK{b:List Int}{r:Int×Int}:b8 b r=true↔0<=r.1/\r.1<=(b.length:Int)/\b.length<=maxLen:=by simp[b8]
def oM(m:Int×Int×List Int)(i j:Int):Bool:=decide (0<=i)&&(decide (0<=j)&&(decide (0<=m.1)&&decide (i*m.1+j<(m.2.2.length:Int))))
def oN(m:Int×Int×List Int)(i j:Int):Int:=m.2.2.getD (i*m.1+j).toNat 0
def Dv{m:Int×Int×List Int}{i j:Int}(hl:m.2.2.length<=maxLen)(h:oM m i j=true):ac (ac (i*m.1)+j)=i*m.1+j/\0<=i*m.1+j/\i*m.1+j<(m.2.2.length:Int):=by simp only[oM,Bool.and_eq_true,decide_eq_true_eq]at h;obtain⟨h1,h2,h3,h4⟩:=h;have h5:0<=i*m.1:=Int.mul_nonneg h1 h3;rw[bn]at hl;have e:ac (i*m.1)=i*m.1:=aR (by omega) (by omega);rw[e,aR (by omega) (by omega)];exact⟨rfl,by omega,h4⟩
def af(m:Int×Int×List Int)(i j:Nat):Int:=m.2.2.getD (i*m.1.toNat+j) 0
def iS{m:Int×Int×List Int}(h:0<=m.1)(i j:Nat):oN m (i:Int) (j:Int)=af m i j:=by unfold oN af;congr 1;obtain⟨n,hn⟩:=Int.eq_ofNat_of_zero_le h;rw[hn];norm_cast
def aO(m:Int×Int×List Int):Bool:=bE m.1 1 5&&(bE m.2.1 m.1 8&&decide ((m.2.2.length:Int)=m.1*m.2.1))
def lH(l:List Int):Bool:=l.all λx=>bE x (-99) 99
def aX(m:Int×Int×List Int):Bool:=aO m&&lH m.2.2
def dA(a b:Int):Bool:=(decide (0<a) == decide (b<0))&&(decide (a=0) == decide (b=0))
def aP(m:Int×Int×List Int):Bool:=aX m&&(List.range m.1.toNat).all λi=>(List.range m.1.toNat).all λj=>dA (af m i j) (af m j i)
def cO{n lo hi:Int}:bE n lo hi=true↔lo<=n/\n<=hi:=by simp[bE]
def aU{m:Int×Int×List Int}(h:aO m=true):∃n r:Nat,m.1=(n:Int)/\m.2.1=(r:Int)/\1<=n/\n<=5/\n<=r/\r<=8/\m.2.2.length=r*n:=by simp only[aO,Bool.and_eq_true,cO,decide_eq_true_eq]at h;obtain⟨⟨h1,h2⟩,⟨h3,h4⟩,h5⟩:=h;obtain⟨n,hn⟩:=Int.eq_ofNat_of_zero_le (show 0<=m.1 by omega);obtain⟨r,hr⟩:=Int.eq_ofNat_of_zero_le (show 0<=m.2.1 by omega);refine⟨n,r,hn,hr,by omega,by omega,by omega,by omega, ?_⟩;rw[hn,hr,Int.mul_comm]at h5;exact_mod_cast h5
def iT{n r i j:Nat}(hi:i<r)(hj:j<n):i*n+j<r*n:=by have:=Nat.mul_le_mul_right n (show i+1<=r from hi);rw[Nat.add_mul]at this;omega
def iU{m:Int×Int×List Int}(h:aO m=true){i j:Nat}(hi:i<m.2.1.toNat)(hj:j<m.1.toNat):oM m (i:Int) (j:Int)=true:=by obtain⟨n,r,hn,hr,_,_,_,_,hl⟩:=aU h;have:=iT (n:=n) (r:=r) (i:=i) (j:=j) (by omega) (by omega);simp only[oM,Bool.and_eq_true,decide_eq_true_eq,hn,hl];refine⟨by omega,by omega,by omega, ?_⟩;exact_mod_cast this
def Np{l:List Int}(h:lH l=true)(i:Nat):-99<=l.getD i 0/\l.getD i 0<=99:=by
 by_cases hi:i<l.length;·have:=(List.all_eq_true.1 h) _ (bz 0 hi);exact cO.1 this
 ·rw[List.getD_eq_getElem?_getD,List.getElem?_eq_none (by omega),Option.getD_none];omega
def kJ{j n:Nat}(h:j<n):(List.range n).drop j=j::(List.range n).drop (j+1):=by rw[fb 0 (by simpa using h),List.getD_eq_getElem?_getD,List.getElem?_range h,Option.getD_some]
def bC(n:Int):ByteArray:=⟨(Lib.itoa n).toArray⟩
def fW(u:Nat):List Int:=(Lib.decDigits u).reverse.map λb=>(b.toNat:Int)
def Dw{t:Nat}(h:t<10):((UInt8.ofNat (48+t)).toNat:Int)=48+(t:Int):=by rw[UInt8.toNat_ofNat'];omega
def Dx{u:Nat}(h:u<10):fW u=[48+(u:Int)]:=by rw[fW,Lib.decDigits,dif_pos h];simp only[List.reverse_cons,List.reverse_nil,List.nil_append,List.map_cons,List.map_nil];rw[Dw h]
def Dy{u:Nat}(h:¬ u<10):fW u=(48+((u%10:Nat):Int))::fW (u / 10):=by rw[fW,Lib.decDigits,dif_neg h,List.reverse_append];simp only[List.reverse_cons,List.reverse_nil,List.nil_append,List.singleton_append,List.map_cons];rw[Dw (Nat.mod_lt _ (by omega))];rfl
def Dz(l:List UInt8):strOfNums (l.map λb=>(b.toNat:Int))=⟨l.toArray⟩:=by
 unfold strOfNums;rw[List.map_map];congr 2;conv=>rhs;rw[<-List.map_id l]
 apply List.map_congr_left;intro b _;simp
def Nq(u:Nat):strOfNums (fW u).reverse=⟨(Lib.decDigits u).toArray⟩:=by rw[fW,<-List.map_reverse,List.reverse_reverse,Dz]
def Nr(u:Nat):strOfNums (45::(fW u).reverse)=⟨(45::Lib.decDigits u).toArray⟩:=by rw[fW,<-List.map_reverse,List.reverse_reverse];exact Dz (45::Lib.decDigits u)
def DA(k:Int):Int.tmod k 10=if k<0 then -((k.natAbs%10:Nat):Int)else((k.natAbs%10:Nat):Int):=by
 split;·rename_i h;obtain⟨u,rfl⟩:∃u:Nat,k=-(u:Int):=⟨k.natAbs,by omega⟩;rw[Int.neg_tmod,Int.natAbs_neg,Int.natAbs_natCast];rfl
 ·rename_i h;obtain⟨u,rfl⟩:∃u:Nat,k=(u:Int):=⟨k.toNat,by omega⟩;rw[Int.natAbs_natCast];rfl
def Ns(k:Int):Int.tdiv k 10=if k<0 then -((k.natAbs / 10:Nat):Int)else((k.natAbs / 10:Nat):Int):=by
 split;·rename_i h;obtain⟨u,rfl⟩:∃u:Nat,k=-(u:Int):=⟨k.natAbs,by omega⟩;rw[Int.neg_tdiv,Int.natAbs_neg,Int.natAbs_natCast];rfl
 ·rename_i h;obtain⟨u,rfl⟩:∃u:Nat,k=(u:Int):=⟨k.toNat,by omega⟩;rw[Int.natAbs_natCast];rfl
def DB{n:Int}(h0:0<=n)(h1:n<256):w8 n=n:=by unfold w8;rw[IntKind.wrap_u8];omega
def Nt{k:Int}(h:¬ Int.tmod k 10<0):w8 (ac (48+Int.tmod k 10))=48+((k.natAbs%10:Nat):Int):=by
 have hm:k.natAbs%10<10:=Nat.mod_lt _ (by omega);have e:Int.tmod k 10=((k.natAbs%10:Nat):Int):=by
  rw[DA]at h ⊢;split;·rename_i hk;rw[if_pos hk]at h;omega
  ·rfl
 rw[e,aR (by omega) (by omega),DB (by omega) (by omega)]
def Nu{k:Int}(h:Int.tmod k 10<0):w8 (ac (48+ac (0-Int.tmod k 10)))=48+((k.natAbs%10:Nat):Int):=by
 have hm:k.natAbs%10<10:=Nat.mod_lt _ (by omega);have e:Int.tmod k 10=-((k.natAbs%10:Nat):Int):=by
  rw[DA]at h ⊢;split;·rfl
  ·rename_i hk;rw[if_neg hk]at h;omega
 have e1:ac (0 - -((k.natAbs%10:Nat):Int))=((k.natAbs%10:Nat):Int):=by rw[aR (by omega) (by omega)];omega
 rw[e,e1,aR (by omega) (by omega),DB (by omega) (by omega)]
def yL(k:Int):(Int.tdiv k 10).natAbs=k.natAbs / 10:=by rw[Ns];split<;>omega
def yM(n:Int):(bC n).data.toList=Lib.itoa n:=by simp[bC]
def yN{n:Int}(h:dG n=true):(bC n).size<=21:=by simp only[dG,Bool.and_eq_true,decide_eq_true_eq]at h;have:=Lib.itoa_length_le n h.1 h.2;show(Lib.itoa n).toArray.size<=21;simpa using this
def eD(l:List Int):List UInt8:=Lib.join (l.map Lib.itoa) [32]
def eQ(l:List Int):ByteArray:=⟨(eD l).toArray⟩
def Nw{l:List Int}(h:l≠[])(n:Int):eD (l++[n])=eD l++[32]++Lib.itoa n:=by
 unfold eD Lib.join;cases l with
 |nil=>exact absurd rfl h
 |cons x xs =>
  rw[List.map_append,List.map_cons,List.map_cons,List.map_nil];induction xs generalizing x with
  |nil=>simp[List.intercalate,List.intersperse]
  |cons y ys ih =>have:=ih y (by simp);simp only[List.map_cons,List.cons_append,List.intercalate,List.intersperse,List.flatten_cons,List.append_assoc]at this ⊢;rw[this]
def Nx(n:Int):eD [n]=Lib.itoa n:=by simp[eD,Lib.join,List.intercalate]
def Ny:eD []=[]:=rfl
def DD{l:List Int}(h:l.all dG=true):(eD l).length<=22*l.length:=by
 have key:∀j,j<=l.length->(eD (l.take j)).length<=22*j:=by
  intro j;induction j with
  |zero=>intro _;simp[Ny]
  |succ j ih =>
   intro hj;have h2:dG (l.getD j 0)=true:=List.all_eq_true.1 h _ (bz 0 hj);have hn:(Lib.itoa (l.getD j 0)).length<=21:=by simp only[dG,Bool.and_eq_true,decide_eq_true_eq]at h2;exact Lib.itoa_length_le _ h2.1 h2.2
   have:=ih (by omega);rw[<-rc 0 hj];by_cases he:l.take j=[];·rw[he,List.nil_append,Nx];omega
   ·rw[Nw he];simp only[List.length_append,List.length_cons,List.length_nil];omega
 have:=key l.length (Nat.le_refl _);rwa [List.take_length]at this
def lI(l:List Int):Bool:=decide (l.length<=2097152)&&l.all dG
def DE{B:Nat}{sep:List UInt8}:∀{xs:List (List UInt8)},(∀x∈xs,x.length<=B)->(Lib.join xs sep).length<=(B+sep.length)*xs.length
 |[],_=>by simp[Lib.join_nil]
 |y::ys,h=>by
  have hy:=h y (List.mem_cons_self ..);have ht:∀(zs:List (List UInt8)),(∀z∈zs,z.length<=B)->(Lib.joinTail sep zs).length<=(B+sep.length)*zs.length:=by
   intro zs;induction zs with
   |nil=>intro _;simp[Lib.joinTail]
   |cons z zs ih =>
    intro hz;have h1:=hz z (List.mem_cons_self ..);have h2:=ih λx hx=>hz x (List.mem_cons_of_mem _ hx);have e:(Lib.joinTail sep (z::zs)).length=sep.length+z.length+(Lib.joinTail sep zs).length:=by simp[Lib.joinTail,List.length_append];omega
    rw[e,List.length_cons,Nat.mul_succ];omega
  have:=ht ys λx hx=>h x (List.mem_cons_of_mem _ hx);rw[Lib.join_cons,List.length_append,List.length_cons,Nat.mul_succ];omega
def eE(l:List UInt8):ByteArray:=⟨l.toArray⟩
def Nz(l:List UInt8):(eE l).size=l.length:=by simp[eE,ByteArray.size]
def cq:List Int->Nat
 |[]=>0
 |x::xs=>Nat.gcd x.natAbs (cq xs)
def NA(l m:List Int):cq (l++m)=Nat.gcd (cq l) (cq m):=by
 induction l with
 |nil=>simp[cq]
 |cons x xs ih=>rw[List.cons_append,cq,ih,cq,Nat.gcd_assoc]
def t7(c:Int)(l:List Int):cq (l.map λx=>c*x)=c.natAbs*cq l:=by
 induction l with
 |nil=>simp[cq]
 |cons x xs ih=>rw[List.map_cons,cq,ih,cq,Int.natAbs_mul,Nat.gcd_mul_left]
def t8{l:List Int}{x:Int}(h:x∈l):((cq l:Nat):Int)∣x:=by
 induction l with
 |nil=>cases h
 |cons y ys ih =>
  rw[cq];rcases List.mem_cons.1 h with e|e;·subst e;exact Int.ofNat_dvd_left.2 (Nat.gcd_dvd_left _ _)
  ·exact Int.dvd_trans (Int.natCast_dvd_natCast.2 (Nat.gcd_dvd_right _ _)) (ih e)
def da(n:Nat)(A:Nat->Nat->Int)(d:Nat->Int):Prop:=∀i,i<n->0<d i/\∀j,j<n->d i*A i j=-(d j*A j i)
def lJ(n:Nat)(A:Nat->Nat->Int)(d:Nat->Int):Prop:=∀i,i<n->∃L:List Nat,(∀k∈L,k<n)/\cq (L.map d)=1/\∀e,da n A e->∀k∈L,d i*e k=d k*e i
def DF{n:Nat}{A:Nat->Nat->Int}{d e:Nat->Int}(hd:da n A d)(he:da n A e)(pd:lJ n A d){i:Nat}(hi:i<n):d i∣e i:=by
 obtain⟨L,h1,h2,h3⟩:=pd i hi;have h4:(L.map d).map (λx=>e i*x)=(L.map e).map (λx=>d i*x):=by rw[List.map_map,List.map_map];apply List.map_congr_left;intro k hk;show e i*d k=d i*e k;rw[h3 e he k hk,Int.mul_comm]
 have h5:(e i).natAbs*1=(d i).natAbs*cq (L.map e):=by rw[<-h2,<-t7,<-t7,h4]
 exact Int.natAbs_dvd_natAbs.1 ⟨cq (L.map e),by rw[<-h5,Nat.mul_one]⟩
def NB{n:Nat}{A:Nat->Nat->Int}{d e:Nat->Int}(hd:da n A d)(he:da n A e)(pd:lJ n A d)(pe:lJ n A e){i:Nat}(hi:i<n):d i=e i:=by have h1:=DF hd he pd hi;have h2:=DF he hd pe hi;have:=(hd i hi).1;have:=(he i hi).1;exact Int.dvd_antisymm (by omega) (by omega) h1 h2
def ua{n:Nat}{A:Nat->Nat->Int}{e:Nat->Int}(he:da n A e){i j:Nat}(hi:i<n)(hj:j<n)(h:A i j=0):A j i=0:=by
 have h1:=(he i hi).2 j hj;rw[h,Int.mul_zero]at h1;have h2:e j*A j i=0:=by omega
 rcases Int.mul_eq_zero.1 h2 with h3|h3;·have:=(he j hj).1;omega
 ·exact h3
def DG{a b e f p q:Int}(he:0<e)(hf:0<f)(h:a*f=b*e)(hg:e*p=-(f*q)):a*p=-(b*q):=by
 have h1:f*(a*p)=f*(-(b*q)):=by
  calc f*(a*p)=(a*f)*p:=by rw[<-Int.mul_assoc,Int.mul_comm f a]
   _=b*(e*p):=by rw[h,Int.mul_assoc]
   _=f*(-(b*q)):=by rw[hg,Int.mul_neg,Int.mul_neg,Int.mul_left_comm]
 exact Int.eq_of_mul_eq_mul_left (by omega) h1
def NC{a b e f p q:Int}(hp:p≠0)(he:0<e)(h:a*p=-(b*q))(hg:e*p=-(f*q))(hq:q≠0):a*f=b*e:=by
 have h1:q*(a*f)=q*(b*e):=by
  calc q*(a*f)=a*(f*q):=by rw[Int.mul_left_comm,Int.mul_comm q f]
   _=a * -(e*p):=by rw[hg,Int.neg_neg]
   _=e*(-(a*p)):=by rw[Int.mul_neg,Int.mul_neg,Int.mul_left_comm]
   _=q*(b*e):=by rw[h,Int.neg_neg,Int.mul_left_comm,Int.mul_comm e q,Int.mul_left_comm]
 exact Int.eq_of_mul_eq_mul_left hq h1
def DH{a b c e f g:Int}(hf:f≠0)(h1:a*f=b*e)(h2:b*g=c*f):a*g=c*e:=by
 have h3:f*(a*g)=f*(c*e):=by
  calc f*(a*g)=(a*f)*g:=by rw[<-Int.mul_assoc,Int.mul_comm f a]
   _=e*(b*g):=by rw[h1,Int.mul_comm b e,Int.mul_assoc]
   _=f*(c*e):=by rw[h2,Int.mul_left_comm,Int.mul_comm e f,Int.mul_left_comm]
 exact Int.eq_of_mul_eq_mul_left hf h3
open Classical in
def ba(m:Int×Int×List Int):List Int :=
 if h:∃l:List Int,l.length=m.1.toNat/\da m.1.toNat (af m) (λi=>l.getD i 0)/\lJ m.1.toNat (af m) (λi=>l.getD i 0)then Classical.choose h else[]
def yP{m:Int×Int×List Int}{l:List Int}(h1:l.length=m.1.toNat)(h2:da m.1.toNat (af m) (λi=>l.getD i 0))(h3:lJ m.1.toNat (af m) (λi=>l.getD i 0)):ba m=l:=by
 have h:∃l:List Int,l.length=m.1.toNat/\da m.1.toNat (af m) (λi=>l.getD i 0)/\lJ m.1.toNat (af m) (λi=>l.getD i 0):=⟨l,h1,h2,h3⟩;have hc:=Classical.choose_spec h;rw[ba,dif_pos h];generalize Classical.choose h=c at hc;obtain⟨c1,c2,c3⟩:=hc;apply List.ext_getElem?;intro i;by_cases hi:i<m.1.toNat;·have:=NB c2 h2 c3 h3 hi;simp only[List.getD_eq_getElem?_getD]at this;rw[List.getElem?_eq_getElem (by omega),List.getElem?_eq_getElem (by omega)]at this ⊢;simpa using this
 ·rw[List.getElem?_eq_none (by omega),List.getElem?_eq_none (by omega)]
def DI{m:Int×Int×List Int}(h:¬ ∃e,da m.1.toNat (af m) e):ba m=[]:=by
 rw[ba,dif_neg];rintro ⟨l,_,h2,_⟩
 exact h ⟨_,h2⟩
def ub{m:Int×Int×List Int}(h:ba m≠[]):(ba m).length=m.1.toNat/\da m.1.toNat (af m) (λi=>(ba m).getD i 0)/\lJ m.1.toNat (af m) (λi=>(ba m).getD i 0):=by
 by_cases hx:∃l:List Int,l.length=m.1.toNat/\da m.1.toNat (af m) (λi=>l.getD i 0)/\lJ m.1.toNat (af m) (λi=>l.getD i 0)
 ·have:ba m=Classical.choose hx:=by rw[ba,dif_pos hx]
  rw[this];exact Classical.choose_spec hx
 ·exact absurd (by rw[ba,dif_neg hx]) h
def oO{n:Nat}{A:Nat->Nat->Int}{e:Nat->Int}(he:da n A e){i j:Nat}(hi:i<n)(hj:j<n):dA (A i j) (A j i)=true:=by
 have h1:=(he i hi).2 j hj;have h2:=(he i hi).1;have h3:=(he j hj).1;have e1:decide (0<A i j)=decide (A j i<0):=by
  rw[decide_eq_decide];constructor
  ·intro h;have:=Int.mul_pos h2 h;rcases Int.lt_or_le (A j i) 0 with h4|h4;·exact h4
   ·have:=Int.mul_nonneg (Int.le_of_lt h3) h4;omega
  ·intro h;have:=Int.mul_neg_of_pos_of_neg h3 h;rcases Int.lt_or_le 0 (A i j)with h4|h4;·exact h4
   ·have:=Int.mul_nonpos_of_nonneg_of_nonpos (Int.le_of_lt h2) h4;omega
 have e2:decide (A i j=0)=decide (A j i=0):=by rw[decide_eq_decide];exact⟨ua he hi hj,ua he hj hi⟩
 rw[dA,e1,e2];simp
def ND{m:Int×Int×List Int}(hs:aX m=true)(h:ba m≠[]):aP m=true:=by obtain⟨h1,h2,h3⟩:=ub h;rw[aP,hs,Bool.true_and,List.all_eq_true];intro i hi;rw[List.all_eq_true];intro j hj;exact oO h2 (List.mem_range.1 hi) (List.mem_range.1 hj)
def an(l:List Nat):List Int:=l.map λ(x:Nat)=>(x:Int)
def bv(l:List Nat):(an l).length=l.length:=by simp[an]
def fc(l:List Nat)(k:Nat):(an l).getD k 0=((l.getD k 0:Nat):Int):=by simp only[an,List.getD_eq_getElem?_getD,List.getElem?_map];cases l[k]?<;>rfl
def ru(l:List Nat)(x:Nat):an l++[(x:Int)]=an (l++[x]):=by simp[an]
def DJ{l:List Nat}{x:Nat}:((x:Int)∈an l)↔x∈l:=by
 simp only[an,List.mem_map];constructor
 ·rintro ⟨a,h1,h2⟩
  rwa [<-Int.ofNat.inj h2]
 ·exact λh=>⟨x,h,rfl⟩
def oP:∀(n:Nat) (l:List Nat),l.Nodup->(∀x∈l,x<n)->l.length<=n
 |0,l,_,h=>by
  cases l with
  |nil=>simp
  |cons x xs=>exact absurd (h x (by simp)) (by omega)
 |n+1,l,hn,h=>by have:=oP n (l.erase n) (hn.erase n) (λx hx=>by have h1:=(hn.mem_erase_iff).1 hx;have:=h x h1.2;omega);rw[List.length_erase]at this;split at this<;>omega
def gV(A:Nat->Nat->Int)(x:Nat):List Nat->List Nat×List Nat->List Nat×List Nat
 |[],s=>s
 |j::js,s=>gV A x js (if A x j≠0/\j∉s.1 then(s.1++[j],s.2++[x])else s)
def iV(A:Nat->Nat->Int)(n:Nat):Nat->Nat->List Nat×List Nat->List Nat×List Nat
 |0,_,s=>s
 |f+1,p,s=>if p<s.1.length then iV A n f (p+1) (gV A (s.1.getD p 0) (List.range n) s)else s
def cP(m:Int×Int×List Int)(i:Nat):List Nat×List Nat:=iV (af m) m.1.toNat m.1.toNat 0 ([i],[i])
structure dI(n:Nat)(A:Nat->Nat->Int)(i:Nat)(s:List Nat×List Nat):Prop where
 nd:s.1.Nodup
 lt:∀x∈s.1,x<n
 len:s.2.length=s.1.length
 hd:s.1.getD 0 0=i
 pos:0<s.1.length
 src:∀k,1<=k->k<s.1.length->∃k',k'<k/\s.2.getD k 0=s.1.getD k' 0/\A (s.2.getD k 0) (s.1.getD k 0)≠0
def dI.le{n:Nat}{A:Nat->Nat->Int}{i:Nat}{s:List Nat×List Nat}(h:dI n A i s):s.1.length<=n:=oP n s.1 h.nd h.lt
def jH{α:Type}{l m:List α}{k:Nat}{d:α}(h:k<l.length):(l++m).getD k d=l.getD k d:=by simp only[List.getD_eq_getElem?_getD];rw[List.getElem?_append_left h]
def yQ{α:Type}{l:List α}{x d:α}{k:Nat}(h:k=l.length):(l++[x]).getD k d=x:=by subst h;simp[List.getD_eq_getElem?_getD]
def dI.step{n:Nat}{A:Nat->Nat->Int}{i p j:Nat}{s:List Nat×List Nat}(h:dI n A i s)(hp:p<s.1.length)(hj:j<n)(ha:A (s.1.getD p 0) j≠0/\j∉s.1):dI n A i (s.1++[j],s.2++[s.1.getD p 0]):=by
 refine⟨?_, ?_, ?_, ?_, ?_, ?_⟩;·exact List.nodup_append.2 ⟨h.nd,by simp,λa ha' b hb e=>by rw[List.mem_singleton]at hb;subst hb;subst e;exact ha.2 ha'⟩
 ·intro x hx;rcases List.mem_append.1 hx with hx|hx;·exact h.lt x hx
  ·rw[List.mem_singleton]at hx;omega
 ·simp[h.len]
 ·exact(jH h.pos).trans h.hd
 ·simp
 ·intro k h1 h2;simp only[List.length_append,List.length_cons,List.length_nil]at h2;by_cases hk:k<s.1.length
  ·obtain⟨k',h3,h4,h5⟩:=h.src k h1 hk;refine⟨k',h3, ?_, ?_⟩;·show(s.2++_).getD k 0=(s.1++_).getD k' 0;rw[jH (by rw[h.len];exact hk),jH (by omega),h4]
   ·show A ((s.2++_).getD k 0) ((s.1++_).getD k 0)≠0;rw[jH (by rw[h.len];exact hk),jH hk];exact h5
  ·have e:k=s.1.length:=by omega
   refine⟨p,by omega, ?_, ?_⟩;·show(s.2++_).getD k 0=(s.1++_).getD p 0;rw[yQ (by rw[h.len];exact e),jH hp]
   ·show A ((s.2++_).getD k 0) ((s.1++_).getD k 0)≠0;rw[yQ (by rw[h.len];exact e),yQ e];exact ha.1
def nu(s t:List Nat×List Nat):Prop:=∃u,t.1=s.1++u
def nu.getD{s t:List Nat×List Nat}(h:nu s t){k:Nat}(hk:k<s.1.length):t.1.getD k 0=s.1.getD k 0:=by obtain⟨u,h⟩:=h;rw[h,jH hk]
def nu.len{s t:List Nat×List Nat}(h:nu s t):s.1.length<=t.1.length:=by obtain⟨u,h⟩:=h;rw[h];simp
def nu.mem{s t:List Nat×List Nat}(h:nu s t){x:Nat}(hx:x∈s.1):x∈t.1:=by obtain⟨u,h⟩:=h;rw[h];exact List.mem_append_left _ hx
def uc{n:Nat}{A:Nat->Nat->Int}{i p:Nat}:∀(js:List Nat) (s:List Nat×List Nat),dI n A i s->p<s.1.length->(∀j∈js,j<n) ->
  dI n A i (gV A (s.1.getD p 0) js s)/\nu s (gV A (s.1.getD p 0) js s)/\∀j∈js,A (s.1.getD p 0) j≠0->j∈(gV A (s.1.getD p 0) js s).1
 |[],s,h,_,_=>⟨h,⟨[],by simp[gV]⟩,λj hj=>by cases hj⟩
 |j::js,s,h,hp,hl=>by
  by_cases ha:A (s.1.getD p 0) j≠0/\j∉s.1
  ·have e:(s.1++[j]).getD p 0=s.1.getD p 0:=jH hp;have:=uc (p:=p) js (s.1++[j],s.2++[s.1.getD p 0]) (h.step hp (hl j (by simp)) ha) (by simp;omega) (λx hx=>hl x (by simp[hx]));simp only[e]at this;obtain⟨h1,⟨u,h2⟩,h3⟩:=this;rw[gV,if_pos ha];refine⟨h1,⟨[j]++u,by rw[h2];simp⟩,λx hx hax=>?_⟩;rcases List.mem_cons.1 hx with hx|hx;·subst hx;rw[h2];simp
   ·exact h3 x hx hax
  ·have:=uc (p:=p) js s h hp (λx hx=>hl x (by simp[hx]));obtain⟨h1,h2,h3⟩:=this;rw[gV,if_neg ha];refine⟨h1,h2,λx hx hax=>?_⟩;rcases List.mem_cons.1 hx with hx|hx;·subst hx;exact h2.mem (Classical.byContradiction λhc=>ha ⟨hax,hc⟩)
   ·exact h3 x hx hax
def DK{n:Nat}{A:Nat->Nat->Int}{i:Nat}:∀(f p:Nat) (s:List Nat×List Nat),dI n A i s->n<=f+p->p<=s.1.length->(∀k,k<p->∀j,j<n->A (s.1.getD k 0) j≠0->j∈s.1) ->
  dI n A i (iV A n f p s)/\∀x∈(iV A n f p s).1,∀j,j<n->A x j≠0->j∈(iV A n f p s).1
 |0,p,s,h,hf,hp,hc=>⟨h,λx hx j hj ha=>by change x∈s.1 at hx;show j∈s.1;obtain⟨k,hk,rfl⟩:=List.getElem_of_mem hx;have:=h.le;refine hc k (by omega) j hj ?_;rw[List.getD_eq_getElem?_getD,List.getElem?_eq_getElem hk];exact ha⟩
 |f+1,p,s,h,hf,hp,hc=>by
  rw[iV];by_cases hlt:p<s.1.length
  ·rw[if_pos hlt];obtain⟨h1,h2,h3⟩:=uc (p:=p) (List.range n) s h hlt (λx hx=>List.mem_range.1 hx);refine DK f (p+1) _ h1 (by omega) (by have:=h2.len;omega) ?_;intro k hk j hj ha;by_cases e:k=p;·subst e;rw[h2.getD hlt]at ha;exact h3 j (List.mem_range.2 hj) ha
   ·rw[h2.getD (by omega)]at ha;exact h2.mem (hc k (by omega) j hj ha)
  ·rw[if_neg hlt];refine⟨h,λx hx j hj ha=>?_⟩;obtain⟨k,hk,rfl⟩:=List.getElem_of_mem hx;refine hc k (by omega) j hj ?_;rw[List.getD_eq_getElem?_getD,List.getElem?_eq_getElem hk];exact ha
def dI.first{n:Nat}{A:Nat->Nat->Int}{i:Nat}(h:i<n):dI n A i ([i],[i]) :=
 ⟨by simp,by simpa using h,rfl,rfl,by simp,λk h1 h2=>by simp at h2;omega⟩
def ud{m:Int×Int×List Int}{i:Nat}(h:i<m.1.toNat):dI m.1.toNat (af m) i (cP m i)/\∀x∈(cP m i).1,∀j,j<m.1.toNat->af m x j≠0->j∈(cP m i).1 :=
 DK m.1.toNat 0 _ (dI.first h) (by omega) (by simp) (λk hk=>by omega)
def cU{α:Type}{l:List α}{x y:Nat}{v d:α}(h:x<l.length):(l.set x v).getD y d=if x=y then v else l.getD y d:=by
 by_cases e:x=y;·subst e;rw[if_pos rfl,MU h]
 ·rw[if_neg e,List.getD_eq_getElem?_getD,List.getElem?_set_ne e,List.getD_eq_getElem?_getD]
def lK{l:List Nat}(h:l.Nodup){a b:Nat}(ha:a<l.length)(hb:b<l.length)(e:l.getD a 0=l.getD b 0):a=b:=by
 rw[List.getD_eq_getElem?_getD,List.getD_eq_getElem?_getD,List.getElem?_eq_getElem ha,List.getElem?_eq_getElem hb,Option.getD_some,Option.getD_some]at e;rcases Nat.lt_trichotomy a b with h1|h1|h1;·exact absurd e (List.pairwise_iff_getElem.1 h a b ha hb h1)
 ·exact h1
 ·exact absurd e.symm (List.pairwise_iff_getElem.1 h b a hb ha h1)
def nv{l:List Nat}{x:Nat}(h:x∈l):∃k,k<l.length/\l.getD k 0=x:=by obtain⟨k,hk,rfl⟩:=List.getElem_of_mem h;exact⟨k,hk,by rw[List.getD_eq_getElem?_getD,List.getElem?_eq_getElem hk,Option.getD_some]⟩
def DL{α:Type}(l:List Nat)(f:Nat->α):(List.range l.length).map (λt=>f (l.getD t 0))=l.map f:=by
 have:=rq (n:=l.length) (l:=l) 0 rfl;conv=>rhs;rw[<-this]
 rw[List.map_map];rfl
def aS(a:Int):Int:=(a.natAbs:Int)
def oQ{a:Int}(h:a≠0):0<aS a:=by unfold aS;omega
def oR{a:Int}(h:-99<=a/\a<=99):aS a<=99:=by unfold aS;omega
def DM{e f p q:Int}(he:0<e)(hf:0<f)(h:e*p=-(f*q)):e*aS p=f*aS q:=by
 have h1:(e*p).natAbs=(f*q).natAbs:=by rw[h,Int.natAbs_neg]
 rw[Int.natAbs_mul,Int.natAbs_mul]at h1;have:((e.natAbs*p.natAbs:Nat):Int)=((f.natAbs*q.natAbs:Nat):Int):=by rw[h1]
 rw[Int.natCast_mul,Int.natCast_mul,Int.natAbs_of_nonneg (Int.le_of_lt he),Int.natAbs_of_nonneg (Int.le_of_lt hf)]at this;exact this
def dH(q:Nat->Int):Nat->Int
 |0=>1
 |k+1=>dH q k*q k
def NE(q:Nat->Int){a b:Nat}(h:a<=b):dH q a∣dH q b:=by
 induction b with
 |zero=>rw[show a=0 by omega];exact Int.dvd_refl _
 |succ b ih =>
  by_cases e:a=b+1;·subst e;exact Int.dvd_refl _
  ·exact Int.dvd_trans (ih (by omega)) ⟨q b,rfl⟩
def rz{q:Nat->Int}{n:Nat}(h:∀k,k<n->0<q k/\q k<=99):∀k,k<=n->0<dH q k/\dH q k<=99 ^ k
 |0,_=>by simp[dH]
 |k+1,hk=>by obtain⟨h1,h2⟩:=rz h k (by omega);obtain⟨h3,h4⟩:=h k (by omega);refine⟨Int.mul_pos h1 h3, ?_⟩;rw[Int.pow_succ];exact Int.mul_le_mul h2 h4 (by omega) (Int.pow_nonneg (by omega))
def rA{k:Nat}(h:k<=8):(99:Int) ^ k<=9227446944279201:=by
 have h1:99 ^ k<=99 ^ 8:=Nat.pow_le_pow_right (by omega) h;have h2:(99:Int) ^ k=((99 ^ k:Nat):Int):=by rw[Int.natCast_pow];rfl
 rw[h2];omega
def NF{H D Hk q p a:Int}(hH:0<Hk)(hq:0<q)(hp:0<p)(ha:0<a)(h1:Hk*q∣D)(h2:D∣a*Hk) :
  (Int.tdiv (a*p) q)*q=a*p/\0<Int.tdiv (a*p) q/\D∣Int.tdiv (a*p) q*(Hk*q):=by
 obtain⟨R,hR⟩:=h1;obtain⟨c,hc⟩:=h2;have e:a=q*(R*c):=by
  have:Hk*a=Hk*(q*(R*c)):=by rw[Int.mul_comm Hk a,hc,hR,<-Int.mul_assoc Hk q,Int.mul_assoc]
  exact Int.eq_of_mul_eq_mul_left (by omega) this
 have e2:Int.tdiv (a*p) q=R*c*p:=by rw[e,Int.mul_assoc,Int.mul_tdiv_cancel_left _ (by omega)]
 rw[e2];refine⟨by rw[e,Int.mul_comm (R*c*p) q,Int.mul_assoc q], ?_, ?_⟩
 ·have h3:0<q*(R*c*p):=by rw[<-Int.mul_assoc,<-e];exact Int.mul_pos ha hp
  rcases Int.lt_or_le 0 (R*c*p)with h|h;·exact h
  ·have:=Int.mul_nonpos_of_nonneg_of_nonpos (Int.le_of_lt hq) h;omega
 ·refine⟨c*p, ?_⟩;rw[hR,Int.mul_comm (R*c*p),Int.mul_assoc,Int.mul_assoc,Int.mul_assoc,Int.mul_assoc]
def DN(g:Nat)(l:List Int)(x:Int)(hx:0<=x)(hg:g=cq l):(Int.gcd (g:Int) x:Int)=((cq (l++[x]):Nat):Int):=by subst hg;rw[NA,cq,cq,Nat.gcd_zero_right];rfl
def qK(m:Int×Int×List Int)(s:List Nat×List Nat)(k:Nat):Int:=if k=0 then 1 else aS (af m (s.1.getD k 0) (s.2.getD k 0))
def pK(m:Int×Int×List Int)(s:List Nat×List Nat)(k:Nat):Int:=aS (af m (s.2.getD k 0) (s.1.getD k 0))
def ue{m:Int×Int×List Int}(h:aP m=true){i j:Nat}(hi:i<m.1.toNat)(hj:j<m.1.toNat):af m i j=0↔af m j i=0:=by rw[aP,Bool.and_eq_true,List.all_eq_true]at h;have h1:=List.all_eq_true.1 (h.2 i (List.mem_range.2 hi)) j (List.mem_range.2 hj);rw[dA,Bool.and_eq_true]at h1;have h2:=h1.2;rw[beq_iff_eq,decide_eq_decide]at h2;exact h2
def fX{m:Int×Int×List Int}(h:aX m=true)(i j:Nat):-99<=af m i j/\af m i j<=99:=by rw[aX,Bool.and_eq_true]at h;exact Np h.2 _
def cX{m:Int×Int×List Int}(h:aP m=true):aX m=true:=by rw[aP,Bool.and_eq_true]at h;exact h.1
def cI{m:Int×Int×List Int}(h:aX m=true):aO m=true:=by rw[aX,Bool.and_eq_true]at h;exact h.1
def rB{n:Nat}{A:Nat->Nat->Int}{i:Nat}{s:List Nat×List Nat}(h:dI n A i s){k:Nat}(h1:1<=k)(h2:k<s.1.length):s.2.getD k 0<n:=by obtain⟨k',h3,h4,h5⟩:=h.src k h1 h2;rw[h4];exact h.lt _ (bz 0 (by omega))
def uf{m:Int×Int×List Int}(hs:aP m=true){i:Nat}{s:List Nat×List Nat}(h:dI m.1.toNat (af m) i s){k:Nat}(h1:1<=k)(h2:k<s.1.length) :
  (0<qK m s k/\qK m s k<=99)/\(0<pK m s k/\pK m s k<=99):=by
 obtain⟨k',h3,h4,h5⟩:=h.src k h1 h2;have h6:af m (s.1.getD k 0) (s.2.getD k 0)≠0:=λe=>h5 ((ue hs (h.lt _ (bz 0 h2)) (rB h h1 h2)).1 e);have hb:=cX hs;rw[qK,if_neg (by omega),pK];exact⟨⟨oQ h6,oR (fX hb _ _)⟩,⟨oQ h5,oR (fX hb _ _)⟩⟩
def rC{m:Int×Int×List Int}(hs:aP m=true){i:Nat}{s:List Nat×List Nat}(h:dI m.1.toNat (af m) i s)(k:Nat)(h2:k<s.1.length):0<qK m s k/\qK m s k<=99:=by
 by_cases e:k=0;·subst e;rw[qK,if_pos rfl];omega
 ·exact(uf hs h (by omega) h2).1
structure T2(m:Int×Int×List Int)(s:List Nat×List Nat)(d0:List Int)(k:Nat)(d:List Int)(g:Int):Prop where
 len:d.length=m.1.toNat
 out:∀x,x<m.1.toNat->(∀k',k'<k->x≠s.1.getD k' 0)->d.getD x 0=d0.getD x 0
 val:∀k',k'<k->0<d.getD (s.1.getD k' 0) 0/\d.getD (s.1.getD k' 0) 0<=99 ^ (4+k')/\dH (qK m s) s.1.length∣d.getD (s.1.getD k' 0) 0*dH (qK m s) k
 tree:∀k',1<=k'->k'<k->d.getD (s.1.getD k' 0) 0*qK m s k'=d.getD (s.2.getD k' 0) 0*pK m s k'
 gcd:g=((cq ((List.range k).map λt=>d.getD (s.1.getD t 0) 0):Nat):Int)
def T2.step{m:Int×Int×List Int}{s:List Nat×List Nat}{d0 d:List Int}{g:Int}{i k:Nat}(hs:aP m=true)(h:dI m.1.toNat (af m) i s)(hn:m.1.toNat<=5)(h1:1<=k)(h2:k<s.1.length)(ht:T2 m s d0 k d g) :
  (0<d.getD (s.2.getD k 0) 0*pK m s k/\d.getD (s.2.getD k 0) 0*pK m s k<=9227446944279201) /\
  (0<Int.tdiv (d.getD (s.2.getD k 0) 0*pK m s k) (qK m s k)/\Int.tdiv (d.getD (s.2.getD k 0) 0*pK m s k) (qK m s k)<=9227446944279201) /\
  T2 m s d0 (k+1) (d.set (s.1.getD k 0) (Int.tdiv (d.getD (s.2.getD k 0) 0*pK m s k) (qK m s k))) (Int.gcd g (Int.tdiv (d.getD (s.2.getD k 0) 0*pK m s k) (qK m s k))):=by
 obtain⟨⟨hq,hq9⟩,hp,hp9⟩:=uf hs h h1 h2;obtain⟨k',h3,h4,h5⟩:=h.src k h1 h2;obtain⟨a1,a2,a3⟩:=ht.val k' h3;have hle:=h.le;rw[<-h4]at a1 a2 a3;have hH:=(rz (rC hs h) k (by omega)).1;have hx:s.1.getD k 0<d.length:=by rw[ht.len];exact h.lt _ (bz 0 h2)
 have hdv:dH (qK m s) k*qK m s k∣dH (qK m s) s.1.length:=NE (qK m s) (show k+1<=s.1.length from h2);obtain⟨b1,b2,b3⟩:=NF (H:=0) hH hq hp a1 hdv a3;have hb:d.getD (s.2.getD k 0) 0*pK m s k<=99 ^ (4+k):=by have:d.getD (s.2.getD k 0) 0*pK m s k<=99 ^ (4+k')*99:=Int.mul_le_mul a2 hp9 (by omega) (Int.pow_nonneg (by omega));rw[<-Int.pow_succ]at this;refine Int.le_trans this ?_;have h6:99 ^ (4+k'+1)<=99 ^ (4+k):=Nat.pow_le_pow_right (by omega) (by omega);exact_mod_cast h6
 have hp8:=rA (k:=4+k) (by omega);generalize hv:Int.tdiv (d.getD (s.2.getD k 0) 0*pK m s k) (qK m s k)=v at b1 b2 b3;have hvle:v<=d.getD (s.2.getD k 0) 0*pK m s k:=by rw[<-b1];have:=Int.mul_le_mul_of_nonneg_left (show(1:Int)<=qK m s k by omega) (Int.le_of_lt b2);omega
 have hne:∀t,t<k->s.1.getD k 0≠s.1.getD t 0:=λt ht' e=>by have:=lK h.nd h2 (by omega) e;omega
 have hget:∀t,t<k->(d.set (s.1.getD k 0) v).getD (s.1.getD t 0) 0=d.getD (s.1.getD t 0) 0:=λt ht'=>by rw[cU hx,if_neg (hne t ht')]
 have hself:(d.set (s.1.getD k 0) v).getD (s.1.getD k 0) 0=v:=by rw[cU hx,if_pos rfl]
 refine⟨⟨Int.mul_pos a1 hp,by omega⟩,⟨b2,by omega⟩,⟨?_, ?_, ?_, ?_, ?_⟩⟩;·rw[List.length_set,ht.len]
 ·intro x hx' hall;rw[cU hx,if_neg (λe=>hall k (by omega) e.symm)];exact ht.out x hx' (λt ht'=>hall t (by omega))
 ·intro t ht';by_cases e:t=k;·subst e;rw[hself];exact⟨b2,by omega,b3⟩
  ·rw[hget t (by omega)];obtain⟨c1,c2,c3⟩:=ht.val t (by omega);refine⟨c1,c2, ?_⟩;rw[dH,<-Int.mul_assoc];exact Int.dvd_trans c3 ⟨_,rfl⟩
 ·intro t ht1 ht2;by_cases e:t=k;·subst e;rw[hself,h4,hget k' h3,<-h4];exact b1
  ·obtain⟨t',c1,c2,_⟩:=h.src t ht1 (by omega);rw[hget t (by omega),c2,hget t' (by omega),<-c2];exact ht.tree t ht1 (by omega)
 ·rw[List.range_succ,List.map_append,List.map_cons,List.map_nil,hself];rw[show(List.range k).map (λt=>(d.set (s.1.getD k 0) v).getD (s.1.getD t 0) 0)=(List.range k).map (λt=>d.getD (s.1.getD t 0) 0)from List.map_congr_left (λt ht'=>hget t (List.mem_range.1 ht'))];rw[ht.gcd];exact DN _ _ v (by omega) rfl
def T2.g_range{m:Int×Int×List Int}{s:List Nat×List Nat}{d0 d:List Int}{g:Int}{k:Nat}(h1:1<=k)(ht:T2 m s d0 k d g):0<g/\g<=9227446944279201:=by
 obtain⟨a1,a2,_⟩:=ht.val 0 (by omega);have hd:g∣d.getD (s.1.getD 0 0) 0:=by rw[ht.gcd];exact t8 (List.mem_map.2 ⟨0,List.mem_range.2 (by omega),rfl⟩)
 have:=Int.le_of_dvd a1 hd;have hp:=rA (k:=4+0) (by omega);refine⟨?_,by omega⟩;rcases Int.lt_or_le 0 g with h|h;·exact h
 ·have h0:0<=g:=by rw[ht.gcd];omega
  have e:g=0:=by omega
  rw[e]at hd;have:=Int.zero_dvd.1 hd;omega
structure T3(m:Int×Int×List Int)(s:List Nat×List Nat)(d2:List Int)(g:Int)(k:Nat)(d:List Int):Prop where
 len:d.length=m.1.toNat
 out:∀x,x<m.1.toNat->(∀k',k'<k->x≠s.1.getD k' 0)->d.getD x 0=d2.getD x 0
 val:∀k',k'<k->d.getD (s.1.getD k' 0) 0=Int.tdiv (d2.getD (s.1.getD k' 0) 0) g
def T3.step{m:Int×Int×List Int}{s:List Nat×List Nat}{d2 d:List Int}{g:Int}{k:Nat}(hnd:s.1.Nodup)(hlt:∀x∈s.1,x<m.1.toNat)(h2:k<s.1.length)(ht:T3 m s d2 g k d) :
  T3 m s d2 g (k+1) (d.set (s.1.getD k 0) (Int.tdiv (d2.getD (s.1.getD k 0) 0) g)):=by
 have hx:s.1.getD k 0<d.length:=by rw[ht.len];exact hlt _ (bz 0 h2)
 refine⟨by rw[List.length_set,ht.len], ?_, ?_⟩;·intro x hx' hall;rw[cU hx,if_neg (λe=>hall k (by omega) e.symm)];exact ht.out x hx' (λt ht'=>hall t (by omega))
 ·intro t ht';by_cases e:t=k;·subst e;rw[cU hx,if_pos rfl]
  ·rw[cU hx,if_neg (λe'=>e (lK hnd h2 (by omega) e').symm)];exact ht.val t (by omega)
def T3.cur{m:Int×Int×List Int}{s:List Nat×List Nat}{d2 d:List Int}{g:Int}{k:Nat}(hnd:s.1.Nodup)(hlt:∀x∈s.1,x<m.1.toNat)(h2:k<s.1.length)(ht:T3 m s d2 g k d) :
  d.getD (s.1.getD k 0) 0=d2.getD (s.1.getD k 0) 0 :=
 ht.out _ (hlt _ (bz 0 h2)) (λt ht' e=>by have:=lK hnd h2 (by omega) e;omega)
def j9(n:Nat)(A:Nat->Nat->Int)(d:Nat->Int):Prop:=∀j,j<n->0<=d j/\d j<=9227446944279201 /\
 (0<d j->∃L:List Nat,j∈L/\(∀k∈L,k<n/\0<d k)/\(∀k,k<n->A j k≠0->k∈L)/\cq (L.map d)=1/\∀e,da n A e->∀k∈L,d j*e k=d k*e j)
def NG{m:Int×Int×List Int}{s:List Nat×List Nat}{d0 d:List Int}{g:Int}{i:Nat}(hs:aP m=true)(h:dI m.1.toNat (af m) i s)(ht:T2 m s d0 s.1.length d g){e:Nat->Int}(he:da m.1.toNat (af m) e) :
  ∀k,k<s.1.length->d.getD i 0*e (s.1.getD k 0)=d.getD (s.1.getD k 0) 0*e i:=by
 intro k;induction k using Nat.strongRecOn with
 |_ k ih =>
  intro hk;by_cases h0:k=0;·subst h0;rw[h.hd]
  ·obtain⟨k',h3,h4,h5⟩:=h.src k (by omega) hk;have h6:=ih k' h3 (by omega);rw[<-h4]at h6;have hlk:=h.lt _ (bz 0 hk);have hfk:=rB h (show 1<=k by omega) hk;have h7:=DM (he _ hfk).1 (he _ hlk).1 ((he _ hfk).2 _ hlk);have h8:=ht.tree k (by omega) hk;obtain⟨⟨hq,_⟩,hp,_⟩:=uf hs h (show 1<=k by omega) hk;rw[show aS (af m (s.1.getD k 0) (s.2.getD k 0))=qK m s k by rw[qK,if_neg h0]]at h7;have h7':e (s.2.getD k 0)*pK m s k=e (s.1.getD k 0)*qK m s k:=h7;have h9:d.getD (s.2.getD k 0) 0*e (s.1.getD k 0)=d.getD (s.1.getD k 0) 0*e (s.2.getD k 0) :=
    NC (p:=pK m s k) (q:=-(qK m s k)) (by omega) (he _ hfk).1 (by rw[Int.mul_neg,Int.neg_neg];exact h8.symm) (by rw[Int.mul_neg,Int.neg_neg];exact h7') (by omega)
   have:=(he _ hfk).1;exact DH (by omega) h6 h9
def NH{m:Int×Int×List Int}{s:List Nat×List Nat}{d0 d2 d:List Int}{g:Int}{i:Nat}(hs:aP m=true)(hi:i<m.1.toNat)(h:dI m.1.toNat (af m) i s)(hn:m.1.toNat<=5)
  (hcl:∀x∈s.1,∀j,j<m.1.toNat->af m x j≠0->j∈s.1)
  (h0:j9 m.1.toNat (af m) (λx=>d0.getD x 0)) (hz:d0.getD i 0<=0) (h2:T2 m s d0 s.1.length d2 g) (h3:T3 m s d2 g s.1.length d) :
  j9 m.1.toNat (af m) (λx=>d.getD x 0)/\0<d.getD i 0/\∀x,x<m.1.toNat->0<d0.getD x 0->0<d.getD x 0:=by
 have hg:=h2.g_range h.pos;have hle:=h.le;have hnew:∀k,k<s.1.length->d0.getD (s.1.getD k 0) 0<=0:=by
  intro k;induction k using Nat.strongRecOn with
  |_ k ih =>
   intro hk;by_cases hk0:k=0;·subst hk0;rw[h.hd];exact hz
   ·obtain⟨k',a1,a2,a3⟩:=h.src k (by omega) hk;have b1:=ih k' a1 (by omega);rw[<-a2]at b1;rcases Int.lt_or_le 0 (d0.getD (s.1.getD k 0) 0)with hc|hc;·have hlk:=h.lt _ (bz 0 hk);have hfk:=rB h (show 1<=k by omega) hk;obtain⟨L,c1,c2,c3,_⟩:=(h0 _ hlk).2.2 hc;have b4:0<d0.getD (s.2.getD k 0) 0:=(c2 _ (c3 _ hfk (λe=>a3 ((ue hs hlk hfk).1 e)))).2;have b2:d0.getD (s.2.getD k 0) 0<=0:=b1;omega
    ·exact hc
 have hin:∀x∈s.1,d.getD x 0*g=d2.getD x 0/\0<d.getD x 0/\d.getD x 0<=9227446944279201:=by
  intro x hx;obtain⟨k,hk,rfl⟩:=nv hx;have a1:=h3.val k hk;obtain⟨b1,b2,_⟩:=h2.val k hk;have b3:g∣d2.getD (s.1.getD k 0) 0:=by rw[h2.gcd];exact t8 (List.mem_map.2 ⟨k,List.mem_range.2 hk,rfl⟩)
  have b4:d.getD (s.1.getD k 0) 0*g=d2.getD (s.1.getD k 0) 0:=by rw[a1];exact Int.tdiv_mul_cancel b3
  have b5:=rA (k:=4+k) (by omega);have b6:0<d.getD (s.1.getD k 0) 0:=by
   rcases Int.lt_or_le 0 (d.getD (s.1.getD k 0) 0)with hc|hc;·exact hc
   ·have:=Int.mul_nonpos_of_nonpos_of_nonneg hc (Int.le_of_lt hg.1);omega
  refine⟨b4,b6, ?_⟩;have:=Int.mul_le_mul_of_nonneg_left (show(1:Int)<=g by omega) (Int.le_of_lt b6);omega
 have hout:∀x,x<m.1.toNat->x∉s.1->d.getD x 0=d0.getD x 0:=by intro x hx hni;have hne:∀k',k'<s.1.length->x≠s.1.getD k' 0:=λk' hk' e=>hni (by rw[e];exact bz 0 hk');rw[h3.out x hx hne,h2.out x hx hne]
 have himem:i∈s.1:=by rw[<-h.hd];exact bz 0 h.pos
 refine⟨?_,(hin i himem).2.1, ?_⟩
 ·intro j hj;by_cases hm:j∈s.1
  ·obtain⟨a1,a2,a3⟩:=hin j hm;refine⟨Int.le_of_lt a2,a3,λ_=>⟨s.1,hm,λk hk=>⟨h.lt k hk,(hin k hk).2.1⟩,λk hk ha=>hcl j hm k hk ha, ?_, ?_⟩⟩
   ·have e1:s.1.map (λx=>g*d.getD x 0)=s.1.map (λx=>d2.getD x 0):=List.map_congr_left (λx hx=>by rw[Int.mul_comm];exact(hin x hx).1);have e2:=t7 g (s.1.map (λx=>d.getD x 0));rw[List.map_map]at e2;have e3:cq (s.1.map (λx=>d2.getD x 0))=g.natAbs*cq (s.1.map (λx=>d.getD x 0)):=by rw[<-e1];exact e2
    have e4:g=((cq (s.1.map (λx=>d2.getD x 0)):Nat):Int):=by rw[<-DL s.1 (λx=>d2.getD x 0)];exact h2.gcd
    have e5:cq (s.1.map (λx=>d2.getD x 0))=g.natAbs:=by have:=congrArg Int.natAbs e4;simpa using this.symm
    rw[e5]at e3;exact Nat.eq_of_mul_eq_mul_left (show 0<g.natAbs by omega) (by rw[Nat.mul_one];exact e3.symm)
   ·intro e he k hk;have key:∀x∈s.1,d.getD i 0*e x=d.getD x 0*e i:=by
     intro x hx;obtain⟨kx,hkx,rfl⟩:=nv hx;have c1:=NG hs h h2 he kx hkx;rw[<-(hin i himem).1,<-(hin _ hx).1]at c1;have c2:g*(d.getD i 0*e (s.1.getD kx 0))=g*(d.getD (s.1.getD kx 0) 0*e i):=by rw[<-Int.mul_assoc,<-Int.mul_assoc,Int.mul_comm g,Int.mul_comm g];exact c1
     exact Int.eq_of_mul_eq_mul_left (by omega) c2
    have:=(he i hi).1;exact DH (b:=d.getD i 0) (f:=e i) (by omega) (key j hm).symm (key k hk)
  ·have e:=hout j hj hm;obtain⟨a1,a2,a3⟩:=h0 j hj;show 0<=d.getD j 0/\d.getD j 0<=_/\(0<d.getD j 0->_);rw[e];refine⟨a1,a2,λhpos=>?_⟩;obtain⟨L,b1,b2,b3,b4,b5⟩:=a3 hpos;have hL:∀k∈L,d.getD k 0=d0.getD k 0:=λk hk=>hout k (b2 k hk).1 (λhc=>by obtain⟨kx,hkx,e'⟩:=nv hc;have:=hnew kx hkx;rw[e']at this;have b6:0<d0.getD k 0:=(b2 k hk).2;omega);refine⟨L,b1,λk hk=>⟨(b2 k hk).1,by show 0<d.getD k 0;rw[hL k hk];exact(b2 k hk).2⟩,b3, ?_, ?_⟩;·rw[show L.map (λx=>d.getD x 0)=L.map (λx=>d0.getD x 0)from List.map_congr_left hL];exact b4
   ·intro e' he' k hk;show d.getD j 0*e' k=d.getD k 0*e' j;rw[hL k hk,e];exact b5 e' he' k hk
 ·intro x hx hp;by_cases hm:x∈s.1;·exact(hin x hm).2.1
  ·rw[hout x hx hm];exact hp
def DO{m:Int×Int×List Int}{d:List Int}(hl:d.length=m.1.toNat)(h:j9 m.1.toNat (af m) (λx=>d.getD x 0))(hp:∀x,x<m.1.toNat->0<d.getD x 0)
  (hc:∀i,i<m.1.toNat->∀j,j<m.1.toNat->d.getD i 0*af m i j=-(d.getD j 0*af m j i)):ba m=d:=by
 refine yP hl (λi hi=>⟨hp i hi,hc i hi⟩) (λi hi=>?_);obtain⟨L,a1,a2,a3,a4,a5⟩:=(h i hi).2.2 (hp i hi);exact⟨L,λk hk=>(a2 k hk).1,a4,a5⟩
def NI{m:Int×Int×List Int}{d:List Int}(hs:aP m=true)(h:j9 m.1.toNat (af m) (λx=>d.getD x 0))(hp:∀x,x<m.1.toNat->0<d.getD x 0){e:Nat->Int}(he:da m.1.toNat (af m) e)
  {i j:Nat} (hi:i<m.1.toNat) (hj:j<m.1.toNat):d.getD i 0*af m i j=-(d.getD j 0*af m j i):=by
 by_cases ha:af m i j=0;·rw[ha,(ue hs hi hj).1 ha];simp
 ·obtain⟨L,a1,a2,a3,a4,a5⟩:=(h i hi).2.2 (hp i hi);exact DG (he i hi).1 (he j hj).1 (a5 e he j (a3 j hj ha)) ((he i hi).2 j hj)
def NJ{m:Int×Int×List Int}{d:List Int}(hs:aP m=true)(h:j9 m.1.toNat (af m) (λx=>d.getD x 0))(hp:∀x,x<m.1.toNat->0<d.getD x 0)
  {i j:Nat} (hi:i<m.1.toNat) (hj:j<m.1.toNat) (hc:d.getD i 0*af m i j≠-(d.getD j 0*af m j i)):ba m=[]:=by
 refine DI (λ⟨e,he⟩=>hc ?_);by_cases ha:af m i j=0;·rw[ha,(ue hs hi hj).1 ha];simp
 ·obtain⟨L,a1,a2,a3,a4,a5⟩:=(h i hi).2.2 (hp i hi);exact DG (he i hi).1 (he j hj).1 (a5 e he j (a3 j hj ha)) ((he i hi).2 j hj)
def dY(f:Bool)(a b c:Int):Int:=if f=true then -a else if 0<b/\0<c then a+b*c else if b<0/\c<0 then a-b*c else a
def ka(m:Int×Int×List Int)(k p:Nat):Int:=dY (decide (p / m.1.toNat=k)||decide (p%m.1.toNat=k)) (m.2.2.getD p 0) (af m (p / m.1.toNat) k) (af m k (p%m.1.toNat))
def bf(m:Int×Int×List Int)(k:Nat):Int×Int×List Int:=(m.1,m.2.1,(List.range m.2.2.length).map (ka m k))
def DP{i j n:Nat}(h:j<n):(i*n+j) / n=i:=by rw[Nat.add_comm,Nat.add_mul_div_right _ _ (by omega),Nat.div_eq_of_lt h,Nat.zero_add]
def DQ{i j n:Nat}(h:j<n):(i*n+j)%n=j:=by rw[Nat.add_comm,Nat.add_mul_mod_self_right,Nat.mod_eq_of_lt h]
def yR{m:Int×Int×List Int}{k i j:Nat}(hj:j<m.1.toNat):ka m k (i*m.1.toNat+j)=dY (decide (i=k)||decide (j=k)) (af m i j) (af m i k) (af m k j):=by unfold ka;rw[DP hj,DQ hj];rfl
def lL{m:Int×Int×List Int}(hd:aO m=true){k i j:Nat}(hi:i<m.2.1.toNat)(hj:j<m.1.toNat):af (bf m k) i j=dY (decide (i=k)||decide (j=k)) (af m i j) (af m i k) (af m k j):=by obtain⟨n,r,hn,hr,hn1,hn5,hnr,hr8,hl⟩:=aU hd;rw[<-yR hj];show((List.range m.2.2.length).map (ka m k)).getD (i*m.1.toNat+j) 0=_;refine nr ?_ 0;have:=iT (n:=n) (r:=r) (i:=i) (j:=j) (by omega) (by omega);rw[hl,hn];exact this
def nw{m:Int×Int×List Int}(hd:aO m=true)(k:Nat):aO (bf m k)=true:=by simp only[aO,bf,Bool.and_eq_true,decide_eq_true_eq,List.length_map,List.length_range]at hd ⊢;exact hd
def DR{f:Bool}{a b c:Int}(ha:-99<=a/\a<=99)(hb:-99<=b/\b<=99)(hc:-99<=c/\c<=99):-9801<=b*c/\b*c<=9801:=by
 have h1:(b*c).natAbs<=99*99:=by rw[Int.natAbs_mul];exact Nat.mul_le_mul (by omega) (by omega)
 omega
def rD{m:Int×Int×List Int}(hd:aO m=true){k:Nat}(hk:k<m.1.toNat){d:Nat->Int}(h:da m.1.toNat (af m) d):da (bf m k).1.toNat (af (bf m k)) d:=by
 obtain⟨n,r,hn,hr,hn1,hn5,hnr,hr8,hl⟩:=aU hd;show da m.1.toNat _ d;intro i hi;refine⟨(h i hi).1,λj hj=>?_⟩;rw[lL hd (by omega) hj,lL hd (by omega) hi];have e1:=(h i hi).2 j hj;have e2:=(h i hi).2 k hk;have e3:=(h k hk).2 j hj;have p1:=(h i hi).1;have p2:=(h j hj).1;have p3:=(h k hk).1;have s1:=oO h hi hk;have s2:=oO h hk hj;simp only[dA,Bool.and_eq_true,beq_iff_eq,decide_eq_decide]at s1 s2;generalize af m i j=a at *
 generalize af m j i=a' at *
 generalize af m i k=b at *
 generalize af m k j=c at *
 generalize af m j k=b' at *
 generalize af m k i=c' at *
 rw[Bool.or_comm (decide (j=k))];cases(decide (i=k)||decide (j=k))
 ·unfold dY;simp only[Bool.false_eq_true,if_false];by_cases h1:0<b/\0<c;·rw[if_pos h1,if_neg (by omega),if_pos (by omega)];grind
  ·rw[if_neg h1];by_cases h2:b<0/\c<0;·rw[if_pos h2,if_pos (by omega)];grind
   ·rw[if_neg h2,if_neg (by omega),if_neg (by omega)];exact e1
 ·unfold dY;simp only[if_true];grind
def DS{α:Type}{n p:Nat}{F G:Nat->α}(h:F p=G p):gq n (p+1) F G=gq n p F G:=by
 unfold gq;apply List.map_congr_left;intro i hi;by_cases h1:i<p;·rw[if_pos h1,if_pos (by omega)]
 ·rw[if_neg h1];by_cases h2:i=p;·subst h2;rw[if_pos (by omega)];exact h
  ·rw[if_neg (by omega)]
end Go.Fw
set_option linter.unusedSectionVars false
namespace Go.Fw
def oS(l:List Int)(n:Int)(i:Nat):Bool:=bE (l.getD i 0) 0 (n-1)&&!((l.take i).any λx=>decide (x=l.getD i 0))
def dJ(l:List Int)(n:Int):Bool:=decide ((l.length:Int)=n)&&(List.range l.length).all (oS l n)
def kK{l:List Int}{n:Int}(h:dJ l n=true):∃L:List Nat,l=an L/\L.Nodup/\(∀x∈L,x<n.toNat)/\L.length=n.toNat:=by
 simp only[dJ,Bool.and_eq_true,decide_eq_true_eq,List.all_eq_true,List.mem_range,oS,cO]at h;obtain⟨h1,h2⟩:=h;have e:l=an (l.map Int.toNat):=by
  apply List.ext_getElem?;intro i;by_cases hi:i<l.length;·have:=(h2 i hi).1;rw[List.getD_eq_getElem?_getD,List.getElem?_eq_getElem hi,Option.getD_some]at this;simp only[an,List.map_map,List.getElem?_map,List.getElem?_eq_getElem hi,Option.map_some,Function.comp];congr 1;omega
  ·rw[List.getElem?_eq_none (by omega),List.getElem?_eq_none (by rw[bv];simp;omega)]
 refine⟨l.map Int.toNat,e, ?_, ?_,by simp;omega⟩
 ·refine List.pairwise_iff_getElem.2 (λi j hi hj hij=>?_);have hi':i<l.length:=by simpa using hi
  have hj':j<l.length:=by simpa using hj
  have h3:=h2 j hj';have h4:=h2 i hi';rw[List.getD_eq_getElem?_getD,List.getElem?_eq_getElem hj',Option.getD_some]at h3;rw[List.getD_eq_getElem?_getD,List.getElem?_eq_getElem hi',Option.getD_some]at h4;simp only[List.getElem_map];intro hc;have hne:l[i]=l[j]:=by omega
  have h5:=h3.2;rw[Bool.not_eq_true',List.any_eq_false]at h5;have:=h5 l[i] (by rw[List.mem_iff_getElem];exact⟨i,by rw[List.length_take];omega,by rw[List.getElem_take]⟩);simp[hne]at this
 ·intro x hx;obtain⟨y,hy,rfl⟩:=List.mem_map.1 hx;obtain⟨i,hi,rfl⟩:=List.getElem_of_mem hy;have:=(h2 i hi).1;rw[List.getD_eq_getElem?_getD,List.getElem?_eq_getElem hi,Option.getD_some]at this;omega
def de:List Nat->Nat->Nat
 |[],_=>0
 |x::xs,b=>if x=b then 0 else de xs b+1
def fe:∀{L:List Nat}{b:Nat},b∈L->de L b<L.length/\L.getD (de L b) 0=b
 |[],b,h=>by cases h
 |x::xs,b,h=>by
  rw[de];by_cases e:x=b;·rw[if_pos e];exact⟨by simp,by simpa using e⟩
  ·rw[if_neg e];rcases List.mem_cons.1 h with h|h;·exact absurd h.symm e
   ·obtain⟨h1,h2⟩:=fe h;exact⟨by simp;omega,by simpa[List.getD_cons_succ]using h2⟩
def fY{L:List Nat}{n:Nat}(h1:L.Nodup)(h2:∀x∈L,x<n)(h3:L.length=n){b:Nat}(hb:b<n):b∈L:=by
 refine Classical.byContradiction λhc=>?_;have:=oP n (b::L) (List.nodup_cons.2 ⟨hc,h1⟩) (λx hx=>by
  rcases List.mem_cons.1 hx with e|e;·omega
  ·exact h2 x e)
 simp at this;omega
def kb{L:List Nat}(h:L.Nodup){j:Nat}(hj:j<L.length):de L (L.getD j 0)=j:=by obtain⟨h1,h2⟩:=fe (bz (l:=L) 0 hj);exact lK h h1 hj h2
def cy(n:Nat)(L:List Nat)(i:Nat):Nat:=if i<n then L.getD i 0 else i
def eF(n:Nat)(L:List Nat)(p:Nat):Nat:=if p<n then de L p else p
def fh(n:Nat)(L:List Nat)(p:Nat):Nat:=eF n L (p / n)*n+de L (p%n)
def bV(m:Int×Int×List Int)(names:List Int):Int×Int×List Int:=(m.1,m.2.1,(List.range m.2.2.length).map λp=>m.2.2.getD (fh m.1.toNat (names.map Int.toNat) p) 0)
def gE(L:List Nat):(an L).map Int.toNat=L:=by
 simp only[an,List.map_map];conv=>rhs;rw[<-List.map_id L]
 apply List.map_congr_left;intro x _;simp
def iW(total t:Nat)(back:Nat->Nat)(F G:Nat->Int):List Int:=(List.range total).map λp=>if back p<t then F p else G p
def rE{total t:Nat}{back:Nat->Nat}{F G:Nat->Int}:(iW total t back F G).length=total:=by simp[iW]
def DT{total t p:Nat}{back:Nat->Nat}{F G:Nat->Int}(hp:p<total)(hb:back p=t)(hinj:∀q,q<total->back q=t->q=p):(iW total t back F G).set p (F p)=iW total (t+1) back F G:=by
 apply List.ext_getElem?;intro q;by_cases hq:q<total
 ·by_cases e:p=q;·subst e;rw[List.getElem?_set_self (by rw[rE];exact hp)];simp only[iW,List.getElem?_map,List.getElem?_range hp,Option.map_some];rw[if_pos (by omega)]
  ·rw[List.getElem?_set_ne e];simp only[iW,List.getElem?_map,List.getElem?_range hq,Option.map_some];have hne:back q≠t:=λh=>e (hinj q hq h).symm;by_cases h1:back q<t;·rw[if_pos h1,if_pos (by omega)]
   ·rw[if_neg h1,if_neg (by omega)]
 ·rw[List.getElem?_eq_none (by rw[List.length_set,rE];omega),List.getElem?_eq_none (by rw[rE];omega)]
def DU{total:Nat}{back:Nat->Nat}{F G:Nat->Int}:iW total 0 back F G=(List.range total).map G:=by simp[iW]
def DV{total:Nat}{back:Nat->Nat}{F G:Nat->Int}(h:∀p,p<total->back p<total):iW total total back F G=(List.range total).map F:=by unfold iW;apply List.map_congr_left;intro i hi;rw[if_pos (h i (List.mem_range.1 hi))]
section
variable {n r : Nat} {L : List Nat} (h1 : L.Nodup) (h2 : ∀ x ∈ L, x < n) (h3 : L.length = n) (hnr : n ≤ r)
include h1 h2 h3
theorem DW{i:Nat}:eF n L (cy n L i)=i:=by
 unfold cy eF;by_cases h:i<n;·have:=h2 _ (bz (l:=L) (j:=i) 0 (by omega));rw[if_pos h,if_pos this,kb h1 (by omega)]
 ·rw[if_neg h,if_neg h]
theorem DX{p:Nat}:cy n L (eF n L p)=p:=by
 unfold cy eF;by_cases h:p<n;·obtain⟨a,b⟩:=fe (fY h1 h2 h3 h);rw[if_pos h,if_pos (by omega),b]
 ·rw[if_neg h,if_neg h]
include hnr
theorem yS{i:Nat}(h:i<r):cy n L i<r:=by
 unfold cy;split;·rename_i h';have:=h2 _ (bz (l:=L) (j:=i) 0 (by omega));omega
 ·exact h
theorem yT{p:Nat}(h:p<r):eF n L p<r:=by
 unfold eF;split;·rename_i h';have:=(fe (fY h1 h2 h3 h')).1;omega
 ·exact h
theorem ug{i j:Nat}(hj:j<n):fh n L (cy n L i*n+L.getD j 0)=i*n+j:=by have:=h2 _ (bz (l:=L) (j:=j) 0 (by omega));unfold fh;rw[Nat.add_comm (cy n L i*n),Nat.add_mul_div_right _ _ (by omega),Nat.div_eq_of_lt this,Nat.zero_add,Nat.add_mul_mod_self_right,Nat.mod_eq_of_lt this,DW h1 h2 h3,kb h1 (by omega)]
theorem DY{i j q:Nat}(hj:j<n)(h:fh n L q=i*n+j):q=cy n L i*n+L.getD j 0:=by
 have hn:0<n:=by omega
 obtain⟨a,b⟩:=fe (fY h1 h2 h3 (Nat.mod_lt q hn));unfold fh at h;have e1:eF n L (q / n)=i:=by
  have:(eF n L (q / n)*n+de L (q%n)) / n=(i*n+j) / n:=by rw[h]
  rw[Nat.add_comm,Nat.add_mul_div_right _ _ hn,Nat.div_eq_of_lt (by omega),Nat.zero_add,Nat.add_comm (i*n),Nat.add_mul_div_right _ _ hn,Nat.div_eq_of_lt hj,Nat.zero_add]at this;exact this
 have e2:de L (q%n)=j:=by rw[e1]at h;omega
 have e3:cy n L i=q / n:=by rw[<-e1,DX h1 h2 h3]
 rw[e3,<-e2,b,Nat.mul_comm];exact(Nat.div_add_mod q n).symm
theorem DZ{q:Nat}(hn:0<n)(h:q<r*n):fh n L q<r*n:=by obtain⟨a,b⟩:=fe (fY h1 h2 h3 (Nat.mod_lt q hn));have h4:q / n<r:=(Nat.div_lt_iff_lt_mul hn).2 h;exact iT (yT h1 h2 h3 hnr h4) (by omega)
end
def gr(A:Nat->Nat->Int)(L:List Nat)(num den:List Int)(x k:Nat):Prop:=(A x k=0/\A k x=0)\/(k∈L/\num.getD x 0*A x k*den.getD k 0=-(num.getD k 0*A k x*den.getD x 0))
structure fJ(n:Nat)(A:Nat->Nat->Int)(s:Nat)(num0:List Int)(L:List Nat)(num den:List Int):Prop where
 nl:num.length=n
 dl:den.length=n
 nd:L.Nodup
 lt:∀x∈L,x<n
 hd:L.getD 0 0=s
 pos:0<L.length
 out:∀x,x<n->x∉L->num.getD x 0=num0.getD x 0
 new:∀x∈L,num0.getD x 0=0
 frac:∃Q:Int,0<Q/\Q<=99 ^ (L.length-1)/\∀x∈L,0<num.getD x 0/\num.getD x 0<=99 ^ (L.length-1)/\0<den.getD x 0/\den.getD x 0∣Q/\Int.gcd (num.getD x 0) (den.getD x 0)=1
 good:∀e,da n A e->∀x∈L,num.getD x 0*e s=den.getD x 0*e x
def fJ.le{n:Nat}{A:Nat->Nat->Int}{s:Nat}{num0 num den:List Int}{L:List Nat}(h:fJ n A s num0 L num den):L.length<=n:=oP n L h.nd h.lt
def uh(n:Nat)(A:Nat->Nat->Int)(num0:List Int):Prop:=∀y,y<n->num0.getD y 0≠0->∀k,k<n->(A y k≠0\/A k y≠0)->num0.getD k 0≠0
def NK{a b c d:Int}(ha:0<a)(hb:0<b)(hc:0<c)(hd:0<d)(h1:Int.gcd a b=1)(h2:Int.gcd c d=1)(h:a*d=c*b):a=c/\b=d:=by
 obtain⟨a,rfl⟩:=Int.eq_ofNat_of_zero_le (Int.le_of_lt ha);obtain⟨b,rfl⟩:=Int.eq_ofNat_of_zero_le (Int.le_of_lt hb);obtain⟨c,rfl⟩:=Int.eq_ofNat_of_zero_le (Int.le_of_lt hc);obtain⟨d,rfl⟩:=Int.eq_ofNat_of_zero_le (Int.le_of_lt hd);have h3:a*d=c*b:=by exact_mod_cast h
 have e1:a∣c:=Nat.Coprime.dvd_of_dvd_mul_right (k:=a) (n:=b) h1 ⟨d,h3.symm⟩;have e2:c∣a:=Nat.Coprime.dvd_of_dvd_mul_right (k:=c) (n:=d) h2 ⟨b,h3⟩;have e3:=Nat.dvd_antisymm e1 e2;subst e3;exact⟨rfl,by rw[Nat.eq_of_mul_eq_mul_left (by omega) h3]⟩
section
variable {n : Nat} {A : Nat → Nat → Int} {s p j : Nat} {num0 num den : List Int} {L : List Nat}
structure ui(A:Nat->Nat->Int)(x j:Nat)(num den:List Int)(a0 b0 g a b:Int):Prop where
 ea0:a0=num.getD x 0*aS (A x j)
 eb0:b0=den.getD x 0*aS (A j x)
 eg:g=(Int.gcd a0 b0:Int)
 gp:0<g
 a0p:0<a0
 b0p:0<b0
 ea:a*g=a0
 eb:b*g=b0
 ap:0<a
 bp:0<b
 co:Int.gcd a b=1
def stepN(x j:Nat)(hx:0<num.getD x 0)(hd:0<den.getD x 0)(h1:A x j≠0)(h2:A j x≠0) :
  ui A x j num den (num.getD x 0*aS (A x j)) (den.getD x 0*aS (A j x)) (Int.gcd (num.getD x 0*aS (A x j)) (den.getD x 0*aS (A j x)))
   (Int.tdiv (num.getD x 0*aS (A x j)) (Int.gcd (num.getD x 0*aS (A x j)) (den.getD x 0*aS (A j x)))) (Int.tdiv (den.getD x 0*aS (A j x)) (Int.gcd (num.getD x 0*aS (A x j)) (den.getD x 0*aS (A j x)))):=by
 have a0p:0<num.getD x 0*aS (A x j):=Int.mul_pos hx (oQ h1);have b0p:0<den.getD x 0*aS (A j x):=Int.mul_pos hd (oQ h2);generalize ha0:num.getD x 0*aS (A x j)=a0 at a0p ⊢;generalize hb0:den.getD x 0*aS (A j x)=b0 at b0p ⊢;have gp:0<(Int.gcd a0 b0:Int):=by have:=Int.gcd_pos_of_ne_zero_left b0 (show a0≠0 by omega);omega
 have ea:Int.tdiv a0 (Int.gcd a0 b0)*(Int.gcd a0 b0:Int)=a0:=Int.tdiv_mul_cancel (Int.gcd_dvd_left ..);have eb:Int.tdiv b0 (Int.gcd a0 b0)*(Int.gcd a0 b0:Int)=b0:=Int.tdiv_mul_cancel (Int.gcd_dvd_right ..);have pos:∀c d:Int,0<d->0<c*d->0<c:=λc d hd h=>by
  rcases Int.lt_or_le 0 c with h'|h';·exact h'
  ·have:=Int.mul_nonpos_of_nonpos_of_nonneg h' (Int.le_of_lt hd);omega
 refine⟨ha0.symm,hb0.symm,rfl,gp,a0p,b0p,ea,eb,pos _ _ gp (by rw[ea];exact a0p),pos _ _ gp (by rw[eb];exact b0p), ?_⟩;have h3:Int.gcd (Int.tdiv a0 (Int.gcd a0 b0)*(Int.gcd a0 b0:Int)) (Int.tdiv b0 (Int.gcd a0 b0)*(Int.gcd a0 b0:Int))=Int.gcd a0 b0:=by rw[ea,eb]
 rw[Int.gcd_mul_right,Int.natAbs_natCast]at h3;have gp':0<Int.gcd a0 b0:=by omega
 exact Nat.eq_of_mul_eq_mul_right gp' (by rw[h3,Nat.one_mul])
def yU(A:Nat->Nat->Int)(x j:Nat):Prop:=∃u:Int,(u=1\/u=-1)/\A x j=u*aS (A x j)/\A j x=-(u*aS (A j x))
def NL{x j:Nat}(h1:A x j≠0)(h2:A j x≠0)(h:(0<A x j)↔(0 < -A j x)):yU A x j:=by
 unfold yU aS;by_cases hp:0<A x j;·have:=h.1 hp;exact⟨1,Or.inl rfl,by omega,by omega⟩
 ·have:¬ 0 < -A j x:=λhc=>hp (h.2 hc);exact⟨-1,Or.inr rfl,by omega,by omega⟩
def D0{x:Nat}{a0 b0 g a b:Int}(st:ui A x j num den a0 b0 g a b)(hx:x<n)(hj:j<n){e:Nat->Int}(he:da n A e)(hg:num.getD x 0*e s=den.getD x 0*e x):a*e s=b*e j:=by
 have h1:=DM (he x hx).1 (he j hj).1 ((he x hx).2 j hj);have h2:=st.ea0;have h3:=st.eb0;have h4:=st.ea;have h5:=st.eb;have h6:g*(a*e s)=g*(b*e j):=by grind
 exact Int.eq_of_mul_eq_mul_left (by have:=st.gp;omega) h6
def D1{x:Nat}{a0 b0 g a b:Int}(st:ui A x j num den a0 b0 g a b)(sk:yU A x j):num.getD x 0*A x j*b=-(a*A j x*den.getD x 0):=by obtain⟨u,hu,h1,h2⟩:=sk;have h3:=st.ea0;have h4:=st.eb0;have h5:=st.ea;have h6:=st.eb;rw[h1,h2];grind
def fJ.grow{a0 b0 g a b:Int}(h:fJ n A s num0 L num den)(hp:p<L.length)(hj:j<n)(hz:num.getD j 0=0)(st:ui A (L.getD p 0) j num den a0 b0 g a b)(hb:∀x y,aS (A x y)<=99) :
  fJ n A s num0 (L++[j]) (num.set j a) (den.set j b)/\j∉L:=by
 obtain⟨Q,q1,q2,q3⟩:=h.frac;have hxm:L.getD p 0∈L:=bz 0 hp;have hnj:j∉L:=λhc=>by have:=(q3 j hc).1;omega
 have hxj:∀x∈L,j≠x:=λx hx e=>hnj (e▸hx);have hnl:j<num.length:=by rw[h.nl];exact hj
 have hdl:j<den.length:=by rw[h.dl];exact hj
 have e1:∀x∈L,(num.set j a).getD x 0=num.getD x 0:=λx hx=>by rw[cU hnl,if_neg (hxj x hx)]
 have e2:∀x∈L,(den.set j b).getD x 0=den.getD x 0:=λx hx=>by rw[cU hdl,if_neg (hxj x hx)]
 have e3:(num.set j a).getD j 0=a:=by rw[cU hnl,if_pos rfl]
 have e4:(den.set j b).getD j 0=b:=by rw[cU hdl,if_pos rfl]
 have hlen:(L++[j]).length-1=L.length-1+1:=by have:=h.pos;simp;omega
 have hpp:(0:Int)<=99 ^ (L.length-1):=Int.pow_nonneg (by omega);refine⟨⟨by rw[List.length_set,h.nl],by rw[List.length_set,h.dl], ?_, ?_,(jH h.pos).trans h.hd,by simp, ?_, ?_, ?_, ?_⟩,hnj⟩;·exact List.nodup_append.2 ⟨h.nd,by simp,λa ha' b hb e=>by rw[List.mem_singleton]at hb;subst hb;subst e;exact hnj ha'⟩
 ·intro x hx;rcases List.mem_append.1 hx with hx|hx;·exact h.lt x hx
  ·rw[List.mem_singleton]at hx;omega
 ·intro x hx hni;rw[List.mem_append,List.mem_singleton]at hni;rw[cU hnl,if_neg (λe=>hni (Or.inr e.symm))];exact h.out x hx (λhc=>hni (Or.inl hc))
 ·intro x hx;rcases List.mem_append.1 hx with hx|hx;·exact h.new x hx
  ·rw[List.mem_singleton]at hx;subst hx;rw[<-h.out x hj hnj];exact hz
 ·obtain⟨c1,c2,c3,c4,c5⟩:=q3 _ hxm;have ga:a<=a0:=by have:=Int.mul_le_mul_of_nonneg_left (show(1:Int)<=g by have:=st.gp;omega) (Int.le_of_lt st.ap);have:=st.ea;omega
  have hq1:0<aS (A j (L.getD p 0)):=by
   have h1:=st.b0p;rw[st.eb0]at h1;rcases Int.lt_or_le 0 (aS (A j (L.getD p 0)))with h'|h';·exact h'
   ·have:=Int.mul_nonpos_of_nonneg_of_nonpos (Int.le_of_lt c3) h';omega
  have hp1:0<=aS (A (L.getD p 0) j):=by unfold aS;omega
  refine⟨Q*aS (A j (L.getD p 0)),Int.mul_pos q1 hq1, ?_, ?_⟩;·rw[hlen,Int.pow_succ];exact Int.mul_le_mul q2 (hb _ _) (by omega) hpp
  ·intro x hx;rcases List.mem_append.1 hx with hx|hx;·rw[e1 x hx,e2 x hx];obtain⟨d1,d2,d3,d4,d5⟩:=q3 x hx;refine⟨d1, ?_,d3,Int.dvd_trans d4 ⟨_,rfl⟩,d5⟩;rw[hlen,Int.pow_succ];have:=Int.mul_le_mul_of_nonneg_left (show(1:Int)<=99 by omega) hpp;omega
   ·rw[List.mem_singleton]at hx;subst hx;rw[e3,e4];refine⟨st.ap, ?_,st.bp, ?_,st.co⟩
    ·rw[hlen,Int.pow_succ];have:a0<=99 ^ (L.length-1)*99:=by rw[st.ea0];exact Int.mul_le_mul c2 (hb _ _) hp1 hpp
     omega
    ·have h1:b∣b0:=⟨g,st.eb.symm⟩;have h2:b0∣Q*aS (A x (L.getD p 0)):=by rw[st.eb0];exact Int.mul_dvd_mul c4 (Int.dvd_refl _)
     exact Int.dvd_trans h1 h2
 ·intro e he x hx;rcases List.mem_append.1 hx with hx|hx;·rw[e1 x hx,e2 x hx];exact h.good e he x hx
  ·rw[List.mem_singleton]at hx;subst hx;rw[e3,e4];exact D0 st (h.lt _ hxm) hj he (h.good e he _ hxm)
def gr.grow{x k:Nat}{a b:Int}(hL:∀x∈L,j≠x)(hnl:j<num.length)(hdl:j<den.length)(hx:x∈L)(h:gr A L num den x k):gr A (L++[j]) (num.set j a) (den.set j b) x k:=by
 rcases h with h|⟨h1,h2⟩;·exact Or.inl h
 ·refine Or.inr ⟨List.mem_append_left _ h1, ?_⟩;rw[cU hnl,if_neg (hL x hx),cU hdl,if_neg (hL k h1),cU hnl,if_neg (hL k h1),cU hdl,if_neg (hL x hx)];exact h2
end
structure oT(n:Nat)(A:Nat->Nat->Int)(num out:List Int):Prop where
 nl:num.length=n
 ol:out.length=n
 closed:uh n A num
 done:∀j,j<n->num.getD j 0≠0->0<out.getD j 0/\(∀k,k<n->out.getD j 0*A j k=-(out.getD k 0*A k j)) /\
  ∃L:List Nat,(∀k∈L,k<n/\num.getD k 0≠0)/\cq (L.map λk=>out.getD k 0)=1/\∀e,da n A e->∀k∈L,out.getD j 0*e k=out.getD k 0*e j
section
variable {n : Nat} {A : Nat → Nat → Int} {s : Nat} {num0 num den out0 out2 out3 : List Int} {L : List Nat} {com g : Int}
def oT.piece(h:oT n A num0 out0)(f:fJ n A s num0 L num den)(he:∀x∈L,∀k,k<n->gr A L num den x k)(hc:0<com)(hg:0<g)
  (h2:∀x∈L,out2.getD x 0*den.getD x 0=com*num.getD x 0) (hgl:g=((cq (L.map λx=>out2.getD x 0):Nat):Int))
  (h3:∀x∈L,out3.getD x 0*g=out2.getD x 0) (ho:∀x,x<n->x∉L->out3.getD x 0=out0.getD x 0) (hl:out3.length=n) :
  oT n A num out3/\num.getD s 0≠0/\∀x,x<n->num0.getD x 0≠0->num.getD x 0≠0:=by
 obtain⟨Q,q1,q2,q3⟩:=f.frac;have hpos:∀x∈L,0<num.getD x 0/\0<den.getD x 0:=λx hx=>⟨(q3 x hx).1,(q3 x hx).2.2.1⟩;have hk:∀x∈L,out3.getD x 0*g*den.getD x 0=com*num.getD x 0:=λx hx=>by rw[h3 x hx];exact h2 x hx
 have hop:∀x∈L,0<out3.getD x 0:=λx hx=>by
  have h4:=Int.mul_pos hc (hpos x hx).1;rw[<-hk x hx]at h4;rcases Int.lt_or_le 0 (out3.getD x 0)with h'|h';·exact h'
  ·have h5:=Int.mul_nonpos_of_nonpos_of_nonneg h' (Int.le_of_lt hg);have h6:=Int.mul_nonpos_of_nonpos_of_nonneg h5 (Int.le_of_lt (hpos x hx).2);omega
 have hns:num.getD s 0≠0:=by have:=(hpos s (by rw[<-f.hd];exact bz 0 f.pos)).1;omega
 have old:∀x,x<n->num0.getD x 0≠0->x∉L:=λx hx h0 hc=>h0 (f.new x hc);refine⟨⟨f.nl,hl, ?_, ?_⟩,hns,λx hx h0=>by rw[f.out x hx (old x hx h0)];exact h0⟩
 ·intro y hy h1 k hk' ha;by_cases hm:y∈L
  ·rcases he y hm k hk' with hz|hz;·omega
   ·have:=(hpos k hz.1).1;omega
  ·rw[f.out y hy hm]at h1;have h4:=h.closed y hy h1 k hk' ha;rw[f.out k hk' (old k hk' h4)];exact h4
 ·intro j hj h1;by_cases hm:j∈L
  ·refine⟨hop j hm, ?_,L,λk hk'=>⟨f.lt k hk',by have:=(hpos k hk').1;omega⟩, ?_, ?_⟩
   ·intro k hk';rcases he j hm k hk' with⟨z1,z2⟩|⟨z1,z2⟩;·rw[z1,z2];simp
    ·have e1:=hk j hm;have e2:=hk k z1;have e3:(g*den.getD j 0*den.getD k 0)*(out3.getD j 0*A j k)=(g*den.getD j 0*den.getD k 0)*(-(out3.getD k 0*A k j)):=by grind
     have e4:=Int.mul_pos (Int.mul_pos hg (hpos j hm).2) (hpos k z1).2;exact Int.eq_of_mul_eq_mul_left (by omega) e3
   ·have e1:L.map (λx=>g*out3.getD x 0)=L.map (λx=>out2.getD x 0):=List.map_congr_left (λx hx=>by rw[Int.mul_comm];exact h3 x hx);have e2:=t7 g (L.map (λx=>out3.getD x 0));rw[List.map_map]at e2;have e3:cq (L.map (λx=>out2.getD x 0))=g.natAbs*cq (L.map (λx=>out3.getD x 0)):=by rw[<-e1];exact e2
    have e5:cq (L.map (λx=>out2.getD x 0))=g.natAbs:=by have:=congrArg Int.natAbs hgl;simpa using this.symm
    rw[e5]at e3;exact Nat.eq_of_mul_eq_mul_left (show 0<g.natAbs by omega) (by rw[Nat.mul_one];exact e3.symm)
   ·intro e hge k hkL;have key:∀x∈L,out3.getD x 0*g*e s=com*e x:=by
     intro x hx;have e1:=hk x hx;have e2:=f.good e hge x hx;have e3:den.getD x 0*(out3.getD x 0*g*e s)=den.getD x 0*(com*e x):=by grind
     exact Int.eq_of_mul_eq_mul_left (by have:=(hpos x hx).2;omega) e3
    have e1:=key j hm;have e2:=key k hkL;have hs:0<e s:=(hge s (by rw[<-f.hd];exact f.lt _ (bz 0 f.pos))).1;have e3:(g*e s)*(out3.getD j 0*e k)=(g*e s)*(out3.getD k 0*e j):=by grind
    have e4:=Int.mul_pos hg hs;exact Int.eq_of_mul_eq_mul_left (by omega) e3
  ·rw[f.out j hj hm]at h1;obtain⟨a1,a2,L',a3,a4,a5⟩:=h.done j hj h1;rw[ho j hj hm];have hL':∀k∈L',k∉L:=λk hk'=>old k (a3 k hk').1 (a3 k hk').2;refine⟨a1, ?_,L',λk hk'=>⟨(a3 k hk').1,by rw[f.out k (a3 k hk').1 (hL' k hk')];exact(a3 k hk').2⟩, ?_, ?_⟩
   ·intro k hk';by_cases hkL:k∈L
    ·by_cases z1:A j k=0
     ·by_cases z2:A k j=0;·rw[z1,z2];simp
      ·exact absurd (f.new k hkL) (h.closed j hj h1 k hk' (Or.inr z2))
     ·exact absurd (f.new k hkL) (h.closed j hj h1 k hk' (Or.inl z1))
    ·rw[ho k hk' hkL];exact a2 k hk'
   ·rw[show L'.map (λk=>out3.getD k 0)=L'.map (λk=>out0.getD k 0)from List.map_congr_left (λk hk'=>ho k (a3 k hk').1 (hL' k hk'))];exact a4
   ·intro e hge k hk';rw[ho k (a3 k hk').1 (hL' k hk')];exact a5 e hge k hk'
end
def oT.fac{m:Int×Int×List Int}{num out:List Int}(h:oT m.1.toNat (af m) num out)(hp:∀x,x<m.1.toNat->num.getD x 0≠0):ba m=out:=by refine yP h.ol (λi hi=>⟨(h.done i hi (hp i hi)).1,(h.done i hi (hp i hi)).2.1⟩) (λi hi=>?_);obtain⟨L,a1,a2,a3⟩:=(h.done i hi (hp i hi)).2.2;exact⟨L,λk hk=>(a1 k hk).1,a2,a3⟩
def NM{c d Q:Int}(hc:0<c)(hd:0<d)(h1:c∣Q)(h2:d∣Q)(hQ:0<Q) :
  0<(Int.gcd c d:Int)/\0<Int.tdiv c (Int.gcd c d)/\Int.tdiv c (Int.gcd c d)<=c/\0<Int.tdiv c (Int.gcd c d)*d/\Int.tdiv c (Int.gcd c d)*d∣Q/\c∣Int.tdiv c (Int.gcd c d)*d/\d∣Int.tdiv c (Int.gcd c d)*d:=by
 obtain⟨c,rfl⟩:=Int.eq_ofNat_of_zero_le (Int.le_of_lt hc);obtain⟨d,rfl⟩:=Int.eq_ofNat_of_zero_le (Int.le_of_lt hd);obtain⟨Q,rfl⟩:=Int.eq_ofNat_of_zero_le (Int.le_of_lt hQ);have e:Int.tdiv (c:Int) (Int.gcd (c:Int) (d:Int))=((c / Nat.gcd c d:Nat):Int):=rfl;rw[e];have hg:0<Nat.gcd c d:=Nat.gcd_pos_of_pos_left d (by omega);have h3:c / Nat.gcd c d*d=Nat.lcm c d:=by rw[Nat.lcm,Nat.mul_comm,Nat.mul_comm c d,Nat.mul_div_assoc _ (Nat.gcd_dvd_left c d)]
 have h4:0<c / Nat.gcd c d:=Nat.div_pos (Nat.gcd_le_left d (by omega)) hg;have h5:c / Nat.gcd c d<=c:=Nat.div_le_self _ _;rw[<-Int.natCast_mul,h3];have h6:0<Nat.lcm c d:=Nat.lcm_pos (by omega) (by omega);refine⟨by show(0:Int)<((Nat.gcd c d:Nat):Int);omega,by omega,by omega,by omega, ?_, ?_, ?_⟩;·exact Int.natCast_dvd_natCast.2 (Nat.lcm_dvd (Int.natCast_dvd_natCast.1 h1) (Int.natCast_dvd_natCast.1 h2))
 ·exact Int.natCast_dvd_natCast.2 (Nat.dvd_lcm_left c d)
 ·exact Int.natCast_dvd_natCast.2 (Nat.dvd_lcm_right c d)
def yV:(Int×Int×List Int)×Bool:=((0,0,[]),false)
def fZ(f:Int×Int×List Int->Int->(Int×Int×List Int)×Bool)(m:Int×Int×List Int):List Int->(Int×Int×List Int)×Bool
 |[]=>(m,true)
 |k::ks=>if(f m k).2=true then fZ f (f m k).1 ks else yV
def iX(m:Int×Int×List Int):Int×Int×List Int:=(m.1,m.1,m.2.2.take (m.1*m.1).toNat)
def NQ{m:Int×Int×List Int}(hd:aO m=true):ac (m.1*m.1)=m.1*m.1/\0<=m.1*m.1/\m.1*m.1<=25/\m.1*m.1<=(m.2.2.length:Int):=by
 obtain⟨n,r,hn,hr,hn1,hn5,hnr,hr8,hl⟩:=aU hd;have h1:n*n<=r*n:=Nat.mul_le_mul_right n hnr;have h2:n*n<=5*5:=Nat.mul_le_mul hn5 hn5;rw[hn,hl];have e:(n:Int)*(n:Int)=((n*n:Nat):Int):=by rw[Int.natCast_mul]
 rw[e];rw[aR (by omega) (by omega)];exact⟨rfl,by omega,by omega,by omega⟩
def D2(k:Int)(l:List Int):List (List Int):=(List.range (l.length+1)).map λi=>gT l ((i:Nat):Int) [k]
def eR:Nat->List (List Int)
 |0=>[[]]
 |k+1=>(eR k).flatMap (D2 (k:Nat))
def eS(n:Nat):Nat->List Int->List (List Int)
 |0,f=>[f]
 |k+1,f=>(List.range n).flatMap λx=>cond (f.any λy=>decide (y=((x:Nat):Int))) [] (eS n k (f++[((x:Nat):Int)]))
set_option maxRecDepth 100000 in
def yX:((List.range 6).all λn=>(eR n).all (λo=>(eS n n []).contains o&&dJ o n)&&(eS n n []).all (λo=>(eR n).contains o)&&(eR n).contains ((List.range n).map Int.ofNat))=true:=by decide +kernel
def uj{n:Nat}(hn:n<=5)(o:List Int):o∈eR n↔o∈eS n n []:=by have h:=List.all_eq_true.1 yX n (List.mem_range.2 (by omega));simp only[Bool.and_eq_true,List.all_eq_true]at h;obtain⟨⟨h1,h2⟩,h3⟩:=h;exact⟨λho=>List.contains_iff_mem.1 (h1 o ho).1,λho=>List.contains_iff_mem.1 (h2 o ho)⟩
def rF{n:Nat}(hn:n<=5){o:List Int}(ho:o∈eR n):dJ o n=true:=by have h:=List.all_eq_true.1 yX n (List.mem_range.2 (by omega));simp only[Bool.and_eq_true,List.all_eq_true]at h;exact(h.1.1 o ho).2
def uk{n:Nat}(hn:n<=5):(List.range n).map Int.ofNat∈eR n:=by have h:=List.all_eq_true.1 yX n (List.mem_range.2 (by omega));simp only[Bool.and_eq_true,List.all_eq_true]at h;exact List.contains_iff_mem.1 h.2
def NS:((List.range 6).all λn=>(List.range (n*n)).all λp=>decide (fh n (((List.range n).map Int.ofNat).map Int.toNat) p=p))=true:=by decide +kernel
def ul{m:Int×Int×List Int}(h:aO m=true)(hr:m.2.1=m.1):bV m ((List.range m.1.toNat).map Int.ofNat)=m:=by
 obtain⟨n,r,hn,hr',hn1,hn5,hnr,hr8,hl⟩:=aU h;have e:r=n:=by omega
 subst e;have hb:=List.all_eq_true.1 NS r (List.mem_range.2 (by omega));rw[List.all_eq_true]at hb;have e1:m.1.toNat=r:=by omega
 unfold bV;rw[e1];refine congrArg (λz=>(m.1,m.2.1,z)) ?_;apply List.ext_getElem?;intro p;by_cases hp:p<m.2.2.length;·rw[List.getElem?_map,List.getElem?_range hp,Option.map_some];have:=of_decide_eq_true (hb p (List.mem_range.2 (by omega)));rw[this,List.getD_eq_getElem?_getD,List.getElem?_eq_getElem hp,Option.getD_some]
 ·rw[List.getElem?_eq_none (by simp;omega),List.getElem?_eq_none (Nat.le_of_not_lt hp)]
def NT:∀{n:Nat},n<=5->∀o∈eR n,o.length=n:=λ{n} hn o ho=>by have:=rF hn ho;simp only[dJ,Bool.and_eq_true,decide_eq_true_eq]at this;omega
def um:∀a:List Int,cd a a=false
 |[]=>rfl
 |x::xs=>by rw[cd,if_pos rfl];exact um xs
def oU:∀{a b c:List Int},cd a b=true->cd b c=true->cd a c=true
 |[],[],_,h,_=>by cases h
 |[],_::_,[],_,h=>by cases h
 |[],_::_,_::_,_,_=>rfl
 |_::_,[],_,h,_=>by cases h
 |_::_,_::_,[],_,h=>by cases h
 |x::xs,y::ys,z::zs,h1,h2=>by
  rw[cd]at h1 h2 ⊢;by_cases e1:x=y
  ·subst e1;rw[if_pos rfl]at h1;by_cases e2:x=z;·rw[if_pos e2]at h2 ⊢;exact oU h1 h2
   ·rw[if_neg e2]at h2 ⊢;exact h2
  ·rw[if_neg e1]at h1;have h1:=of_decide_eq_true h1;by_cases e2:y=z;·subst e2;rw[if_neg e1];exact decide_eq_true h1
   ·rw[if_neg e2]at h2;have h2:=of_decide_eq_true h2;rw[if_neg (by omega)];exact decide_eq_true (by omega)
def oV:∀{a b:List Int},cd a b=false->cd b a=false->a=b
 |[],[],_,_=>rfl
 |[],_::_,h,_=>by cases h
 |_::_,[],_,h=>by cases h
 |x::xs,y::ys,h1,h2=>by
  rw[cd]at h1 h2;by_cases e:x=y;·subst e;rw[if_pos rfl]at h1 h2;rw[oV h1 h2]
  ·rw[if_neg e]at h1;rw[if_neg (Ne.symm e)]at h2;have h1:=of_decide_eq_false h1;have h2:=of_decide_eq_false h2;omega
def du(f:List Int->List Int)(b:List Int)(os:List (List Int)):List Int:=os.foldl (λb o=>if cd (f o) b=true then f o else b) b
def rG(f:List Int->List Int):∀(os:List (List Int)) (b:List Int),du f b os=b\/∃o∈os,du f b os=f o
 |[],b=>.inl rfl
 |o::os,b=>by
  have e:du f b (o::os)=du f (if cd (f o) b=true then f o else b) os:=rfl;rw[e];rcases rG f os (if cd (f o) b=true then f o else b)with h|⟨o',h1,h2⟩
  ·rw[h];split;·exact .inr ⟨o,List.mem_cons_self ..,rfl⟩
   ·exact .inl rfl
  ·exact .inr ⟨o',List.mem_cons_of_mem _ h1,h2⟩
def un(f:List Int->List Int):∀(os:List (List Int)) (b:List Int),cd b (du f b os)=false/\∀o∈os,cd (f o) (du f b os)=false
 |[],b=>⟨um b,λo ho=>by cases ho⟩
 |o::os,b=>by
  have e:du f b (o::os)=du f (if cd (f o) b=true then f o else b) os:=rfl;rw[e];obtain⟨h1,h2⟩:=un f os (if cd (f o) b=true then f o else b);generalize du f (if cd (f o) b=true then f o else b) os=r at h1 h2;have fin:cd b r=false/\cd (f o) r=false:=by
   by_cases h:cd (f o) b=true
   ·rw[if_pos h]at h1;refine⟨?_,h1⟩;cases hc:cd b r;·rfl
    ·rw[oU h hc]at h1;cases h1
   ·rw[if_neg h]at h1;refine⟨h1, ?_⟩;cases hc:cd (f o) r;·rfl
    ·cases hd:cd b (f o);·have:=oV hd (by simpa using h);rw[this]at h1;rw[h1]at hc;cases hc
     ·rw[oU hd hc]at h1;cases h1
  exact⟨fin.1,λo' ho'=>by
   rcases List.mem_cons.1 ho' with rfl|ho';·exact fin.2
   ·exact h2 o' ho'⟩
def NU{f:List Int->List Int}{os os':List (List Int)}{b b':List Int}(hm:∀o∈os,o∈os')(hm':∀o∈os',o∈os)(hb:∃o∈os,b=f o)(hb':∃o∈os',b'=f o):du f b os=du f b' os':=by
 have key:∀{os os':List (List Int)}{b b':List Int},(∀o∈os,o∈os')->(∃o∈os,b=f o)->cd (du f b os) (du f b' os')=false:=by
  intro os os' b b' hm hb;have hx:∃o∈os,du f b os=f o:=by
   rcases rG f os b with h|h;·rw[h];exact hb
   ·exact h
  obtain⟨o,ho,e⟩:=hx;rw[e];exact(un f os' b').2 o (hm o ho)
 exact oV (key hm hb) (key hm' hb')
def cR(m:Int×Int×List Int)(o:List Int):List Int:=(bV m o).2.2
def bO(m:Int×Int×List Int):Int×Int×List Int:=(m.1,m.2.1,du (cR m) m.2.2 (eS m.1.toNat m.1.toNat []))
def yY(f:List Int->List Int):List (List Int)->List Int
 |[]=>[]
 |o::os=>du f (f o) os
def ny(m:Int×Int×List Int):Int×Int×List Int:=(m.1,m.2.1,yY (cR m) (eR m.1.toNat))
def D3{m:Int×Int×List Int}(h:aO m=true)(hr:m.2.1=m.1):ny m=bO m:=by
 obtain⟨n,r,hn,hr',hn1,hn5,hnr,hr8,hl⟩:=aU h;have e1:m.1.toNat=n:=by omega
 unfold ny bO;have hid:=ul h hr;rw[e1]at hid ⊢;refine congrArg (λz=>(m.1,m.2.1,z)) ?_;have hm:=uj hn5;have hi:=uk hn5;have hi':cR m ((List.range n).map Int.ofNat)=m.2.2:=by unfold cR;rw[hid]
 generalize eS n n []=S at hm;generalize hN:eR n=O at hm hi;cases O with
 |nil=>cases hi
 |cons o os =>
  rw[yY];have e:du (cR m) (cR m o) os=du (cR m) (cR m o) (o::os):=by show _=du (cR m) (if cd (cR m o) (cR m o)=true then cR m o else cR m o) os;rw[ite_self]
  rw[e];exact NU (λo' ho'=>(hm o').1 ho') (λo' ho'=>(hm o').2 ho') ⟨o,List.mem_cons_self ..,rfl⟩ ⟨_,(hm _).1 hi,hi'.symm⟩
def NX:((List.range 6).all λn=>decide ((eR n).length<=120))=true:=by decide +kernel
def D4{n:Nat}(hn:n<=5):(eR n).length<=120:=of_decide_eq_true (List.all_eq_true.1 NX n (List.mem_range.2 (by omega)))
def dZ(a b:List Int):Bool:=!cd b a
def gt(l:List (List Int)):Prop:=l.Pairwise λa b=>dZ a b=true
def uo(a b c:List Int)(h1:dZ a b=true)(h2:dZ b c=true):dZ a c=true:=by
 simp only[dZ,Bool.not_eq_true']at *
 cases h:cd c a;·rfl
 cases h3:cd a b;·have:=oV h3 h1;subst this;rw[h2]at h;cases h
 ·rw[oU h h3]at h2;cases h2
def D5(a b:List Int):(dZ a b||dZ b a)=true:=by
 simp only[dZ];cases h:cd b a;·rfl
 cases h2:cd a b;·rfl
 ·have:=oU h h2;rw[um]at this;cases this
def NY{a b:List Int}(h1:dZ a b=true)(h2:dZ b a=true):a=b:=by simp only[dZ,Bool.not_eq_true']at h1 h2;exact oV h2 h1
def yZ:∀{l l':List (List Int)},l.Perm l'->gt l->gt l'->l=l'
 |[],l',h,_,_=>(List.Perm.nil_eq h)
 |a::l,[],h,_,_=>by simpa using h.length_eq
 |a::l,b::l',h,h1,h2=>by
  have e:a=b:=by
   rcases List.mem_cons.1 (h.mem_iff.1 List.mem_cons_self)with e|ha;·exact e
   rcases List.mem_cons.1 (h.mem_iff.2 List.mem_cons_self)with e|hb;·exact e.symm
   exact NY ((List.pairwise_cons.1 h1).1 b hb) ((List.pairwise_cons.1 h2).1 a ha)
  subst e;rw[yZ (List.Perm.cons_inv h) (List.pairwise_cons.1 h1).2 (List.pairwise_cons.1 h2).2]
def uq(l:List (List Int)):List (List Int):=l.mergeSort dZ
def oW(l:List (List Int)):(uq l).Perm l:=List.mergeSort_perm l dZ
def za(l:List (List Int)):gt (uq l):=List.pairwise_mergeSort uo D5 l
def NZ{l l':List (List Int)}(h:l'.Perm l)(hs:gt l'):l'=uq l:=yZ (h.trans (oW l).symm) hs (za l)
end Go.Fw
namespace Go.Fw
open Go.Proofs Go.Sort
def zb(a b:Int×Int×List Int):ltOf (λa b:Int×Int×List Int=>ix a.2.2 b.2.2) a b=cd a.2.2 b.2.2:=t6 _ _
def zd:SWO (ltOf λa b:Int×Int×List Int=>ix a.2.2 b.2.2):=⟨λx=>by rw[zb];exact um _,λx y z h1 h2=>by
  rw[zb]at *
  exact oU h1 h2,λx y z h1 h2=>by
  rw[zb]at *
  have h3:=uo y.2.2 x.2.2 x.2.2;have:dZ z.2.2 x.2.2=true:=uo z.2.2 y.2.2 x.2.2 (by simp only[dZ,h2];rfl) (by simp only[dZ,h1];rfl);simpa only[dZ,Bool.not_eq_true']using this⟩
def kM(l:List (Int×Int×List Int)):List (Int×Int×List Int):=iw (0,(0,[])) (λa b:Int×Int×List Int=>ix a.2.2 b.2.2) l
def D6(l:List (Int×Int×List Int)):(kM l).Perm l:=Nc zd l
def N3(l:List (Int×Int×List Int)):gt ((kM l).map (·.2.2)):=by
 have h:=Nd (d:=((0,(0,[])):Int×Int×List Int)) zd l;have hl:(kM l).length=l.length:=(D6 l).length_eq;unfold gt;rw[List.pairwise_iff_getElem];intro i j hi hj hij;rw[List.length_map]at hi hj;have:=h i j hij (by omega);simp only[List.getElem_map];simp only[dZ,Bool.not_eq_true'];have e:∀k (hk:k<(kM l).length),(iw (0,(0,[])) (λa b:Int×Int×List Int=>ix a.2.2 b.2.2) l).getD k (0,(0,[]))=(kM l)[k]:=λk hk=>by rw[List.getD_eq_getElem?_getD];show((kM l)[k]?).getD _=_;rw[List.getElem?_eq_getElem hk];rfl
 rw[e i hi,e j hj]at this;cases hq:cd (kM l)[j].2.2 (kM l)[i].2.2;·rfl
 ·rw[<-t6]at hq;exact(this (of_decide_eq_true hq)).elim
end Go.Fw
set_option linter.defProp false
set_option linter.unusedSimpArgs false
set_option maxRecDepth 100000
namespace Go.Fw
section
variable {J : Type}
namespace bJ
def P(m:Int×Int×List Int)(i j:Int):Bool:=oM m i j
def g(m:Int×Int×List Int)(i j:Int):Int:=oN m i j
def Z0{J:Type}(N:Nat)(a:MT)(b c:Int)(kr:Int->Option J):Option J :=
 cond (lk N (ax (ac ((ac (b*a.1))+c)) a.2.2.length)) (
  kr (a.2.2.getD (ac ((ac (b*a.1))+c)).toNat 0)) none
def Spec:Prop:=∀ (v0:MT) (v1 v2:Int),Ty.bd (.pair (.int .i64) (.pair (.int .i64) (.sl 0 (.int .i64)))) v0->P v0 v1 v2=true->∃N0,∀N,N0<=N->Z0 N v0 v1 v2 (λv6=>some ((),(v6,())))=some ((),((g v0 v1 v2),()))
def ok:Spec:=λm i j hb hp=>⟨0,λN hN=>by obtain⟨h1,h2,h3⟩:=Dv hb.2.2.1 hp;simp only[Z0,g,oN,h1];rw[ct (Da h2 h3)]⟩
end bJ
namespace eL
def g(l:List Int)(n:Int):Bool:=l.any λx=>decide (x=n)
def Z1{J:Type}(N:Nat)(a:LI)(b:Int)(kn:LI->Int->Option J):Option J :=
 kn a b
def Z4{J:Type}(N:Nat)(a:LI)(b:Int)(kn:LI->I2 (Option J)):Option J :=
 kn a b 0
def Z7{J:Type}(N:Nat)(a:LI)(c b:Int)(kn:LI->I2 (Option J))(k0:Option J)(kr:Bool->Option J):Option J :=
 cond (lk N (decide (b<(a.length:Int))))
 (
  cond (lk N (ax b a.length)) (
   cond (lk N (decide ((a.getD b.toNat 0)=c)))
   (
    kr true)
   (
    kn a c (ac (b+1)))) none)
 (
  k0)
def Z6L{J:Type}(N:Nat)(k0:Option J)(kr:Bool->Option J):Nat->LI->Int->Int->Option J
 |0,_,_,_=>none
 |M+1,a,b,c=>Z7 N a b c (λa b c=>Z6L N k0 kr M a b c) k0 kr
def Z6 N a b c k0 kr:=(Z6L N k0 kr N a b c:Option J)
def Z5 N a b c kn kr:=(Z6 N a b c kn kr:Option J)
def Z3 N a b kn kr:=(Z4 N a b (λa b c=>Z5 N a b c kn kr):Option J)
def Z8{J:Type}(N:Nat) (kr:Bool->Option J):Option J :=
 kr false
def Z2 N a b kr:=(Z3 N a b (Z8 N kr) kr:Option J)
def Z0 N a b kr:=(Z1 N a b (λa b=>Z2 N a b kr):Option J)
def Spec:Prop:=∀ (v0:LI) (v1:Int),Ty.bd (.sl 0 (.int .i64)) v0->∃N0,∀N,N0<=N->Z0 N v0 v1 (λv4=>some ((),(v4,())))=some ((),((g v0 v1),()))
def loop{J:Type}(N:Nat)(kr:Bool->Option J)(n:Int)(a:List Int)(ha:a.length<=maxLen):∀(M j:Nat),j<=a.length->a.length-j<M ->
  Z6L N (kr false) kr M a n (j:Int)=kr (g (a.drop j) n):=by
 intro M;induction M with
 |zero=>intro j _ h;omega
 |succ M ih =>
  intro j hj hM;simp only[Z6L,Z7];by_cases h:j<a.length;·rw[ct (dt (by omega)),ct (aN h),Int.toNat_natCast,a8 (by omega),ih (j+1) h (by omega),fb 0 h];simp only[g,List.any_cons,aD];cases decide (a.getD j 0=n)<;>rfl
  ·rw[cf (df (by omega)),List.drop_of_length_le (by omega)];rfl
def ok:Spec:=λa n ha=>⟨a.length+1,λN hN=>by simp only[Z1,Z4,Z7,Z6,Z5,Z3,Z8,Z2,Z0];exact(loop N (λt=>some ((),(t,()))) n a ha.1 N 0 (by omega) (by omega)).trans rfl⟩
def g_iff{l:List Int}{n:Int}:g l n=true↔n∈l:=by simp[g]
end eL
namespace cr
def P(m:Int×Int×List Int)(i:Int):Bool:=aO m&&(decide (0<=i)&&decide (i<m.1))
def g(m:Int×Int×List Int)(i:Int):List Int×List Int:=(an (cP m i.toNat).1,an (cP m i.toNat).2)
def Z1{J:Type}(N:Nat)(a:MT)(b:Int)(kn:I3 (LI->Option J)):Option J :=
 kn b a.1 a.2.1 a.2.2
def Z3{J:Type}(N:Nat)(a b c:Int)(d:LI)(kn:LI->I3 (LI->Option J)):Option J :=
 kn ([a]:List Int) a b c d
def Z5{J:Type}(N:Nat)(a:LI)(b c d:Int)(e:LI)(kn:LI->LI->I2 (LI->Option J)):Option J :=
 kn a ([b]:List Int) c d e
def Z8{J:Type}(N:Nat)(a b:LI)(c d:Int)(e:LI)(kn:LI->LI->I3 (LI->Option J)):Option J :=
 kn a b 0 c d e
def Z12{J:Type}(N:Nat)(a b:LI)(c d e:Int)(f:LI)(kn:LI->LI->I3 (LI->Option J))(k0:LI->LI->Option J):Option J :=
 cond (lk N (decide (c<(a.length:Int))))
 (
  kn a b c d e f)
 (
  k0 a b)
def Z16{J:Type}(N:Nat)(a b:LI)(c d e:Int)(f:LI)(kn:LI->LI->I4 (LI->Option J)):Option J :=
 kn a b c 0 d e f
def Z19{J:Type}(N:Nat)(a h:LI)(c b d e:Int)(f:LI)(kn:LI->LI->I4 (LI->Option J))(k2:LI->LI->I3 (LI->Option J)):Option J :=
 cond (lk N (decide (b<d)))
 (
  cond (lk N (ax c a.length)) (
   cond (lk N (bJ.P (d,(e,f)) (a.getD c.toNat 0) b)) (
    cond (lk N (!(decide ((bJ.g (d,(e,f)) (a.getD c.toNat 0) b)=0))))
    (
     cond (!(lk N ((eL.g a b))))
     (
      cond (lk N (Nat.blt (a.length+([b]:List Int).length) 1099511627776)) (
       cond (lk N (ax c (a++([b]:List Int)).length)) (
        cond (lk N (Nat.blt (h.length+([((a++([b]:List Int)).getD c.toNat 0)]:List Int).length) 1099511627776)) (
         kn (a++([b]:List Int)) (h++([((a++([b]:List Int)).getD c.toNat 0)]:List Int)) c (ac (b+1)) d e f) none) none) none)
     (
      kn a h c (ac (b+1)) d e f))
    (
     kn a h c (ac (b+1)) d e f)) none) none)
 (
  k2 a h c d e f)
def Z18L{J:Type}(N:Nat)(k2:LI->LI->I3 (LI->Option J)):Nat->LI->LI->Int->Int->Int->Int->LI->Option J
 |0,_,_,_,_,_,_,_=>none
 |M+1,a,b,c,d,e,f,g=>Z19 N a b c d e f g (λa b c d e f g=>Z18L N k2 M a b c d e f g) k2
def Z18 N a b c d e f g k2:=(Z18L N k2 N a b c d e f g:Option J)
def Z17 N a b c d e f g kn:=(Z18 N a b c d e f g kn:Option J)
def Z15 N a b c d e f kn:=(Z16 N a b c d e f (λa b c g d e f=>Z17 N a b c g d e f kn):Option J)
def Z14 N a b c d e f kn:=(Z15 N a b c d e f kn:Option J)
def Z20{J:Type}(N:Nat)(a b:LI)(c d e:Int)(f:LI)(kn:LI->LI->I3 (LI->Option J)):Option J :=
 kn a b (ac (c+1)) d e f
def Z13 N a b c d e f kn:=(Z14 N a b c d e f (λa b c d e f=>Z20 N a b c d e f kn):Option J)
def Z11 N a b c d e f kn k0:=(Z12 N a b c d e f (λa b c d e f=>Z13 N a b c d e f kn) k0:Option J)
def Z10L{J:Type}(N:Nat)(k0:LI->LI->Option J):Nat->LI->LI->Int->Int->Int->LI->Option J
 |0,_,_,_,_,_,_=>none
 |M+1,a,b,c,d,e,f=>Z11 N a b c d e f (λa b c d e f=>Z10L N k0 M a b c d e f) k0
def Z10 N a b c d e f k0:=(Z10L N k0 N a b c d e f:Option J)
def Z9 N a b c d e f kn:=(Z10 N a b c d e f kn:Option J)
def Z7 N a b c d e kn:=(Z8 N a b c d e (λa b f c d e=>Z9 N a b f c d e kn):Option J)
def Z21{J:Type}(N:Nat)(a b:LI)(kr:LI->LI->Option J):Option J :=
 kr a b
def Z6 N a b c d e kr:=(Z7 N a b c d e (λa b=>Z21 N a b kr):Option J)
def Z4 N a e b c d kr:=(Z5 N a e b c d (λa f b c d=>Z6 N a f b c d kr):Option J)
def Z2 N a b c d kr:=(Z3 N a b c d (λe a b c d=>Z4 N e a b c d kr):Option J)
def Z0 N b a kr:=(Z1 N b a (λa c d e=>Z2 N a c d e kr):Option J)
def Spec:Prop:=∀ (v0:MT) (v1:Int),Ty.bd (.pair (.int .i64) (.pair (.int .i64) (.sl 0 (.int .i64)))) v0->P v0 v1=true->∃N0,∀N,N0<=N->Z0 N v0 v1 (λv4 v5=>some ((),(v4,(v5,()))))=some ((),((g v0 v1).1,((g v0 v1).2,())))
def inner{J:Type}(N:Nat)(k2:List Int->List Int->Int->Int->Int->List Int->Option J)(m:Int×Int×List Int)(hd:aO m=true)(i p:Nat):∀(M j:Nat) (s:List Nat×List Nat),dI m.1.toNat (af m) i s->p<s.1.length->j<=m.1.toNat->m.1.toNat-j<M ->
  Z18L N k2 M (an s.1) (an s.2) (p:Int) (j:Int) m.1 m.2.1 m.2.2 =
   k2 (an (gV (af m) (s.1.getD p 0) ((List.range m.1.toNat).drop j) s).1) (an (gV (af m) (s.1.getD p 0) ((List.range m.1.toNat).drop j) s).2) (p:Int) m.1 m.2.1 m.2.2:=by
 obtain⟨n,r,hn,hr,hn1,hn5,hnr,hr8,hl⟩:=aU hd;intro M;induction M with
 |zero=>intro j s _ _ _ h;omega
 |succ M ih =>
  intro j s hs hp hj hM;have hle:=hs.le;have hlen:=hs.len;simp only[Z18L,Z19];by_cases h:j<m.1.toNat
  ·have hx:s.1.getD p 0<m.1.toNat:=hs.lt _ (bz 0 hp);have h1:Nat.blt ((an s.1).length+([(j:Int)]).length) 1099511627776=true:=by simp[bv,Nat.blt_eq];omega
   have h2:Nat.blt ((an s.2).length+([((an (s.1++[j])).getD (p:Int).toNat 0)]).length) 1099511627776=true:=by simp[bv,Nat.blt_eq];omega
   rw[ct (dt (by omega)),ct (aN (by rw[bv];exact hp)),kJ h,gV];simp only[Int.toNat_natCast,fc];rw[ct (show bJ.P (m.1,(m.2.1,m.2.2)) _ _=true from iU hd (by omega) h),a8 (by rw[bn];omega)];have hA:bJ.g (m.1,(m.2.1,m.2.2)) ((s.1.getD p 0:Nat):Int) (j:Int)=af m (s.1.getD p 0) j:=iS (by omega) _ _;by_cases ha:af m (s.1.getD p 0) j=0;·rw[cf (nf (hA.trans ha)),if_neg (λhc=>hc.1 ha)];exact ih (j+1) s hs hp h (by omega)
   ·rw[ct (nt (λhc=>ha (hA.symm.trans hc)))];by_cases hm:j∈s.1;·rw[fV (by rw[aD,eL.g_iff.2 (DJ.2 hm)];rfl),if_neg (λhc=>hc.2 hm)];exact ih (j+1) s hs hp h (by omega)
    ·have hf:eL.g (an s.1) (j:Int)=false:=by
      cases hc:eL.g (an s.1) (j:Int);·rfl
      ·exact absurd (DJ.1 (eL.g_iff.1 hc)) hm
     rw[gn (by rw[aD,hf];rfl),ct h1,ru,ct (aN (by rw[bv];simp;omega)),if_pos ⟨ha,hm⟩];have e:(s.1++[j]).getD p 0=s.1.getD p 0:=jH hp;rw[fc,e,ru];rw[fc,Int.toNat_natCast,e]at h2;rw[ct h2];have:=ih (j+1) (s.1++[j],s.2++[s.1.getD p 0]) (hs.step hp h ⟨ha,hm⟩) (by simp;omega) h (by omega);simp only[e]at this;exact this
  ·rw[cf (df (by omega)),List.drop_of_length_le (by simp;omega),gV]
def loop{J:Type}(N:Nat)(hN:10<=N)(k0:List Int->List Int->Option J)(m:Int×Int×List Int)(hd:aO m=true)(i:Nat):∀(M p:Nat) (s:List Nat×List Nat),dI m.1.toNat (af m) i s->p<=m.1.toNat->m.1.toNat-p<M ->
  Z10L N k0 M (an s.1) (an s.2) (p:Int) m.1 m.2.1 m.2.2=k0 (an (iV (af m) m.1.toNat (m.1.toNat-p) p s).1) (an (iV (af m) m.1.toNat (m.1.toNat-p) p s).2):=by
 obtain⟨n,r,hn,hr,hn1,hn5,hnr,hr8,hl⟩:=aU hd;intro M;induction M with
 |zero=>intro p s _ _ h;omega
 |succ M ih =>
  intro p s hs hp hM;have hle:=hs.le;simp only[Z10L,Z11,Z12];by_cases h:p<s.1.length;·rw[ct (dt (by rw[bv];omega))];simp only[Z13,Z14,Z15,Z16,Z17,Z18,Z20];have hin:=inner (J:=J) N (λa b c d e f=>Z10L N k0 M a b (ac (c+1)) d e f) m hd i p N 0 s hs h (by omega) (by omega);rw[show((0:Nat):Int)=0 from rfl]at hin;rw[hin,a8 (by rw[bn];omega),List.drop_zero];obtain⟨h1,h2,h3⟩:=uc (p:=p) (List.range m.1.toNat) s hs h (λx hx=>List.mem_range.1 hx);rw[ih (p+1) _ h1 (by omega) (by omega),show m.1.toNat-p=(m.1.toNat-(p+1))+1 by omega,iV,if_pos h]
  ·rw[cf (df (by rw[bv];omega))];cases hc:m.1.toNat-p with
   |zero=>rfl
   |succ f=>rw[iV,if_neg h]
def ok:Spec:=λm i hb hp=>⟨10,λN hN=>by simp only[P,Bool.and_eq_true,decide_eq_true_eq]at hp;obtain⟨hd,h0,h1⟩:=hp;obtain⟨x,rfl⟩:=Int.eq_ofNat_of_zero_le h0;obtain⟨n,r,hn,hr,hn1,hn5,hnr,hr8,hl⟩:=aU hd;simp only[Z0,Z1,Z2,Z3,Z4,Z5,Z6,Z7,Z8,Z9,Z10,Z21];have:=loop (J:=Unit×List Int×List Int×Unit) N hN (λa b=>some ((),(a,(b,())))) m hd x N 0 ([x],[x]) (dI.first (by omega)) (by omega) (by omega);exact this⟩
end cr
namespace gJ
def g(n:Int):Int:=mx n (ac (0-n))
def Z0{J:Type}(N:Nat)(a:Int)(kr:Int->Option J):Option J :=
 kr (mx a (ac (0-a)))
def Spec:Prop:=∀ (v0:Int),∃N0,∀N,N0<=N->Z0 N v0 (λv2=>some ((),(v2,())))=some ((),((g v0),()))
def ok:Spec:=λn=>⟨0,λN hN=>by simp only[Z0,g]⟩
end gJ
namespace fw
def P(a b:Int):Bool:=decide (0<=a)&&(decide (a<9223372036854775808)&&(decide (0<=b)&&decide (b<9223372036854775808)))
def g(a b:Int):Int:=(Int.gcd a b:Int)
def Z1{J:Type}(N:Nat)(a b:Int)(kn:I2 (Option J)):Option J :=
 kn a b
def Z5{J:Type}(N:Nat)(b a:Int)(kn:I2 (Option J))(k0:Int->Option J):Option J :=
 cond (lk N (!(decide (a=0))))
 (
  cond (lk N (!(decide (a=0)))) (
   kn a (Int.tmod b a)) none)
 (
  k0 b)
def Z4L{J:Type}(N:Nat)(k0:Int->Option J):Nat->Int->Int->Option J
 |0,_,_=>none
 |M+1,a,b=>Z5 N a b (λa b=>Z4L N k0 M a b) k0
def Z4 N a b k0:=(Z4L N k0 N a b:Option J)
def Z3 N a b kn:=(Z4 N a b kn:Option J)
def Z6{J:Type}(N:Nat)(a:Int)(kr:Int->Option J):Option J :=
 kr a
def Z2 N a b kr:=(Z3 N a b (λa=>Z6 N a kr):Option J)
def Z0 N a b kr:=(Z1 N a b (λa b=>Z2 N a b kr):Option J)
def Spec:Prop:=∀ (v0 v1:Int),P v0 v1=true->∃N0,∀N,N0<=N->Z0 N v0 v1 (λv4=>some ((),(v4,())))=some ((),((g v0 v1),()))
def loop{J:Type}(N:Nat)(k0:Int->Option J):∀(M:Nat) (a b:Nat),b<M->Z4L N k0 M (a:Int) (b:Int)=k0 (Nat.gcd b a:Nat):=by
 intro M;induction M with
 |zero=>intro a b h;omega
 |succ M ih =>
  intro a b hM;simp only[Z4L,Z5];by_cases h:b=0;·subst h;rw[cf (by simp),Nat.gcd_zero_left]
  ·rw[ct (nt (by omega)),ct (nt (by omega)),show Int.tmod (a:Int) (b:Int)=((a%b:Nat):Int)from rfl,ih _ _ (by have:=Nat.mod_lt a (Nat.pos_of_ne_zero h);omega),<-Nat.gcd_rec]
def ok:Spec:=λa b hp=>⟨b.toNat+1,λN hN=>by simp only[P,Bool.and_eq_true,decide_eq_true_eq]at hp;obtain⟨h1,h2,h3,h4⟩:=hp;obtain⟨x,rfl⟩:=Int.eq_ofNat_of_zero_le h1;obtain⟨y,rfl⟩:=Int.eq_ofNat_of_zero_le h3;simp only[Z1,Z5,Z4,Z3,Z6,Z2,Z0,g];rw[loop N _ N x y (by omega),Nat.gcd_comm];rfl⟩
end fw
namespace aV
def P(m:Int×Int×List Int):Bool:=aP m
def g(m:Int×Int×List Int):List Int×Bool:=(ba m,!decide (ba m=[]))
def Z1{J:Type}(N:Nat)(a:MT)(kn:I2 (LI->Option J)):Option J :=
 kn a.1 a.2.1 a.2.2
def Z3{J:Type}(N:Nat)(a b:Int)(c:LI)(kn:LI->I2 (LI->Option J)):Option J :=
 cond (lk N (bN 0 a&&decide (a<1099511627776))) (
  kn (List.replicate a.toNat (0:Int)) a b c) none
def Z6{J:Type}(N:Nat)(a:LI)(b c:Int)(d:LI)(kn:LI->I3 (LI->Option J)):Option J :=
 kn a 0 b c d
def Z10{J:Type}(N:Nat)(b:LI)(c a d:Int)(e:LI)(kn:LI->I3 (LI->Option J))(k0:LI->I2 (LI->Option J)):Option J :=
 cond (lk N (decide (c<a)))
 (
  kn b c a d e)
 (
  k0 b a d e)
def Z14{J:Type}(N:Nat)(a:LI)(b c d:Int)(e:LI)(kn k1:LI->I3 (LI->Option J)):Option J :=
 cond (lk N (ax b a.length)) (
  cond (lk N (decide (0<(a.getD b.toNat 0))))
  (
   k1 a b c d e)
  (
   kn a b c d e)) none
def Z16{J:Type}(N:Nat)(e:LI)(a b c:Int)(d:LI)(kn:LI->LI->LI->I3 (LI->Option J)):Option J :=
 cond (lk N (cr.P (b,(c,d)) a)) (
  kn e (cr.g (b,(c,d)) a).1 (cr.g (b,(c,d)) a).2 a b c d) none
def Z18{J:Type}(N:Nat)(b c d:LI)(a e f:Int)(g:LI)(kn:LI->LI->LI->I3 (LI->Option J)):Option J :=
 cond (lk N (ax a b.length)) (
  kn (b.set a.toNat 1) c d a e f g) none
def Z21{J:Type}(N:Nat)(a b c:LI)(d e f:Int)(g:LI)(kn:LI->LI->LI->I4 (LI->Option J)):Option J :=
 kn a b c d 1 e f g
def Z24{J:Type}(N:Nat)(d b e:LI)(c a f h:Int)(i:LI)(kn:LI->LI->LI->I4 (LI->Option J))(k2:LI->LI->LI->I3 (LI->Option J)):Option J :=
 cond (lk N (decide (a<(b.length:Int))))
 (
  cond (lk N (ax c d.length)) (
   cond (lk N (ax a b.length)) (
    cond (lk N (ax a e.length)) (
     cond (lk N (bJ.P (f,(h,i)) (b.getD a.toNat 0) (e.getD a.toNat 0))) (
      cond (lk N (ax c d.length)) (
       kn (d.set c.toNat (ac ((d.getD c.toNat 0)*(gJ.g (bJ.g (f,(h,i)) (b.getD a.toNat 0) (e.getD a.toNat 0)))))) b e c (ac (a+1)) f h i) none) none) none) none) none)
 (
  k2 d b e c f h i)
def Z23L{J:Type}(N:Nat)(k2:LI->LI->LI->I3 (LI->Option J)):Nat->LI->LI->LI->Int->Int->Int->Int->LI->Option J
 |0,_,_,_,_,_,_,_,_=>none
 |M+1,a,b,c,d,e,f,g,h=>Z24 N a b c d e f g h (λa b c d e f g h=>Z23L N k2 M a b c d e f g h) k2
def Z23 N a b c d e f g h k2:=(Z23L N k2 N a b c d e f g h:Option J)
def Z22 N a b c d e f g h kn:=(Z23 N a b c d e f g h kn:Option J)
def Z20 N a b c d e f g kn:=(Z21 N a b c d e f g (λa b c d h e f g=>Z22 N a b c d h e f g kn):Option J)
def Z26{J:Type}(N:Nat)(a c d:LI)(b e f:Int)(g:LI)(kn:LI->LI->LI->I4 (LI->Option J)):Option J :=
 cond (lk N (ax b a.length)) (
  kn a c d b (a.getD b.toNat 0) e f g) none
def Z29{J:Type}(N:Nat)(a b c:LI)(d e f g:Int)(h:LI)(kn:LI->LI->LI->I5 (LI->Option J)):Option J :=
 kn a b c d e 1 f g h
def Z32{J:Type}(N:Nat)(h b c:LI)(j i a d e:Int)(f:LI)(kn:LI->LI->LI->I5 (LI->Option J))(k4:LI->LI->I4 (LI->Option J)):Option J :=
 let x1_:=(gJ.g (bJ.g (d,(e,f)) (b.getD a.toNat 0) (c.getD a.toNat 0)));let x2_:=(lk N (ax a b.length));let x0_:=(h.set (b.getD a.toNat 0).toNat (ac (Int.tdiv (ac ((h.getD (c.getD a.toNat 0).toNat 0)*(gJ.g (bJ.g (d,(e,f)) (c.getD a.toNat 0) (b.getD a.toNat 0))))) x1_)));cond (lk N (decide (a<(b.length:Int))))
 (
 cond x2_ (
 cond (lk N (ax a c.length)) (
 cond (lk N (ax (c.getD a.toNat 0) h.length)) (
 cond (lk N (ax a c.length)) (
 cond x2_ (
 cond x2_ (
 cond (lk N (ax a c.length)) (
 cond (lk N (bJ.P (d,(e,f)) (c.getD a.toNat 0) (b.getD a.toNat 0))) (
 cond (lk N (bJ.P (d,(e,f)) (b.getD a.toNat 0) (c.getD a.toNat 0))) (
 cond (lk N (!(decide (x1_=0)))) (
 cond (lk N (ax (b.getD a.toNat 0) h.length)) (
 cond x2_ (
 cond (lk N (ax (b.getD a.toNat 0) x0_.length)) (
 cond (lk N (fw.P i (x0_.getD (b.getD a.toNat 0).toNat 0))) (
 kn x0_ b c j (fw.g i (x0_.getD (b.getD a.toNat 0).toNat 0)) (ac (a+1)) d e f) none) none) none) none) none) none) none) none) none) none) none) none) none) none)
 (
 k4 h b j i d e f)
def Z31L{J:Type}(N:Nat)(k4:LI->LI->I4 (LI->Option J)):Nat->LI->LI->LI->Int->Int->Int->Int->Int->LI->Option J
 |0,_,_,_,_,_,_,_,_,_=>none
 |M+1,a,b,c,d,e,f,g,h,i=>Z32 N a b c d e f g h i (λa b c d e f g h i=>Z31L N k4 M a b c d e f g h i) k4
def Z31 N a b c d e f g h i k4:=(Z31L N k4 N a b c d e f g h i:Option J)
def Z30 N a b c d e f g h i kn:=(Z31 N a b c d e f g h i kn:Option J)
def Z28 N a b c d e f g h kn:=(Z29 N a b c d e f g h (λa b c d e i f g h=>Z30 N a b c d e i f g h kn):Option J)
def Z34{J:Type}(N:Nat)(a b:LI)(c d e f:Int)(g:LI)(kn:LI->LI->I5 (LI->Option J)):Option J :=
 kn a b c d 0 e f g
def Z37{J:Type}(N:Nat)(c a:LI)(e d b f g:Int)(h:LI)(kn:LI->LI->I5 (LI->Option J))(k6:LI->I3 (LI->Option J)):Option J :=
 cond (lk N (decide (b<(a.length:Int))))
 (
  cond (lk N (ax b a.length)) (
   cond (lk N (ax b a.length)) (
    cond (lk N (ax (a.getD b.toNat 0) c.length)) (
     cond (lk N (!(decide (d=0)))) (
      cond (lk N (ax (a.getD b.toNat 0) c.length)) (
       kn (c.set (a.getD b.toNat 0).toNat (ac (Int.tdiv (c.getD (a.getD b.toNat 0).toNat 0) d))) a e d (ac (b+1)) f g h) none) none) none) none) none)
 (
  k6 c e f g h)
def Z36L{J:Type}(N:Nat)(k6:LI->I3 (LI->Option J)):Nat->LI->LI->Int->Int->Int->Int->Int->LI->Option J
 |0,_,_,_,_,_,_,_,_=>none
 |M+1,a,b,c,d,e,f,g,h=>Z37 N a b c d e f g h (λa b c d e f g h=>Z36L N k6 M a b c d e f g h) k6
def Z36 N a b c d e f g h k6:=(Z36L N k6 N a b c d e f g h:Option J)
def Z35 N a b c d e f g h kn:=(Z36 N a b c d e f g h kn:Option J)
def Z33 N a b c d e f g kn:=(Z34 N a b c d e f g (λa b c d h e f g=>Z35 N a b c d h e f g kn):Option J)
def Z27 N a b h c d e f g kn:=(Z28 N a b h c d e f g (λa b c d e f g=>Z33 N a b c d e f g kn):Option J)
def Z25 N a b c d e f g kn:=(Z26 N a b c d e f g (λa b c d h e f g=>Z27 N a b c d h e f g kn):Option J)
def Z19 N a b c d e f g kn:=(Z20 N a b c d e f g (λa b c d e f g=>Z25 N a b c d e f g kn):Option J)
def Z17 N a b c d e f g kn:=(Z18 N a b c d e f g (λa b c d e f g=>Z19 N a b c d e f g kn):Option J)
def Z15 N a b c d e kn:=(Z16 N a b c d e (λa f g b c d e=>Z17 N a f g b c d e kn):Option J)
def Z13 N a b c d e kn k1:=(Z14 N a b c d e (λa b c d e=>Z15 N a b c d e kn) k1:Option J)
def Z12 N a b c d e kn:=(Z13 N a b c d e kn kn:Option J)
def Z38{J:Type}(N:Nat)(a:LI)(b c d:Int)(e:LI)(kn:LI->I3 (LI->Option J)):Option J :=
 kn a (ac (b+1)) c d e
def Z11 N a b c d e kn:=(Z12 N a b c d e (λa b c d e=>Z38 N a b c d e kn):Option J)
def Z9 N a b c d e kn k0:=(Z10 N a b c d e (λa b c d e=>Z11 N a b c d e kn) k0:Option J)
def Z8L{J:Type}(N:Nat)(k0:LI->I2 (LI->Option J)):Nat->LI->Int->Int->Int->LI->Option J
 |0,_,_,_,_,_=>none
 |M+1,a,b,c,d,e=>Z9 N a b c d e (λa b c d e=>Z8L N k0 M a b c d e) k0
def Z8 N a b c d e k0:=(Z8L N k0 N a b c d e:Option J)
def Z7 N a b c d e kn:=(Z8 N a b c d e kn:Option J)
def Z5 N a b c d kn:=(Z6 N a b c d (λa e b c d=>Z7 N a e b c d kn):Option J)
def Z41{J:Type}(N:Nat)(a:LI)(b c:Int)(d:LI)(kn:LI->I3 (LI->Option J)):Option J :=
 kn a 0 b c d
def Z45{J:Type}(N:Nat)(a:LI)(b c d:Int)(e:LI)(kn:LI->I3 (LI->Option J))(k8:LI->Option J):Option J :=
 cond (lk N (decide (b<c)))
 (
  kn a b c d e)
 (
  k8 a)
def Z49{J:Type}(N:Nat)(a:LI)(b c d:Int)(e:LI)(kn:LI->I4 (LI->Option J)):Option J :=
 kn a b 0 c d e
def Z52{J:Type}(N:Nat)(d:LI)(a b c e:Int)(f:LI)(kn:LI->I4 (LI->Option J))(k10:LI->I3 (LI->Option J))(kr:LI->Bool->Option J):Option J :=
 cond (lk N (decide (b<c)))
 (
  cond (lk N (ax a d.length)) (
   cond (lk N (ax b d.length)) (
    cond (lk N (bJ.P (c,(e,f)) a b)) (
     cond (lk N (bJ.P (c,(e,f)) b a)) (
      cond (lk N (!(decide ((ac ((d.getD a.toNat 0)*(bJ.g (c,(e,f)) a b)))=(ac (0-(ac ((d.getD b.toNat 0)*(bJ.g (c,(e,f)) b a)))))))))
      (
       kr ([]:List Int) false)
      (
       kn d a (ac (b+1)) c e f)) none) none) none) none)
 (
  k10 d a c e f)
def Z51L{J:Type}(N:Nat)(k10:LI->I3 (LI->Option J))(kr:LI->Bool->Option J):Nat->LI->Int->Int->Int->Int->LI->Option J
 |0,_,_,_,_,_,_=>none
 |M+1,a,b,c,d,e,f=>Z52 N a b c d e f (λa b c d e f=>Z51L N k10 kr M a b c d e f) k10 kr
def Z51 N a b c d e f k10 kr:=(Z51L N k10 kr N a b c d e f:Option J)
def Z50 N a b c d e f kn kr:=(Z51 N a b c d e f kn kr:Option J)
def Z48 N a b c d e kn kr:=(Z49 N a b c d e (λa b f c d e=>Z50 N a b f c d e kn kr):Option J)
def Z47 N a b c d e kn kr:=(Z48 N a b c d e kn kr:Option J)
def Z53{J:Type}(N:Nat)(a:LI)(b c d:Int)(e:LI)(kn:LI->I3 (LI->Option J)):Option J :=
 kn a (ac (b+1)) c d e
def Z46 N a b c d e kn kr:=(Z47 N a b c d e (λa b c d e=>Z53 N a b c d e kn) kr:Option J)
def Z44 N a b c d e kn k8 kr:=(Z45 N a b c d e (λa b c d e=>Z46 N a b c d e kn kr) k8:Option J)
def Z43L{J:Type}(N:Nat)(k8:LI->Option J)(kr:LI->Bool->Option J):Nat->LI->Int->Int->Int->LI->Option J
 |0,_,_,_,_,_=>none
 |M+1,a,b,c,d,e=>Z44 N a b c d e (λa b c d e=>Z43L N k8 kr M a b c d e) k8 kr
def Z43 N a b c d e k8 kr:=(Z43L N k8 kr N a b c d e:Option J)
def Z42 N a b c d e kn kr:=(Z43 N a b c d e kn kr:Option J)
def Z40 N a b c d kn kr:=(Z41 N a b c d (λa e b c d=>Z42 N a e b c d kn kr):Option J)
def Z54{J:Type}(N:Nat)(a:LI)(kr:LI->Bool->Option J):Option J :=
 kr a true
def Z39 N a b c d kr:=(Z40 N a b c d (λa=>Z54 N a kr) kr:Option J)
def Z4 N a b c d kr:=(Z5 N a b c d (λa b c d=>Z39 N a b c d kr):Option J)
def Z2 N a b c kr:=(Z3 N a b c (λd a b c=>Z4 N d a b c kr):Option J)
def Z0 N a kr:=(Z1 N a (λb c d=>Z2 N b c d kr):Option J)
def Spec:Prop:=∀ (v0:MT),Ty.bd (.pair (.int .i64) (.pair (.int .i64) (.sl 0 (.int .i64)))) v0->P v0=true->∃N0,∀N,N0<=N->Z0 N v0 (λv2 v3=>some ((),(v2,(v3,()))))=some ((),((g v0).1,((g v0).2,())))
def ze{a:Int}(h:-99<=a/\a<=99):gJ.g a=aS a:=by unfold gJ.g;rw[aR (by omega) (by omega),tV];unfold aS;omega
section
variable {J : Type} {N : Nat} {m : Int × Int × List Int} {s : List Nat × List Nat} {i : Nat}
def at_g(hd:0<=m.1)(a b:Nat):bJ.g (m.1,(m.2.1,m.2.2)) (a:Int) (b:Int)=af m a b:=iS hd a b
def at_p(hd:aO m=true){a b:Nat}(ha:a<m.1.toNat)(hb:b<m.1.toNat):bJ.P (m.1,(m.2.1,m.2.2)) (a:Int) (b:Int)=true:=by obtain⟨n,r,hn,hr,hn1,hn5,hnr,hr8,hl⟩:=aU hd;exact iU hd (by omega) hb
def loop1(hs:aP m=true)(h:dI m.1.toNat (af m) i s)(hi:i<m.1.toNat)(k2:List Int->List Int->List Int->Int->Int->Int->List Int->Option J)(d0:List Int)(hd0:d0.length=m.1.toNat):∀(M k:Nat),1<=k->k<=s.1.length->s.1.length-k<M ->
  Z23L N k2 M (d0.set i (dH (qK m s) k)) (an s.1) (an s.2) (i:Int) (k:Int) m.1 m.2.1 m.2.2=k2 (d0.set i (dH (qK m s) s.1.length)) (an s.1) (an s.2) (i:Int) m.1 m.2.1 m.2.2:=by
 have hdim:=cI (cX hs);obtain⟨n,r,hn,hr,hn1,hn5,hnr,hr8,hl⟩:=aU hdim;have hle:=h.le;intro M;induction M with
 |zero=>intro k _ _ hM;omega
 |succ M ih =>
  intro k h1 hk hM;simp only[Z23L,Z24];by_cases hlt:k<s.1.length
  ·have hb:=rz (rC hs h) (k+1) (by omega);have hp9:=rA (k:=k+1) (by omega);have e:qK m s k=gJ.g (af m (s.1.getD k 0) (s.2.getD k 0)):=by rw[ze (fX (cX hs) _ _),qK,if_neg (by omega)]
   rw[ct (dt (by rw[bv];omega)),ct (aN (by rw[List.length_set];omega)),ct (aN (by rw[bv];omega)),ct (aN (by rw[bv,h.len];omega))];simp only[Int.toNat_natCast,fc];rw[ct (at_p hdim (h.lt _ (bz 0 hlt)) (rB h h1 hlt)),ct (aN (by rw[List.length_set];omega)),List.set_set,cU (by omega),if_pos rfl,at_g (by omega),<-e,
    show dH (qK m s) k*qK m s k=dH (qK m s) (k+1)from rfl,aR (by omega) (by omega),a8 (by rw[bn];omega)]
   exact ih (k+1) (by omega) (by omega) (by omega)
  ·rw[cf (df (by rw[bv];omega)),show k=s.1.length by omega]
def loop2(hs:aP m=true)(h:dI m.1.toNat (af m) i s)(k4:List Int->List Int->Int->Int->Int->Int->List Int->Option J)(d0:List Int):∀(M k:Nat) (d:List Int) (g:Int),1<=k->k<=s.1.length->s.1.length-k<M->T2 m s d0 k d g ->
  ∃d' g',T2 m s d0 s.1.length d' g'/\Z31L N k4 M d (an s.1) (an s.2) (i:Int) g (k:Int) m.1 m.2.1 m.2.2=k4 d' (an s.1) (i:Int) g' m.1 m.2.1 m.2.2:=by
 have hdim:=cI (cX hs);obtain⟨n,r,hn,hr,hn1,hn5,hnr,hr8,hl⟩:=aU hdim;have hle:=h.le;intro M;induction M with
 |zero=>intro k _ _ _ _ hM;omega
 |succ M ih =>
  intro k d g h1 hk hM ht;simp only[Z31L,Z32];by_cases hlt:k<s.1.length
  ·obtain⟨⟨a1,a2⟩,⟨b1,b2⟩,hst⟩:=ht.step hs h (by omega) h1 hlt;obtain⟨⟨hq,_⟩,hp,_⟩:=uf hs h h1 hlt;have hg:=ht.g_range h1;have hx:=h.lt _ (bz 0 hlt);have hf:=rB h h1 hlt;have e1:gJ.g (af m (s.1.getD k 0) (s.2.getD k 0))=qK m s k:=by rw[ze (fX (cX hs) _ _),qK,if_neg (by omega)]
   have e2:gJ.g (af m (s.2.getD k 0) (s.1.getD k 0))=pK m s k:=by rw[ze (fX (cX hs) _ _),pK]
   have c1:ax (k:Int) (an s.1).length=true:=aN (by rw[bv];omega);have c2:ax (k:Int) (an s.2).length=true:=aN (by rw[bv,h.len];omega);rw[ct (dt (by rw[bv];omega)),ct c1,ct c2];simp only[Int.toNat_natCast,fc];rw[ct (aN (by rw[ht.len];exact hf)),ct c2,ct c1,ct c1,ct c2,ct (at_p hdim hf hx),ct (at_p hdim hx hf)];simp only[at_g (show 0<=m.1 by omega),e1,e2];rw[ct (nt (by omega)),ct (aN (by rw[ht.len];exact hx)),ct c1];simp only[aR (show -9223372036854775808<=d.getD (s.2.getD k 0) 0*pK m s k by omega) (by omega)];simp only[aR (show -9223372036854775808<=Int.tdiv (d.getD (s.2.getD k 0) 0*pK m s k) (qK m s k) by omega) (by omega)];rw[ct (aN (by rw[List.length_set,ht.len];exact hx)),cU (by rw[ht.len];exact hx),if_pos rfl];rw[ct (show fw.P g _=true by simp only[fw.P,Bool.and_eq_true,decide_eq_true_eq];exact⟨by omega,by omega,by omega,by omega⟩),a8 (by rw[bn];omega)];exact ih (k+1) _ _ (by omega) (by omega) (by omega) hst
  ·have e:k=s.1.length:=by omega
   subst e;exact⟨d,g,ht,by rw[cf (df (by rw[bv];omega))]⟩
def loop3(hs:aP m=true)(h:dI m.1.toNat (af m) i s)(k6:List Int->Int->Int->Int->List Int->Option J)(d0 d2:List Int)(g:Int)(h2:T2 m s d0 s.1.length d2 g):∀(M k:Nat) (d:List Int),k<=s.1.length->s.1.length-k<M->T3 m s d2 g k d ->
  ∃d',T3 m s d2 g s.1.length d'/\Z36L N k6 M d (an s.1) (i:Int) g (k:Int) m.1 m.2.1 m.2.2=k6 d' (i:Int) m.1 m.2.1 m.2.2:=by
 have hle:=h.le;have hdim:=cI (cX hs);obtain⟨n,r,hn,hr,hn1,hn5,hnr,hr8,hl⟩:=aU hdim;have hg:=h2.g_range h.pos;intro M;induction M with
 |zero=>intro k _ _ hM;omega
 |succ M ih =>
  intro k d hk hM ht;simp only[Z36L,Z37];by_cases hlt:k<s.1.length
  ·have hx:=h.lt _ (bz 0 hlt);have c1:ax (k:Int) (an s.1).length=true:=aN (by rw[bv];omega);have hv:=h2.val k hlt;have hp8:=rA (k:=4+k) (by omega);have hdv:0<=Int.tdiv (d2.getD (s.1.getD k 0) 0) g/\Int.tdiv (d2.getD (s.1.getD k 0) 0) g<=9227446944279201:=by rw[Int.tdiv_eq_ediv_of_nonneg (by omega)];refine⟨Int.ediv_nonneg (by omega) (by omega), ?_⟩;have:=Int.ediv_le_self (a:=d2.getD (s.1.getD k 0) 0) g (by omega);omega
   rw[ct (dt (by rw[bv];omega)),ct c1,ct c1];simp only[Int.toNat_natCast,fc];rw[ct (aN (by rw[ht.len];exact hx)),ct (nt (by omega)),ct (aN (by rw[ht.len];exact hx)),ht.cur h.nd h.lt hlt,aR (by omega) (by omega),a8 (by rw[bn];omega)];exact ih (k+1) _ (by omega) (by omega) (ht.step h.nd h.lt hlt)
  ·have e:k=s.1.length:=by omega
   subst e;exact⟨d,ht,by rw[cf (df (by rw[bv];omega))]⟩
def outer(hN:10<=N)(hs:aP m=true)(k0:List Int->Int->Int->List Int->Option J):∀(M i:Nat) (d:List Int),i<=m.1.toNat->m.1.toNat-i<M->d.length=m.1.toNat->j9 m.1.toNat (af m) (λx=>d.getD x 0)->(∀x,x<i->0<d.getD x 0) ->
  ∃d',(d'.length=m.1.toNat/\j9 m.1.toNat (af m) (λx=>d'.getD x 0)/\∀x,x<m.1.toNat->0<d'.getD x 0)/\Z8L N k0 M d (i:Int) m.1 m.2.1 m.2.2=k0 d' m.1 m.2.1 m.2.2:=by
 have hdim:=cI (cX hs);obtain⟨n,r,hn,hr,hn1,hn5,hnr,hr8,hl⟩:=aU hdim;intro M;induction M with
 |zero=>intro i _ _ hM;omega
 |succ M ih =>
  intro i d hi hM hdl hpt hpos;simp only[Z8L,Z9,Z10];by_cases hlt:i<m.1.toNat
  ·rw[ct (dt (by omega))];simp only[Z11,Z12,Z13,Z14];rw[ct (aN (by omega)),Int.toNat_natCast];by_cases hd:0<d.getD i 0
   ·rw[ct (dt hd)];simp only[Z38];rw[a8 (by rw[bn];omega)];exact ih (i+1) d hlt (by omega) hdl hpt (λx hx=>by
     by_cases e:x=i;·subst e;exact hd
     ·exact hpos x (by omega))
   ·rw[cf (df hd)];obtain⟨h,hcl⟩:=ud hlt;simp only[Z15,Z16];rw[ct (show cr.P (m.1,(m.2.1,m.2.2)) (i:Int)=true by simp only[cr.P,Bool.and_eq_true,decide_eq_true_eq];exact⟨hdim,by omega,by omega⟩)];simp only[Z17,Z18];rw[ct (aN (by omega)),Int.toNat_natCast];have eP:cr.g (m.1,(m.2.1,m.2.2)) (i:Int)=(an (cP m i).1,an (cP m i).2):=rfl;rw[eP];generalize cP m i=s at h hcl;have hle:=h.le;simp only[Z19,Z20,Z21,Z22,Z23];have l1:=loop1 (J:=J) (N:=N) hs h hlt (λa b c d e f g=>Z25 N a b c d e f g (λa b c d e=>Z38 N a b c d e (λa b c d e=>Z8L N k0 M a b c d e))) d hdl N 1 (by omega) h.pos (by omega);rw[show dH (qK m s) 1=1 by simp[dH,qK]]at l1;rw[show(((1:Nat):Int))=1 from rfl]at l1;rw[l1];simp only[Z25,Z26];have hset:∀v,(d.set i v).length=m.1.toNat:=λv=>by rw[List.length_set];exact hdl
    rw[ct (aN (by rw[hset];exact hlt)),Int.toNat_natCast,cU (by omega),if_pos rfl];simp only[Z27,Z28,Z29,Z30,Z31];have hH:=rz (rC hs h) s.1.length (by omega);have hHp:(99:Int) ^ s.1.length<=99 ^ (4+0)\/s.1.length=5:=by
     by_cases e:s.1.length=5;·exact Or.inr e
     ·left;have:99 ^ s.1.length<=99 ^ (4+0):=Nat.pow_le_pow_right (by omega) (by omega);exact_mod_cast this
    have hH4:dH (qK m s) s.1.length<=99 ^ (4+0):=by
     rcases hHp with hc|hc;·omega
     ·rw[hc];have q1:dH (qK m s) 1=1:=by simp[dH,qK]
      have b:∀k,1<=k->k<=s.1.length->dH (qK m s) k<=99 ^ (k-1):=by
       intro k;induction k with
       |zero=>intro h _;omega
       |succ k ihk =>
        intro _ hk;by_cases e:k=0;·subst e;rw[q1];decide
        ·have c1:=ihk (by omega) (by omega);have c2:=rC hs h k (by omega);have c3:=rz (rC hs h) k (by omega);have:dH (qK m s) k*qK m s k<=99 ^ (k-1)*99:=Int.mul_le_mul c1 c2.2 (by omega) (Int.pow_nonneg (by omega));rw[<-Int.pow_succ,show(k-1).succ=k by omega]at this;exact this
      exact b 5 (by omega) (by omega)
    have t0:T2 m s d 1 (d.set i (dH (qK m s) s.1.length)) (dH (qK m s) s.1.length):=by
     refine⟨hset _, ?_, ?_,λk h1 h2=>by omega, ?_⟩;·intro x hx hall;rw[cU (by omega),if_neg (λe=>hall 0 (by omega) (by rw[h.hd];exact e.symm))]
     ·intro k hk;have e:k=0:=by omega
      subst e;rw[h.hd,cU (by omega),if_pos rfl];refine⟨hH.1,hH4,⟨dH (qK m s) 1,rfl⟩⟩
     ·show _=((cq [(d.set i (dH (qK m s) s.1.length)).getD (s.1.getD 0 0) 0]:Nat):Int);rw[h.hd,cU (by omega),if_pos rfl,cq,cq,Nat.gcd_zero_right];omega
    obtain⟨d2,g2,ht2,l2⟩:=loop2 (J:=J) (N:=N) hs h (λa b c d e f g=>Z33 N a b c d e f g (λa b c d e=>Z38 N a b c d e (λa b c d e=>Z8L N k0 M a b c d e))) d N 1 _ _ (by omega) h.pos (by omega) t0;rw[show(((1:Nat):Int))=1 from rfl]at l2;rw[l2];simp only[Z33,Z34,Z35,Z36];obtain⟨d3,ht3,l3⟩:=loop3 (J:=J) (N:=N) hs h (λa b c d e=>Z38 N a b c d e (λa b c d e=>Z8L N k0 M a b c d e)) d d2 g2 ht2 N 0 d2 (by omega) (by omega) ⟨ht2.len,λ_ _ _=>rfl,λk hk=>by omega⟩;rw[show(((0:Nat):Int))=0 from rfl]at l3;rw[l3];obtain⟨p1,p2,p3⟩:=NH hs hlt h (by omega) hcl hpt (by omega) ht2 ht3;simp only[Z38];rw[a8 (by rw[bn];omega)];exact ih (i+1) d3 hlt (by omega) ht3.len p1 (λx hx=>by
     by_cases e:x=i;·subst e;exact p2
     ·exact p3 x (by omega) (hpos x (by omega)))
  ·rw[cf (df (by omega))];exact⟨d,⟨hdl,hpt,λx hx=>hpos x (by omega)⟩,rfl⟩
def oX(m:Int×Int×List Int)(d:List Int)(i j:Nat):Prop:=d.getD i 0*af m i j=-(d.getD j 0*af m j i)
def D7(hs:aX m=true){d:List Int}(hd:j9 m.1.toNat (af m) (λx=>d.getD x 0)){i j:Nat}(hi:i<m.1.toNat)(hj:j<m.1.toNat) :
  (ac (d.getD i 0*af m i j)=ac (0-ac (d.getD j 0*af m j i)))↔oX m d i j:=by
 have key:∀a b:Nat,a<m.1.toNat->-913517247483640899<=d.getD a 0*af m a b/\d.getD a 0*af m a b<=913517247483640899:=by intro a b ha;obtain⟨h1,h2,_⟩:=hd a ha;have h3:=fX hs a b;have h1':0<=d.getD a 0:=h1;have h2':d.getD a 0<=9227446944279201:=h2;have c1:d.getD a 0*af m a b<=d.getD a 0*99:=Int.mul_le_mul_of_nonneg_left h3.2 h1';have c2:d.getD a 0*(-99)<=d.getD a 0*af m a b:=Int.mul_le_mul_of_nonneg_left h3.1 h1';omega
 have k1:=key i j hi;have k2:=key j i hj;rw[aR (by omega) (by omega),aR (n:=d.getD j 0*af m j i) (by omega) (by omega),aR (by omega) (by omega),Int.zero_sub];rfl
def N4(hs:aP m=true){d:List Int}(hdl:d.length=m.1.toNat)(hd:j9 m.1.toNat (af m) (λx=>d.getD x 0))(k10:List Int->Int->Int->Int->List Int->Option J)(kr:List Int->Bool->Option J){i:Nat}(hi:i<m.1.toNat):∀(M j:Nat),j<=m.1.toNat->m.1.toNat-j<M ->
  (Z51L N k10 kr M d (i:Int) (j:Int) m.1 m.2.1 m.2.2=kr [] false/\∃j',j'<m.1.toNat/\¬ oX m d i j') \/
  (Z51L N k10 kr M d (i:Int) (j:Int) m.1 m.2.1 m.2.2=k10 d (i:Int) m.1 m.2.1 m.2.2/\∀j',j<=j'->j'<m.1.toNat->oX m d i j'):=by
 have hdim:=cI (cX hs);obtain⟨n,r,hn,hr,hn1,hn5,hnr,hr8,hl⟩:=aU hdim;intro M;induction M with
 |zero=>intro j _ hM;omega
 |succ M ih =>
  intro j hj hM;simp only[Z51L,Z52];by_cases hlt:j<m.1.toNat
  ·rw[ct (dt (by omega)),ct (aN (by omega)),ct (aN (by omega)),ct (at_p hdim hi hlt),ct (at_p hdim hlt hi)];have hA:bJ.g (m.1,(m.2.1,m.2.2)) (i:Int) (j:Int)=af m i j:=at_g (by omega) _ _;have hB:bJ.g (m.1,(m.2.1,m.2.2)) (j:Int) (i:Int)=af m j i:=at_g (by omega) _ _;simp only[Int.toNat_natCast,hA,hB];by_cases he:oX m d i j
   ·rw[cf (nf ((D7 (cX hs) hd hi hlt).2 he)),a8 (by rw[bn];omega)];rcases ih (j+1) hlt (by omega)with hc|hc;·exact Or.inl hc
    ·refine Or.inr ⟨hc.1,λj' h1 h2=>?_⟩;by_cases e:j'=j;·subst e;exact he
     ·exact hc.2 j' (by omega) h2
   ·rw[ct (nt (λhc=>he ((D7 (cX hs) hd hi hlt).1 hc)))];exact Or.inl ⟨rfl,j,hlt,he⟩
  ·rw[cf (df (by omega))];exact Or.inr ⟨rfl,λj' h1 h2=>by omega⟩
def N5(hN:10<=N)(hs:aP m=true){d:List Int}(hdl:d.length=m.1.toNat)(hd:j9 m.1.toNat (af m) (λx=>d.getD x 0))(k8:List Int->Option J)(kr:List Int->Bool->Option J):∀(M i:Nat),i<=m.1.toNat->m.1.toNat-i<M ->
  (Z43L N k8 kr M d (i:Int) m.1 m.2.1 m.2.2=kr [] false/\∃i' j',i'<m.1.toNat/\j'<m.1.toNat/\¬ oX m d i' j') \/
  (Z43L N k8 kr M d (i:Int) m.1 m.2.1 m.2.2=k8 d/\∀i',i<=i'->i'<m.1.toNat->∀j',j'<m.1.toNat->oX m d i' j'):=by
 have hdim:=cI (cX hs);obtain⟨n,r,hn,hr,hn1,hn5,hnr,hr8,hl⟩:=aU hdim;intro M;induction M with
 |zero=>intro i _ hM;omega
 |succ M ih =>
  intro i hi hM;simp only[Z43L,Z44,Z45];by_cases hlt:i<m.1.toNat
  ·rw[ct (dt (by omega))];simp only[Z46,Z47,Z48,Z49,Z50,Z51];have hc:=N4 (J:=J) (N:=N) hs hdl hd (λa b c d e=>Z53 N a b c d e (λa b c d e=>Z43L N k8 kr M a b c d e)) kr hlt N 0 (by omega) (by omega);rw[show((0:Nat):Int)=0 from rfl]at hc;rcases hc with⟨hc,j',h1,h2⟩|⟨hc,h1⟩;·exact Or.inl ⟨hc,i,j',hlt,h1,h2⟩
   ·rw[hc];simp only[Z53];rw[a8 (by rw[bn];omega)];rcases ih (i+1) hlt (by omega)with h2|h2;·exact Or.inl h2
    ·refine Or.inr ⟨h2.1,λi' h3 h4=>?_⟩;by_cases e:i'=i;·subst e;exact λj' hj'=>h1 j' (by omega) hj'
     ·exact h2.2 i' (by omega) h4
  ·rw[cf (df (by omega))];exact Or.inr ⟨rfl,λi' h1 h2=>by omega⟩
end
def ok:Spec:=λm hb hp=>⟨10,λN hN=>by
 have hs:aP m=true:=hp;have hdim:=cI (cX hs);obtain⟨n,r,hn,hr,hn1,hn5,hnr,hr8,hl⟩:=aU hdim;simp only[Z0,Z1,Z2,Z3];rw[ct (by rw[j8 (by omega),dt (by omega)];rfl)];simp only[Z4,Z5,Z6,Z7,Z8];have hz:∀x,(List.replicate m.1.toNat (0:Int)).getD x 0=0:=λx=>by rw[List.getD_eq_getElem?_getD,List.getElem?_replicate];split<;>rfl
 obtain⟨d,⟨h1,h2,h3⟩,h4⟩:=outer (J:=Unit×List Int×Bool×Unit) hN hs (λa b c d=>Z39 N a b c d (λt2 t3=>some ((),(t2,(t3,()))))) N 0 (List.replicate m.1.toNat 0) (by omega) (by omega) (by simp) (λj hj=>by show 0<=(List.replicate m.1.toNat (0:Int)).getD j 0/\(List.replicate m.1.toNat (0:Int)).getD j 0<=_/\(0<(List.replicate m.1.toNat (0:Int)).getD j 0->_);rw[hz];exact⟨by omega,by omega,λhc=>by omega⟩) (λx hx=>by omega);rw[show((0:Nat):Int)=0 from rfl]at h4;rw[h4];simp only[Z39,Z40,Z41,Z42,Z43];have hc:=N5 (J:=Unit×List Int×Bool×Unit) hN hs h1 h2 (λd4=>Z54 N d4 (λt2 t3=>some ((),(t2,(t3,()))))) (λt2 t3=>some ((),(t2,(t3,())))) N 0 (by omega) (by omega);rw[show((0:Nat):Int)=0 from rfl]at hc;rcases hc with⟨hc,i',j',h5,h6,h7⟩|⟨hc,h5⟩;·rw[hc,g,NJ hs h2 h3 h5 h6 h7];rfl
 ·have h6:=DO h1 h2 h3 (λi hi j hj=>h5 i (by omega) hi j hj);rw[hc,g,h6];simp only[Z54];rw[df (λe=>by rw[e]at h1;simp at h1;omega)];rfl⟩
def fac_ex{m:Int×Int×List Int}(hs:aP m=true)(h:∃e,da m.1.toNat (af m) e):ba m≠[]:=by
 have hdim:=cI (cX hs);obtain⟨n,r,hn,hr,hn1,hn5,hnr,hr8,hl⟩:=aU hdim;have hz:∀x,(List.replicate m.1.toNat (0:Int)).getD x 0=0:=λx=>by rw[List.getD_eq_getElem?_getD,List.getElem?_replicate];split<;>rfl
 obtain⟨d,⟨h1,h2,h3⟩,h4⟩:=outer (J:=Unit) (N:=10) (Nat.le_refl _) hs (λ_ _ _ _=>none) 10 0 (List.replicate m.1.toNat 0) (by omega) (by omega) (by simp) (λj hj=>by show 0<=(List.replicate m.1.toNat (0:Int)).getD j 0/\(List.replicate m.1.toNat (0:Int)).getD j 0<=_/\(0<(List.replicate m.1.toNat (0:Int)).getD j 0->_);rw[hz];exact⟨by omega,by omega,λhc=>by omega⟩) (λx hx=>by omega);obtain⟨e,he⟩:=h;rw[DO h1 h2 h3 (λi hi j hj=>NI hs h2 h3 he hi hj)];intro hc;rw[hc]at h1;simp at h1;omega
end aV
end
end Go.Fw
namespace Go.Fw
def kc(m:Int×Int×List Int):(aX m&&!decide (ba m=[]))=(aP m&&!decide (ba m=[])):=by
 by_cases h:ba m=[];·rw[dt h];simp
 ·cases hs:aX m;·simp[aP,hs]
  ·rw[ND hs h]
def zf{m:Int×Int×List Int}{k:Nat}(h:(aP m&&!decide (ba m=[]))=true)(hk:k<m.1.toNat):(aX (bf m k)&&!decide (ba (bf m k)=[]))=aP (bf m k):=by
 simp only[Bool.and_eq_true,Bool.not_eq_true',decide_eq_false_iff_not]at h;cases hs:aP (bf m k);·rw[kc,hs];rfl
 ·have hd:=cI (cX h.1);have:=aV.fac_ex hs ⟨_,rD hd hk (ub h.2).2.1⟩;rw[kc,hs,df this];rfl
def ur{a b:Int×Int×List Int}(ha:aO a=true)(h1:a.1=b.1)(h2:a.2.1=b.2.1)(hl:a.2.2.length=b.2.2.length)(h:∀i j,i<a.2.1.toNat->j<a.1.toNat->af a i j=af b i j):a=b:=by
 obtain⟨n,r,hn,hr,hn1,hn5,hnr,hr8,hla⟩:=aU ha;obtain⟨a1,a2,a3⟩:=a;obtain⟨b1,b2,b3⟩:=b;simp only at h1 h2 hn hr;subst h1 h2;have:a3=b3:=by
  apply List.ext_getElem hl;intro p p1 p2;have hla':a3.length=r*n:=hla;have hp:p<r*n:=by omega
  have hi:p / n<r:=Nat.div_lt_of_lt_mul (by rw[Nat.mul_comm];exact hp);have hj:p%n<n:=Nat.mod_lt _ (by omega);have:=h (p / n) (p%n) (by show p / n<a2.toNat;omega) (by show p%n<a1.toNat;omega);have e:p / n*a1.toNat+p%n=p:=by rw[show a1.toNat=n by omega,Nat.mul_comm];exact Nat.div_add_mod p n
  unfold af at this;rw[e]at this;simp only[List.getD_eq_getElem?_getD,List.getElem?_eq_getElem p1,List.getElem?_eq_getElem p2,Option.getD_some]at this;exact this
 rw[this]
def D8{m:Int×Int×List Int}(hd:aO m=true){k:Nat}(hk:k<m.1.toNat):bf (bf m k) k=m:=by
 obtain⟨n,r,hn,hr,hn1,hn5,hnr,hr8,hl⟩:=aU hd;have hd1:=nw hd k;refine ur (nw hd1 k) rfl rfl (by simp[bf]) λi j hi hj=>?_;have hi:i<m.2.1.toNat:=hi;have hj:j<m.1.toNat:=hj;rw[lL hd1 hi hj,lL hd hi hj,lL hd hi hk,lL hd (by omega) hj];generalize af m i j=a;generalize af m i k=b;generalize af m k j=c;generalize af m k k=e;cases hf:(decide (i=k)||decide (j=k))
 ·simp only[Bool.or_eq_false_iff]at hf;simp only[hf.1,hf.2,decide_true,Bool.or_true,Bool.true_or,dY,Bool.false_eq_true,if_false,if_true];by_cases h1:0<b/\0<c;·rw[if_pos h1,if_neg (by omega),if_pos (by omega)];grind
  ·rw[if_neg h1];by_cases h2:b<0/\c<0;·rw[if_pos h2,if_pos (by omega)];grind
   ·rw[if_neg h2,if_neg (by omega),if_neg (by omega)]
 ·simp only[dY,if_true,Int.neg_neg]
structure eT(m:Int×Int×List Int)(d:Nat->Int):Prop where
 shaped:aX m=true
 good:da m.1.toNat (af m) d
def eT.sizes{m:Int×Int×List Int}{d:Nat->Int}(h:eT m d):aP m=true:=by rw[aP,h.shaped,Bool.true_and,List.all_eq_true];intro i hi;rw[List.all_eq_true];intro j hj;exact oO h.good (List.mem_range.1 hi) (List.mem_range.1 hj)
def eT.fac{m:Int×Int×List Int}{d:Nat->Int}(h:eT m d):ba m≠[]:=aV.fac_ex h.sizes ⟨d,h.good⟩
def eT.ok{m:Int×Int×List Int}{d:Nat->Int}(h:eT m d):(aP m&&!decide (ba m=[]))=true:=by rw[h.sizes,df h.fac];rfl
def eT.dim{m:Int×Int×List Int}{d:Nat->Int}(h:eT m d):aO m=true:=cI h.shaped
def N6{m:Int×Int×List Int}(h:(aP m&&!decide (ba m=[]))=true):∃d,eT m d:=by simp only[Bool.and_eq_true,Bool.not_eq_true',decide_eq_false_iff_not]at h;exact⟨_,cX h.1,(ub h.2).2.1⟩
def oY{m:Int×Int×List Int}:aX m=true↔aO m=true/\∀x∈m.2.2,-99<=x/\x<=99:=by simp only[aX,lH,Bool.and_eq_true,List.all_eq_true,cO]
def eT.mut{m:Int×Int×List Int}{d:Nat->Int}(h:eT m d){k:Nat}(hk:k<m.1.toNat)(hs:aP (bf m k)=true):eT (bf m k) d:=⟨cX hs,rD h.dim hk h.good⟩
def gW{m:Int×Int×List Int}(hd:aO m=true)(names:List Int){p q:Nat}(hp:p<m.2.1.toNat)(hq:q<m.1.toNat) :
  af (bV m names) p q=af m (eF m.1.toNat (names.map Int.toNat) p) (de (names.map Int.toNat) q):=by
 obtain⟨n,r,hn,hr,hn1,hn5,hnr,hr8,hl⟩:=aU hd;have e0:m.1.toNat=n:=by omega
 have hlt:=iT (n:=n) (r:=r) (i:=p) (j:=q) (by omega) (by omega);unfold af bV;show((List.range m.2.2.length).map λp=>m.2.2.getD (fh m.1.toNat (names.map Int.toNat) p) 0).getD (p*m.1.toNat+q) 0=_;rw[List.getD_eq_getElem?_getD,List.getElem?_map,List.getElem?_range (by rw[e0];omega)];show m.2.2.getD (fh m.1.toNat (names.map Int.toNat) (p*m.1.toNat+q)) 0=_;unfold fh;rw[DP hq,DQ hq]
def nA{m:Int×Int×List Int}(names:List Int)(h:aO m=true):aO (bV m names)=true:=by simpa[aO,bV]using h
def eT.ren{m:Int×Int×List Int}{d:Nat->Int}(h:eT m d){names:List Int}(hn:dJ names m.1=true):eT (bV m names) λp=>d (de (names.map Int.toNat) p):=by
 obtain⟨L,rfl,h1,h2,h3⟩:=kK hn;have hd:=h.dim;obtain⟨n,r,en,hr,hn1,hn5,hnr,hr8,hl⟩:=aU hd;refine⟨oY.2 ⟨nA _ hd,λx hx=>?_⟩,λu hu=>?_⟩
 ·have h0:=(oY.1 h.shaped).2;obtain⟨p,_,rfl⟩:=List.mem_map.1 hx;rw[List.getD_eq_getElem?_getD];cases hq:m.2.2[fh m.1.toNat ((an L).map Int.toNat) p]? with
  |none=>exact⟨by decide,by decide⟩
  |some y=>exact h0 y (List.mem_of_getElem? hq)
 ·have hu:u<m.1.toNat:=hu;rw[gE];have pu:=(fe (fY h1 h2 h3 hu)).1;refine⟨(h.good _ (by omega)).1,λv hv=>?_⟩;have hv:v<m.1.toNat:=hv;have pv:=(fe (fY h1 h2 h3 hv)).1;rw[gW hd _ (by omega) hv,gW hd _ (by omega) hu,gE];unfold eF;rw[if_pos hu,if_pos hv];exact(h.good _ (by omega)).2 _ (by omega)
def D9{m:Int×Int×List Int}(hd:aO m=true):aX m=true↔∀i,i<m.2.1.toNat->∀j,j<m.1.toNat->-99<=af m i j/\af m i j<=99:=by
 obtain⟨n,r,hn,hr,hn1,hn5,hnr,hr8,hl⟩:=aU hd;have e0:m.1.toNat=n:=by omega
 rw[oY];constructor
 ·rintro ⟨_,h⟩ i hi j hj
  have:=iT (n:=n) (r:=r) (i:=i) (j:=j) (by omega) (by omega);refine h _ (bz 0 ?_);rw[e0];omega
 ·intro h;refine⟨hd,λx hx=>?_⟩;obtain⟨p,hp,rfl⟩:=List.getElem_of_mem hx;have hp2:p<r*n:=by omega
  have hi:p / n<r:=Nat.div_lt_of_lt_mul (by rw[Nat.mul_comm];exact hp2);have hj:p%n<n:=Nat.mod_lt _ (by omega);have:=h (p / n) (by omega) (p%n) (by omega);have e:p / n*m.1.toNat+p%n=p:=by rw[e0,Nat.mul_comm];exact Nat.div_add_mod p n
  unfold af at this;rw[e]at this;simpa only[List.getD_eq_getElem?_getD,List.getElem?_eq_getElem hp,Option.getD_some]using this
section
variable {m : Int × Int × List Int} {L : List Nat} (hd : aO m = true) (h1 : L.Nodup) (h2 : ∀ x ∈ L, x < m.1.toNat) (h3 : L.length = m.1.toNat)
include hd h1 h2 h3
theorem N7:aX (bV m (an L))=aX m:=by
 obtain⟨n,r,hn,hr,hn1,hn5,hnr,hr8,hl⟩:=aU hd;rw[Bool.eq_iff_iff,D9 (nA _ hd),D9 hd];show(∀i,i<m.2.1.toNat->∀j,j<m.1.toNat->-99<=af (bV m (an L)) i j/\af (bV m (an L)) i j<=99)↔_;constructor;·intro h i hi j hj;have a1:=yS (r:=m.2.1.toNat) h1 h2 h3 (by omega) hi;have a2:=h2 _ (bz (l:=L) (j:=j) 0 (by omega));have:=h _ a1 _ a2;rw[gW hd _ a1 a2,gE,DW h1 h2 h3,kb h1 (by omega)]at this;exact this
 ·intro h i hi j hj;rw[gW hd _ hi hj,gE];have:=(fe (fY h1 h2 h3 hj)).1;exact h _ (yT h1 h2 h3 (by omega) hi) _ (by omega)
theorem N8{k:Nat}(hk:k<m.1.toNat):bf (bV m (an L)) (L.getD k 0)=bV (bf m k) (an L):=by
 obtain⟨n,r,hn,hr,hn1,hn5,hnr,hr8,hl⟩:=aU hd;have hx:=h2 _ (bz (l:=L) (j:=k) 0 (by omega));have dR:=nA (an L) hd;refine ur (nw dR _) rfl rfl (by simp[bf,bV]) λp q hp hq=>?_;have hp:p<m.2.1.toNat:=hp;have hq:q<m.1.toNat:=hq;have pq:=(fe (fY h1 h2 h3 hq));have bp:=yT (r:=m.2.1.toNat) h1 h2 h3 (by omega) hp;rw[lL dR hp hq,gW (nw hd k) _ hp hq];show _=af (bf m k) (eF m.1.toNat ((an L).map Int.toNat) p) (de ((an L).map Int.toNat) q);rw[gW hd _ hp hq,gW hd _ hp hx,gW hd _ (by omega) hq,gE,lL hd bp (by omega),kb h1 (by omega)];have e1:eF m.1.toNat L (L.getD k 0)=k:=by unfold eF;rw[if_pos hx,kb h1 (by omega)]
 have e2:decide (p=L.getD k 0)=decide (eF m.1.toNat L p=k):=by
  rw[decide_eq_decide];constructor;·intro e;rw[e];exact e1
  ·intro e;have:=DX (p:=p) h1 h2 h3;rw[e]at this;unfold cy at this;rw[if_pos hk]at this;exact this.symm
 have e3:decide (q=L.getD k 0)=decide (de L q=k):=by
  rw[decide_eq_decide];constructor;·intro e;rw[e,kb h1 (by omega)]
  ·intro e;rw[<-e];exact pq.2.symm
 rw[e1,e2,e3]
theorem Ea(hsq:m.2.1=m.1){O:List Nat}(o1:O.Nodup)(o2:∀x∈O,x<m.1.toNat)(o3:O.length=m.1.toNat) :
  bV (bV m (an L)) (an O)=bV m (an (L.map λx=>O.getD x 0)):=by
 obtain⟨n,r,hn,hr,hn1,hn5,hnr,hr8,hl⟩:=aU hd;have dR:=nA (an L) hd;have n1:(L.map λx=>O.getD x 0).Nodup:=by refine List.pairwise_map.2 (h1.imp_of_mem λ{a b} ha hb hne e=>hne ?_);exact lK o1 (by have:=h2 a ha;omega) (by have:=h2 b hb;omega) e
 have n2:∀x∈L.map λx=>O.getD x 0,x<m.1.toNat:=λx hx=>by obtain⟨y,hy,rfl⟩:=List.mem_map.1 hx;have:=h2 y hy;exact o2 _ (bz 0 (by omega))
 have n3:(L.map λx=>O.getD x 0).length=m.1.toNat:=by simpa using h3
 have key:∀p,p<m.1.toNat->de (L.map λx=>O.getD x 0) p=de L (de O p):=λp hp=>by
  have a1:=fe (fY o1 o2 o3 hp);have a2:=fe (fY h1 h2 h3 (show de O p<m.1.toNat by omega));have e:(L.map λx=>O.getD x 0).getD (de L (de O p)) 0=p:=by rw[List.getD_eq_getElem?_getD,List.getElem?_map,List.getElem?_eq_getElem a2.1];have:=a2.2;rw[List.getD_eq_getElem?_getD,List.getElem?_eq_getElem a2.1,Option.getD_some]at this;show O.getD (L[de L (de O p)]) 0=p;rw[this];exact a1.2
  have:=kb n1 (j:=de L (de O p)) (by rw[List.length_map];exact a2.1);rw[e]at this;exact this
 refine ur (nA _ dR) rfl rfl (by simp[bV]) λp q hp hq=>?_;have hp:p<m.1.toNat:=by have:p<m.2.1.toNat:=hp;omega
 have hq:q<m.1.toNat:=hq;have ap:=(fe (fY o1 o2 o3 hp)).1;have aq:=(fe (fY o1 o2 o3 hq)).1;have e1:=gW dR (an O) (p:=p) (q:=q) (show p<m.2.1.toNat by omega) hq;refine e1.trans ?_;show af (bV m (an L)) (eF m.1.toNat ((an O).map Int.toNat) p) (de ((an O).map Int.toNat) q)=_;rw[gE,gW hd _ (show p<m.2.1.toNat by omega) hq,gE];unfold eF;rw[if_pos hp,if_pos hp,gW hd _ (by omega) (by omega),gE,key p hp,key q hq];unfold eF;rw[if_pos (by omega)]
end
def zg{n:Nat}:∀(g:List Nat) (f:List Int),g.Nodup->(∀x∈g,x<n/\(x:Int)∉f)->f++an g∈eS n g.length f
 |[],f,_,_=>by simp[eS,an]
 |x::g,f,hn,h=>by
  obtain⟨h1,h2⟩:=List.nodup_cons.1 hn;obtain⟨h3,h4⟩:=h x List.mem_cons_self;rw[List.length_cons,eS,List.mem_flatMap];refine⟨x,List.mem_range.2 h3, ?_⟩;have:(f.any λy=>decide (y=((x:Nat):Int)))=false:=by rw[List.any_eq_false];intro y hy;simp only[decide_eq_true_eq];exact λe=>h4 (e▸hy)
  rw[this,cond_false];have ih:=zg g (f++[(x:Int)]) h2 (λy hy=>by
   obtain⟨k1,k2⟩:=h y (List.mem_cons_of_mem _ hy);refine⟨k1,λhm=>?_⟩;rcases List.mem_append.1 hm with hm|hm;·exact k2 hm
   ·have:(y:Int)=(x:Int):=List.mem_singleton.1 hm;exact h1 (by rw[show x=y by omega];exact hy))
  rw[List.append_assoc]at ih;exact ih
def N9{f f':List Int->List Int}{os:List (List Int)}{b b':List Int}(h:∀o∈os,∃o'∈os,f' o=f o')(h':∀o∈os,∃o'∈os,f o=f' o')(hb:∃o∈os,b=f o)(hb':∃o∈os,b'=f' o):du f b os=du f' b' os:=by
 have im:∀{f:List Int->List Int}{b:List Int},(∃o∈os,b=f o)->∃o∈os,du f b os=f o:=λ{f b} hb=>by
  rcases rG f os b with e|e;·rw[e];exact hb
  ·exact e
 obtain⟨o1,g1,e1⟩:=im hb;obtain⟨o2,g2,e2⟩:=im hb';obtain⟨o3,g3,e3⟩:=h' o1 g1;obtain⟨o4,g4,e4⟩:=h o2 g2;refine oV ?_ ?_;·rw[e1,e3];exact(un f' os b').2 o3 g3
 ·rw[e2,e4];exact(un f os b).2 o4 g4
def Eb{m:Int×Int×List Int}(hd:aO m=true)(hsq:m.2.1=m.1){names:List Int}(hn:dJ names m.1=true):bO (bV m names)=bO m:=by
 obtain⟨n,r,en,hr,hn1,hn5,hnr,hr8,hl⟩:=aU hd;have e1:m.1.toNat=n:=by omega
 obtain⟨L,rfl,h1,h2,h3⟩:=kK hn;have dR:=nA (an L) hd;have nm:∀{o:List Int},o∈eS n n []->∃O:List Nat,o=an O/\O.Nodup/\(∀x∈O,x<m.1.toNat)/\O.length=m.1.toNat:=λ{o} ho=>by have:=rF hn5 ((uj hn5 o).2 ho);rw[<-en]at this;exact kK this
 have nmo:∀{O:List Nat},O.Nodup->(∀x∈O,x<m.1.toNat)->O.length=m.1.toNat->an O∈eS n n []:=λ{O} a1 a2 a3=>by have:=zg (n:=n) O [] a1 (λx hx=>⟨by have:=a2 x hx;omega,by simp⟩);rw[a3,e1]at this;simpa using this
 have hid:(List.range n).map Int.ofNat∈eS n n []:=(uj hn5 _).1 (uk hn5);have r1:=ul hd hsq;have r2:=ul dR (show(bV m (an L)).2.1=(bV m (an L)).1 from hsq);rw[e1]at r1;rw[show(bV m (an L)).1.toNat=n from e1]at r2;unfold bO;show((m.1,m.2.1,du (cR (bV m (an L))) (bV m (an L)).2.2 (eS m.1.toNat m.1.toNat [])):Int×Int×List Int)=(m.1,m.2.1,du (cR m) m.2.2 (eS m.1.toNat m.1.toNat []));rw[e1];refine congrArg (λz=>(m.1,m.2.1,z)) (N9 (λo ho=>?_) (λo ho=>?_) ⟨_,hid,by unfold cR;rw[r2]⟩ ⟨_,hid,by unfold cR;rw[r1]⟩)
 ·obtain⟨O,rfl,o1,o2,o3⟩:=nm ho;let K:List Nat:=(List.range n).map λp=>O.getD (de L p) 0;have k3:K.length=m.1.toNat:=by simp[K,e1]
  have kg:∀p,p<n->K.getD p 0=O.getD (de L p) 0:=λp hp=>by show((List.range n).map λp=>O.getD (de L p) 0).getD p 0=_;rw[List.getD_eq_getElem?_getD,List.getElem?_map,List.getElem?_range hp];rfl
  have k1:K.Nodup:=by refine List.pairwise_map.2 (List.Pairwise.imp_of_mem (λ{a b} ha hb hne e=>hne ?_) List.nodup_range);have ha:=List.mem_range.1 ha;have hb:=List.mem_range.1 hb;have pa:=fe (fY h1 h2 h3 (show a<m.1.toNat by omega));have pb:=fe (fY h1 h2 h3 (show b<m.1.toNat by omega));have:=lK o1 (by omega) (by omega) e;rw[<-pa.2,<-pb.2,this]
  have k2:∀x∈K,x<m.1.toNat:=λx hx=>by obtain⟨p,hp,rfl⟩:=List.mem_map.1 hx;have hp:=List.mem_range.1 hp;have pa:=fe (fY h1 h2 h3 (show p<m.1.toNat by omega));exact o2 _ (bz 0 (by omega))
  refine⟨an K,nmo k1 k2 k3, ?_⟩;unfold cR;rw[Ea hd h1 h2 h3 hsq k1 k2 k3];have:(L.map λx=>K.getD x 0)=O:=by
   apply List.ext_getElem (by simp;omega);intro i hi hi';have hi2:i<L.length:=by simpa using hi
   rw[List.getElem_map];have hlt:=h2 _ (List.getElem_mem hi2);rw[kg _ (by omega)];have:de L L[i]=i:=by have:=kb h1 hi2;rwa [List.getD_eq_getElem?_getD,List.getElem?_eq_getElem hi2,Option.getD_some]at this
   rw[this,List.getD_eq_getElem?_getD,List.getElem?_eq_getElem hi',Option.getD_some]
  rw[this]
 ·obtain⟨O,rfl,o1,o2,o3⟩:=nm ho;refine⟨an (L.map λx=>O.getD x 0),nmo ?_ ?_ (by simpa using h3), ?_⟩;·refine List.pairwise_map.2 (h1.imp_of_mem λ{a b} ha hb hne e=>hne ?_);exact lK o1 (by have:=h2 a ha;omega) (by have:=h2 b hb;omega) e
  ·intro x hx;obtain⟨y,hy,rfl⟩:=List.mem_map.1 hx;have:=h2 y hy;exact o2 _ (bz 0 (by omega))
  ·unfold cR;rw[Ea hd h1 h2 h3 hsq o1 o2 o3]
abbrev z3:Int×Int×List Int:=(0,(0,[]))
def dK(x:Int×Int×List Int)(k:Nat):Int×Int×List Int:=bO (bf x k)
def gX(S:List (Int×Int×List Int))(d:List Int):Bool:=S.any λy=>decide (y.2.2=d)
def fi(S:List (Int×Int×List Int))(y:Int×Int×List Int):List (Int×Int×List Int):=if gX S y.2.2=true then S else S++[y]
def f5(x:Int×Int×List Int)(k:Nat)(S:List (Int×Int×List Int)):Option (List (Int×Int×List Int)) :=
 if aP (bf x k)=true then(if(fi S (dK x k)).length<=100 then some (fi S (dK x k))else none)else none
def f7(x:Int×Int×List Int):Nat->Nat->List (Int×Int×List Int)->Option (List (Int×Int×List Int))
 |_,0,S=>some S
 |k,r+1,S=>(f5 x k S).bind (f7 x (k+1) r)
def gF(n:Nat):Nat->Nat->List (Int×Int×List Int)->Option (List (Int×Int×List Int))
 |0,_,_=>none
 |F+1,a,S=>if a<S.length then(f7 (S.getD a z3) 0 n S).bind (gF n F (a+1))else some S
def jI(m:Int×Int×List Int):Option (List (Int×Int×List Int)):=gF m.1.toNat 102 0 [bO m]
def bD(n:Int)(x:Int×Int×List Int):Prop:=(∃d,eT x d)/\x.1=n/\x.2.1=n
def d6(n:Int)(S:List (Int×Int×List Int)):Prop:=∀x∈S,bD n x
def oZ{S:List (Int×Int×List Int)}{d:List Int}:gX S d=true↔∃y∈S,y.2.2=d:=by simp[gX]
def zi{m:Int×Int×List Int}(hd:aO m=true)(hsq:m.2.1=m.1):∃o,dJ o m.1=true/\bO m=bV m o:=by
 obtain⟨n,r,hn,hr',hn1,hn5,hnr,hr8,hl⟩:=aU hd;have e1:m.1.toNat=n:=by omega
 have hx:∀o,bV m o=(m.1,m.2.1,cR m o):=λo=>rfl;rcases rG (cR m) (eS n n []) m.2.2 with h|⟨o,ho,h⟩
 ·refine⟨(List.range n).map Int.ofNat, ?_, ?_⟩;·rw[hn];exact rF hn5 (uk hn5)
  ·have:=ul hd hsq;rw[e1]at this;rw[this];unfold bO;rw[e1,h]
 ·refine⟨o, ?_, ?_⟩;·rw[hn];exact rF hn5 ((uj hn5 o).2 ho)
  ·rw[hx];unfold bO;rw[e1,h]
def bD.can{n:Int}{x:Int×Int×List Int}(h:bD n x):bD n (bO x):=by obtain⟨⟨d,hR⟩,h1,h2⟩:=h;obtain⟨o,ho,e⟩:=zi hR.dim (h2.trans h1.symm);exact⟨⟨_,by rw[e];exact hR.ren ho⟩,h1,h2⟩
def bD.mut{n:Int}{x:Int×Int×List Int}(h:bD n x){k:Nat}(hk:k<n.toNat)(hs:aP (bf x k)=true):bD n (bf x k):=by obtain⟨⟨d,hR⟩,h1,h2⟩:=h;exact⟨⟨d,hR.mut (by rw[h1];exact hk) hs⟩,h1,h2⟩
def bD.nxt{n:Int}{x:Int×Int×List Int}(h:bD n x){k:Nat}(hk:k<n.toNat)(hs:aP (bf x k)=true):bD n (dK x k):=(h.mut hk hs).can
def bD.dim{n:Int}{x:Int×Int×List Int}(h:bD n x):aO x=true:=by obtain⟨⟨d,hR⟩,_⟩:=h;exact hR.dim
def bD.bound{n:Int}{x:Int×Int×List Int}(h:bD n x):1<=n/\n<=5/\(x.2.2.length:Int)=n*n:=by
 obtain⟨m,r,hn,hr',hn1,hn5,hnr,hr8,hl⟩:=aU h.dim;obtain⟨_,h1,h2⟩:=h;have:r=m:=by omega
 subst this;exact⟨by omega,by omega,by rw[hl,<-h1,hn];exact Int.natCast_mul r r⟩
def Oa{n:Int}{S:List (Int×Int×List Int)}{y:Int×Int×List Int}(h:d6 n S)(hy:bD n y):d6 n (fi S y):=by
 intro x hx;unfold fi at hx;split at hx;·exact h x hx
 ·rcases List.mem_append.1 hx with hx|hx;·exact h x hx
  ·rw[List.mem_singleton.1 hx];exact hy
def Ec{S:List (Int×Int×List Int)}{y d:Int×Int×List Int}{a:Nat}(h:a<S.length):(fi S y).getD a d=S.getD a d:=by
 unfold fi;split;·rfl
 ·rw[List.getD_eq_getElem?_getD,List.getElem?_append_left h,List.getD_eq_getElem?_getD]
def Ed{S:List (Int×Int×List Int)}{y:Int×Int×List Int}:S.length<=(fi S y).length:=by
 unfold fi;split;·exact Nat.le_refl _
 ·simp
def rI{n:Int}{S:List (Int×Int×List Int)}(h:d6 n S){a:Nat}(ha:a<S.length):bD n (S.getD a z3):=h _ (bz _ ha)
def Ee{n:Int}{x:Int×Int×List Int}{k:Nat}{S S':List (Int×Int×List Int)}(hS:d6 n S)(hx:bD n x)(hk:k<n.toNat)(h:f5 x k S=some S') :
  S'=fi S (dK x k)/\d6 n S'/\S.length<=S'.length/\S'.length<=100:=by
 unfold f5 at h;split at h
 ·rename_i hs;split at h;·rename_i hl;injection h with h;subst h;exact⟨rfl,Oa hS (hx.nxt hk hs),Ed,hl⟩
  ·cases h
 ·cases h
def uu{n:Int}{x:Int×Int×List Int}(hx:bD n x):∀(r k:Nat) {S S':List (Int×Int×List Int)},k+r=n.toNat->d6 n S->S.length<=100->f7 x k r S=some S' ->
  d6 n S'/\S.length<=S'.length/\S'.length<=100/\∀a d,a<S.length->S'.getD a d=S.getD a d
 |0,k,S,S',_,hS,hl,h=>by injection h with h;subst h;exact⟨hS,Nat.le_refl _,hl,λ_ _ _=>rfl⟩
 |r+1,k,S,S',hk,hS,hl,h=>by obtain⟨S1,h1,h2⟩:=Option.bind_eq_some_iff.1 (show(f5 x k S).bind (f7 x (k+1) r)=some S' from h);obtain⟨e,f1,f2,f3⟩:=Ee hS hx (by omega) h1;obtain⟨g1,g2,g3,g4⟩:=uu hx r (k+1) (by omega) f1 f3 h2;refine⟨g1,Nat.le_trans f2 g2,g3,λa d ha=>?_⟩;rw[g4 a d (by omega),e,Ec ha]
def gY(m:Int×Int×List Int):Bool:=(aP m&&!decide (ba m=[]))&&decide (m.2.1=m.1)
def fj(n:Int)(S:List (Int×Int×List Int)):List (Int×Int×List Int):=(uq (S.map (·.2.2))).map λd=>(n,(n,d))
def fk(m:Int×Int×List Int):List (Int×Int×List Int)×Bool :=
 if gY m=true then(match jI m with
  |some S=>(fj m.1 S,true)
  |none=>([],false))else([],false)
def zj{m:Int×Int×List Int}(hp:gY m=true):bD m.1 m:=by simp only[gY,Bool.and_eq_true,decide_eq_true_eq]at hp;obtain⟨d,hR⟩:=N6 (m:=m) (by simpa using hp.1);exact⟨⟨d,hR⟩,rfl,hp.2⟩
def Ef{n:Int}:∀(F a:Nat) {S S':List (Int×Int×List Int)},d6 n S->S.length<=100->gF n.toNat F a S=some S'->d6 n S'/\S.length<=S'.length/\S'.length<=100
 |0,a,S,S',_,_,h=>by cases h
 |F+1,a,S,S',hS,hl,h=>by
  have e1:gF n.toNat (F+1) a S=if a<S.length then(f7 (S.getD a z3) 0 n.toNat S).bind (gF n.toNat F (a+1))else some S:=rfl
  rw[e1]at h;split at h;·rename_i ha;obtain⟨S1,h1,h2⟩:=Option.bind_eq_some_iff.1 h;obtain⟨f1,f2,f3,f4⟩:=uu (rI hS ha) n.toNat 0 (by omega) hS hl h1;obtain⟨g1,g2,g3⟩:=Ef F _ f1 f3 h2;exact⟨g1,Nat.le_trans f2 g2,g3⟩
  ·injection h with h;subst h;exact⟨hS,Nat.le_refl _,hl⟩
def nB{m:Int×Int×List Int}(hp:gY m=true){S:List (Int×Int×List Int)}(h:jI m=some S):d6 m.1 S/\1<=S.length/\S.length<=100 :=
 Ef _ _ (λx hx=>by rw[List.mem_singleton.1 hx];exact(zj hp).can) (by simp) h
def bD.len{n:Int}{x:Int×Int×List Int}(h:bD n x):1<=x.2.2.length/\x.2.2.length<=25:=by obtain⟨b1,b2,b3⟩:=h.bound;have h1:n*n<=5*5:=Int.mul_le_mul b2 b2 (by omega) (by omega);have h2:1*1<=n*n:=Int.mul_le_mul b1 b1 (by omega) (by omega);omega
def bD.ents{n:Int}{x:Int×Int×List Int}(h:bD n x):∀u∈x.2.2,-99<=u/\u<=99:=by obtain⟨⟨d,hR⟩,_⟩:=h;exact(oY.1 hR.shaped).2
def Ob{n:Int}{S S':List (Int×Int×List Int)}(hS:d6 n S)(hp:S'.Perm S)(hs:gt (S'.map (·.2.2))):S'=fj n S:=by unfold fj;rw[<-NZ (hp.map _) hs,List.map_map];refine((List.map_congr_left λx hx=>?_).trans (List.map_id _)).symm;obtain⟨_,h1,h2⟩:=hS x (hp.mem_iff.1 hx);obtain⟨a,b,c⟩:=x;simp only at h1 h2;subst h1 h2;rfl
def cS(p:UInt8->Bool):List UInt8->List (List UInt8)
 |[]=>[[]]
 |b::l=>if p b=true then[]::cS p l else match cS p l with
  |h::t=>(b::h)::t
  |[]=>[[b]]
def o5(p:UInt8->Bool):∀l,cS p l≠[]
 |[]=>by simp[cS]
 |b::l=>by
  rw[cS];split;·simp
  ·split<;>simp
def lM(a:List UInt8):List (List UInt8)->List (List UInt8)
 |h::t=>(a++h)::t
 |[]=>[a]
def Oc{q:List (List UInt8)}(h:q≠[]):lM [] q=q:=by
 cases q with
 |nil=>exact absurd rfl h
 |cons x xs=>rfl
def Od{p:UInt8->Bool}{b:UInt8}(h:p b=true)(a l:List UInt8):lM a (cS p (b::l))=a::cS p l:=by rw[cS,if_pos h];simp[lM]
def kN(l:List UInt8):ByteArray:=⟨l.toArray⟩
def fl(s:ByteArray):List ByteArray:=(cS (λb=>b == 32) s.data.toList).map kN
def iy(c:UInt8):Bool:=decide (48<=c.toNat)&&decide (c.toNat<=57)
def lN(a:Nat)(c:UInt8):Nat:=10*a+(c.toNat-48)
def eG(a:Nat)(l:List UInt8):Nat:=l.foldl lN a
def rL(a:Nat):eG a []=a:=rfl
def rM(a:Nat)(c:UInt8)(l:List UInt8):eG a (c::l)=eG (lN a c) l:=by unfold eG;rw[List.foldl_cons]
def Ok(l m:List UInt8)(a:Nat):eG a (l++m)=eG (eG a l) m:=by unfold eG;rw[List.foldl_append]
def rN(a:Nat)(c:UInt8):lN a c=10*a+(c.toNat-48):=by unfold lN;rfl
def zm(u:Nat):(Lib.decDigits u).all iy=true:=by
 induction u using Nat.strongRecOn with
 |_ u ih =>
  have key:∀t,t<10->iy (UInt8.ofNat (48+t))=true:=λt ht=>by
   have:(UInt8.ofNat (48+t)).toNat=48+t:=by rw[UInt8.toNat_ofNat'];omega
   simp only[iy,this,Bool.and_eq_true,decide_eq_true_eq];omega
  rw[Lib.decDigits];split;·rename_i h;rw[List.all_cons,key u h];rfl
  ·rename_i h;rw[List.all_append,ih (u / 10) (by omega),List.all_cons,key (u%10) (by omega)];rfl
def Oo(u:Nat):eG 0 (Lib.decDigits u)=u:=by
 induction u using Nat.strongRecOn with
 |_ u ih =>
  have key:∀t,t<10->(UInt8.ofNat (48+t)).toNat-48=t:=λt ht=>by
   have:(UInt8.ofNat (48+t)).toNat=48+t:=by rw[UInt8.toNat_ofNat'];omega
   omega
  rw[Lib.decDigits];split;·rename_i h;rw[rM,rN,key u h,rL];omega
  ·rename_i h;rw[Ok,ih (u / 10) (by omega),rM,rN,key (u%10) (by omega),rL];omega
def El(u:Nat):Lib.decDigits u≠[]:=by rw[Lib.decDigits];split<;>simp
def Em:∀(k u:Nat),u<10 ^ k->1<=k->(Lib.decDigits u).length<=k
 |0,_,_,h=>by omega
 |k+1,u,h,_=>by
  rw[Lib.decDigits];split;·simp
  ·rename_i hs;have hk:1<=k:=by
    rcases Nat.eq_zero_or_pos k with h'|h';·subst h';omega
    ·exact h'
   have:=Em k (u / 10) (by rw[Nat.div_lt_iff_lt_mul (by omega),<-Nat.pow_succ];exact h) hk;simp;omega
def zn{p:UInt8->Bool}:∀(x l:List UInt8),(∀b∈x,p b=false)->cS p (x++l)=lM x (cS p l)
 |[],l,_=>(Oc (o5 p l)).symm
 |b::x,l,h=>by
  have ih:=zn x l λc hc=>h c (List.mem_cons_of_mem _ hc);rw[List.cons_append,cS,if_neg (by rw[h b (List.mem_cons_self ..)];simp),ih];have hne:=o5 p l;cases hq:cS p l with
  |nil=>exact absurd hq hne
  |cons y ys=>rfl
def zo:∀(xs:List (List UInt8)),xs≠[]->(∀x∈xs,∀b∈x,(b == (32:UInt8))=false)->cS (λb=>b == 32) (Lib.join xs [32])=xs
 |[],h,_=>absurd rfl h
 |[x],_,h=>by rw[Lib.join_one];have:=zn (p:=λb=>b == 32) x [] (h x (List.mem_cons_self ..));rw[List.append_nil]at this;rw[this];simp[cS,lM]
 |x::y::ys,_,h=>by
  have ih:=zo (y::ys) (by simp) λz hz=>h z (List.mem_cons_of_mem _ hz);have e:Lib.join (x::y::ys) [32]=x++(32::Lib.join (y::ys) [32]):=by rw[Lib.join_cons,Lib.join_cons];simp[Lib.joinTail]
  rw[e,zn _ _ (h x (List.mem_cons_self ..)),Od (by rfl),ih]
def Eo(n:Int):∀b∈Lib.itoa n,(b == (32:UInt8))=false:=by
 have key:∀u,∀b∈Lib.decDigits u,(b == (32:UInt8))=false:=λu b hb=>by have:=List.all_eq_true.1 (zm u) b hb;simp only[iy,Bool.and_eq_true,decide_eq_true_eq]at this;rw[beq_eq_false_iff_ne];intro e;subst e;have:(32:UInt8).toNat=32:=rfl;omega
 intro b hb;unfold Lib.itoa at hb;split at hb
 ·rcases List.mem_cons.1 hb with rfl|hb;·rfl
  ·exact key _ b hb
 ·exact key _ b hb
def fo(l:List UInt8):Nat:=match l with
 |c::_=>if c=45 then 1 else 0
 |[]=>0
def o6(s:ByteArray):Int×Bool :=
  if(s.data.toList.drop (fo s.data.toList)).length=0\/9<(s.data.toList.drop (fo s.data.toList)).length then(0,false)
  else if(s.data.toList.drop (fo s.data.toList)).all iy=true then
    (if fo s.data.toList=1 then -(eG 0 (s.data.toList.drop (fo s.data.toList)):Int)else(eG 0 (s.data.toList.drop (fo s.data.toList)):Int),
     fB (bC (if fo s.data.toList=1 then -(eG 0 (s.data.toList.drop (fo s.data.toList)):Int)else(eG 0 (s.data.toList.drop (fo s.data.toList)):Int))) s)
  else(0,false)
def o7{a b:ByteArray}:fB a b=true↔a=b:=by
 unfold fB;rw[beq_iff_eq,ByteArray.toList_eq,ByteArray.toList_eq];constructor;·intro h;apply ByteArray.ext;exact Array.toList_inj.1 h
 ·intro h;rw[h]
def iz(w:ByteArray):Option Int:=if(o6 w).2=true then some (o6 w).1 else none
def Ep{w:ByteArray}{n:Int}(hin:bE n (-999999999) 999999999=true)(hw:w=bC n):o6 w=(n,true):=by
 rw[cO]at hin;have hd:w.data.toList=Lib.itoa n:=by rw[hw,yM]
 have hu:n.natAbs<10 ^ 9:=by
  have h9':(10:Nat) ^ 9=1000000000:=by decide
  omega
 have hl:=Em 9 n.natAbs hu (by omega);have hne:(Lib.decDigits n.natAbs).length≠0:=λe=>El _ (List.length_eq_zero_iff.1 e);have hall:=zm n.natAbs;have hval:=Oo n.natAbs;by_cases hneg:n<0
 ·have e:Lib.itoa n=45::Lib.decDigits n.natAbs:=by unfold Lib.itoa;rw[if_pos hneg]
  have hs:fo w.data.toList=1:=by rw[hd,e];rfl
  have hdr:w.data.toList.drop 1=Lib.decDigits n.natAbs:=by rw[hd,e];rfl
  have hv:-((n.natAbs:Nat):Int)=n:=by omega
  unfold o6;rw[hs,hdr,if_neg (by omega),if_pos hall,if_pos rfl,hval,hv,o7.2 hw.symm]
 ·have e:Lib.itoa n=Lib.decDigits n.natAbs:=by unfold Lib.itoa;rw[if_neg hneg,show n.toNat=n.natAbs by omega]
  have hs:fo w.data.toList=0:=by
   rw[hd,e];unfold fo;split;·rename_i c r hc;rw[hc,List.all_cons,Bool.and_eq_true]at hall;have h1:=hall.1;simp only[iy,Bool.and_eq_true,decide_eq_true_eq]at h1;rw[if_neg];intro e45;subst e45;have:(45:UInt8).toNat=45:=rfl;omega
   ·rfl
  have hdr:w.data.toList.drop 0=Lib.decDigits n.natAbs:=by rw[hd,e];rfl
  have hv:((n.natAbs:Nat):Int)=n:=by omega
  unfold o6;rw[hs,hdr,if_neg (by omega),if_pos hall,if_neg (by omega),hval,hv,o7.2 hw.symm]
def Ot{n:Int}(hin:bE n (-999999999) 999999999=true):iz (bC n)=some n:=by unfold iz;rw[Ep hin rfl,if_pos rfl]
def fK(f:ByteArray->Option Int):List ByteArray->Option (List Int)
 |[]=>some []
 |w::ws=>match f w with
  |none=>none
  |some n=>match fK f ws with
   |none=>none
   |some l=>some (n::l)
def uw(s:ByteArray):List Int×Bool:=if fB s ByteArray.empty=true then([],true)else match fK iz (fl s)with
 |none=>([],false)
 |some l=>(l,true)
def OA(n:Int):Lib.itoa n≠[]:=by
 unfold Lib.itoa;split;·simp
 ·exact El _
def OB{row:List Int}(h:row≠[]):eD row≠[]:=by
 cases row with
 |nil=>exact absurd rfl h
 |cons x xs =>unfold eD;rw[List.map_cons,Lib.join_cons];have:=OA x;simp[this]
def OC{row:List Int}(h:row≠[]):fl (eQ row)=row.map bC:=by
 have hd:(eQ row).data.toList=Lib.join (row.map Lib.itoa) [32]:=by simp[eQ,eD]
 unfold fl;rw[hd,zo (row.map Lib.itoa) (by simpa using h) λx hx=>by obtain⟨n,_,rfl⟩:=List.mem_map.1 hx;exact Eo n,List.map_map];rfl
def EA:∀{row:List Int},(∀n∈row,bE n (-999999999) 999999999=true)->fK iz (row.map bC)=some row
 |[],_=>rfl
 |n::ns,h=>by rw[List.map_cons,fK,Ot (h n (List.mem_cons_self ..)),EA λm hm=>h m (List.mem_cons_of_mem _ hm)]
def EB{row:List Int}(h:row≠[])(hr:∀n∈row,bE n (-999999999) 999999999=true):uw (eQ row)=(row,true):=by unfold uw;rw[if_neg,OC h,EA hr];intro he;have e:=o7.1 he;have:=congrArg (λb:ByteArray=>b.data.toList) e;simp[eQ]at this;exact OB h this
def dL(x:Int×Int×List Int)(i j:Nat):Int:=af x i j*af x j i
def gG(x:Int×Int×List Int):Bool:=(List.range' 0 x.1.toNat).all λi=>(List.range' 0 x.1.toNat).all λj=>!decide (dL x i j < -3)
def gu(m:Int×Int×List Int):Int×Int×List Int:=if(aP m&&!decide (ba m=[]))=true then iX m else(0,0,[])
def ef(m:Int×Int×List Int):List (Int×Int×List Int)×Bool :=
 if((fk (gu m)).2&&(fk (gu m)).1.all gG)=true then((fk (gu m)).1,true)else([],false)
def bD.skew{n:Int}{x:Int×Int×List Int}(h:bD n x){i j:Nat}(hi:i<n.toNat)(hj:j<n.toNat):dA (af x i j) (af x j i)=true:=by obtain⟨⟨d,hR⟩,h1,h2⟩:=h;exact oO hR.good (by rw[h1];exact hi) (by rw[h1];exact hj)
def zq{a b:Int}(h:dA a b=true):a*b<=0:=by
 simp only[dA,Bool.and_eq_true,beq_iff_eq,decide_eq_decide]at h;obtain⟨h1,h2⟩:=h;by_cases ha:0<a;·exact Int.mul_nonpos_of_nonneg_of_nonpos (by omega) (by have:=h1.1 ha;omega)
 ·by_cases h0:a=0;·rw[h0];simp
  ·have:0<b:=by
    by_cases hb:b<0;·exact absurd (h1.2 hb) ha
    ·by_cases hb0:b=0;·exact absurd (h2.2 hb0) h0
     ·omega
   exact Int.mul_nonpos_of_nonpos_of_nonneg (by omega) (by omega)
def OD{n:Int}{x:Int×Int×List Int}(h:bD n x)(i j:Nat):-9801<=dL x i j/\dL x i j<=9801:=by
 have key:∀i j,-99<=af x i j/\af x i j<=99:=λi j=>by
  unfold af;rw[List.getD_eq_getElem?_getD];cases hq:x.2.2[i*x.1.toNat+j]? with
  |none=>simp
  |some u=>exact h.ents u (List.mem_of_getElem? hq)
 have h1:=key i j;have h2:=key j i;unfold dL;generalize af x i j=a at *
 generalize af x j i=b at *
 have:(a*b).natAbs<=99*99:=by rw[Int.natAbs_mul];exact Nat.mul_le_mul (by omega) (by omega)
 omega
def ED{n:Int}{S:List (Int×Int×List Int)}(hS:d6 n S){x:Int×Int×List Int}(h:x∈fj n S):x∈S:=by obtain⟨d,hd,rfl⟩:=List.mem_map.1 h;obtain⟨y,hy,rfl⟩:=List.mem_map.1 ((oW _).mem_iff.1 hd);obtain⟨_,h1,h2⟩:=hS y hy;obtain⟨a,b,c⟩:=y;simp only at h1 h2;subst h1 h2;exact hy
def EE{n:Int}{S:List (Int×Int×List Int)}:(fj n S).length=S.length:=by unfold fj;rw[List.length_map,(oW _).length_eq,List.length_map]
def EF{m:Int×Int×List Int}(h:(fk m).2=true):gY m=true/\d6 m.1 (fk m).1/\1<=(fk m).1.length/\(fk m).1.length<=100:=by
 unfold fk at h ⊢;cases hp:gY m;·rw[hp]at h;cases h
 rw[hp]at h;simp only[if_true]at h ⊢;cases hc:jI m with
 |none=>rw[hc]at h;cases h
 |some S =>
  obtain⟨f1,f2,f3⟩:=nB hp hc;refine⟨trivial,λx hx=>f1 x (ED f1 hx), ?_, ?_⟩;·show 1<=(fj m.1 S).length;rw[EE];exact f2
  ·show(fj m.1 S).length<=100;rw[EE];exact f3
def OE{n:Int}{x:Int×Int×List Int}(h:bD n x):∃L:List Nat,L.Nodup/\(∀y∈L,y<n.toNat)/\L.length=n.toNat/\∀i j,i<n.toNat->j<n.toNat->af (bO x) (L.getD i 0) (L.getD j 0)=af x i j:=by obtain⟨_,e1,e2⟩:=id h;obtain⟨o,ho,e⟩:=zi h.dim (e2.trans e1.symm);obtain⟨L,rfl,h1,h2,h3⟩:=kK ho;rw[e1]at h2 h3;refine⟨L,h1,h2,h3,λi j hi hj=>?_⟩;have a1:=h2 _ (bz (l:=L) (j:=i) 0 (by omega));have a2:=h2 _ (bz (l:=L) (j:=j) 0 (by omega));rw[e,gW h.dim _ (by rw[e2];exact a1) (by rw[e1];exact a2),gE,kb h1 (by omega)];congr 1;unfold eF;rw[if_pos (by rw[e1];exact a1),kb h1 (by omega)]
def Cl(n:Int)(S:List (Int×Int×List Int)):Prop:=∀x∈S,∀k,k<n.toNat->aP (bf x k)=true/\∃y∈S,y=dK x k
def OF{S:List (Int×Int×List Int)}{y:Int×Int×List Int}:(∀x∈S,x∈fi S y)/\gX (fi S y) y.2.2=true:=by
 unfold fi;split;·exact⟨λx hx=>hx,by assumption⟩
 ·exact⟨λx hx=>List.mem_append_left _ hx,oZ.2 ⟨y,by simp,rfl⟩⟩
def EG{S S':List (Int×Int×List Int)}(h:∀x∈S,x∈S'){d:List Int}(hd:gX S d=true):gX S' d=true:=by obtain⟨y,h1,h2⟩:=oZ.1 hd;exact oZ.2 ⟨y,h _ h1,h2⟩
def EH{x:Int×Int×List Int}:∀(r k:Nat) {S S':List (Int×Int×List Int)},f7 x k r S=some S'->(∀y∈S,y∈S')/\∀k',k<=k'->k'<k+r->aP (bf x k')=true/\gX S' (dK x k').2.2=true
 |0,k,S,S',h=>by injection h with h;subst h;exact⟨λy hy=>hy,λk' h1 h2=>by omega⟩
 |r+1,k,S,S',h=>by
  obtain⟨S1,h1,h2⟩:=Option.bind_eq_some_iff.1 (show(f5 x k S).bind (f7 x (k+1) r)=some S' from h);obtain⟨g1,g2⟩:=EH r (k+1) h2;unfold f5 at h1;split at h1
  ·rename_i hs;split at h1
   ·injection h1 with h1;subst h1;obtain⟨f1,f2⟩:=OF (S:=S) (y:=dK x k);refine⟨λy hy=>g1 y (f1 y hy),λk' h3 h4=>?_⟩;by_cases e:k'=k;·subst e;exact⟨hs,EG g1 f2⟩
    ·exact g2 k' (by omega) (by omega)
   ·cases h1
  ·cases h1
def EI{n:Int}:∀(F a:Nat) {S S':List (Int×Int×List Int)},d6 n S->S.length<=100->(∀i,i<a->i<S.length->∀k,k<n.toNat->aP (bf (S.getD i z3) k)=true/\gX S (dK (S.getD i z3) k).2.2=true)->gF n.toNat F a S=some S' ->
  (∀x∈S,x∈S')/\∀i,i<S'.length->∀k,k<n.toNat->aP (bf (S'.getD i z3) k)=true/\gX S' (dK (S'.getD i z3) k).2.2=true
 |0,a,S,S',_,_,_,h=>by cases h
 |F+1,a,S,S',hS,hl,hh,h=>by
  have e1:gF n.toNat (F+1) a S=if a<S.length then(f7 (S.getD a z3) 0 n.toNat S).bind (gF n.toNat F (a+1))else some S:=rfl
  rw[e1]at h;by_cases ha:a<S.length
  ·rw[if_pos ha]at h;obtain⟨S1,h1,h2⟩:=Option.bind_eq_some_iff.1 h;obtain⟨f1,f2,f3,f4⟩:=uu (rI hS ha) n.toNat 0 (by omega) hS hl h1;obtain⟨g1,g2⟩:=EH n.toNat 0 h1;obtain⟨k1,k2⟩:=EI F (a+1) f1 f3 (λi hi hi2 k hk=>by
    by_cases e:i=a;·subst e;rw[f4 i _ ha];exact g2 k (Nat.zero_le _) (by omega)
    ·rw[f4 i _ (by omega)];obtain⟨p1,p2⟩:=hh i (by omega) (by omega) k hk;exact⟨p1,EG g1 p2⟩) h2
   exact⟨λx hx=>k1 x (g1 x hx),k2⟩
  ·rw[if_neg ha]at h;injection h with h;subst h;exact⟨λx hx=>hx,λi hi k hk=>hh i (by omega) hi k hk⟩
def OG{n:Int}{x y:Int×Int×List Int}(hx:bD n x)(hy:bD n y)(h:x.2.2=y.2.2):x=y:=by
 obtain⟨_,a1,a2⟩:=hx;obtain⟨_,b1,b2⟩:=hy;obtain⟨p,q,d⟩:=x;obtain⟨p',q',d'⟩:=y;simp only at *
 rw[a1,a2,b1,b2,h]
def ux{m:Int×Int×List Int}(hp:gY m=true){S:List (Int×Int×List Int)}(h:jI m=some S):Cl m.1 S/\bO m∈S:=by
 have h0:d6 m.1 [bO m]:=λx hx=>by rw[List.mem_singleton.1 hx];exact(zj hp).can
 obtain⟨h1,h2⟩:=EI 102 0 h0 (by simp) (λi hi=>by omega) h;have hS:=(nB hp h).1;refine⟨λx hx k hk=>?_,h1 _ (by simp)⟩;obtain⟨i,hi,rfl⟩:=List.getElem_of_mem hx;have:=h2 i hi k hk;rw[List.getD_eq_getElem?_getD,List.getElem?_eq_getElem hi]at this;obtain⟨p1,p2⟩:=this;obtain⟨y,q1,q2⟩:=oZ.1 p2;exact⟨p1,y,q1,OG (hS y q1) ((hS _ hx).nxt hk p1) q2⟩
abbrev fp:=Nat->Nat->Int
def wt(A:fp)(u v:Nat):Int:=-(A u v*A v u)
def bq(m:Int×Int×List Int)(i:Nat):List Nat:=(List.range m.1.toNat).filter λj=>!decide (af m i j=0)
def kO(A:Nat->Nat->Int)(l:List Nat):Nat:=((List.range' 0 l.length).map λi=>(List.range' 0 i).countP λj=>!decide (A (l.getD i 0) (l.getD j 0)=0)).sum
def pc(m:Int×Int×List Int)(l:List Int):Bool:=l.all (λx=>decide (0<=x)&&decide (x<m.1))&&decide (l.length<=5)
def OI{m:Int×Int×List Int}{l:List Int}(h:pc m l=true):∃L:List Nat,l=an L/\(∀x∈L,x<m.1.toNat)/\L.length<=5:=by
 simp only[pc,Bool.and_eq_true,List.all_eq_true,decide_eq_true_eq]at h;obtain⟨h1,h2⟩:=h;refine⟨l.map Int.toNat, ?_,λx hx=>?_,by simpa using h2⟩
 ·unfold an;rw[List.map_map];conv=>lhs;rw[<-List.map_id l]
  refine List.map_congr_left λx hx=>?_;have:=h1 x hx;simp only[Function.comp,id];omega
 ·obtain⟨y,hy,rfl⟩:=List.mem_map.1 hx;have:=h1 y hy;omega
def OJ{m:Int×Int×List Int}{L:List Nat}(h:∀x∈L,x<m.1.toNat)(hl:L.length<=5):pc m (an L)=true:=by simp only[pc,Bool.and_eq_true,List.all_eq_true,decide_eq_true_eq,bv];refine⟨λx hx=>?_,hl⟩;obtain⟨y,hy,rfl⟩:=List.mem_map.1 hx;have:=h y hy;omega
def rP(m:Int×Int×List Int)(i:Nat):(bq m i).length<=m.1.toNat:=by unfold bq;have:=List.length_filter_le (λj=>!decide (af m i j=0)) (List.range m.1.toNat);simpa using this
def EM{m:Int×Int×List Int}{i j:Nat}:j∈bq m i↔j<m.1.toNat/\af m i j≠0:=by unfold bq;simp[List.mem_filter]
def iZ(m:Int×Int×List Int):List Nat->List (List Nat)->List (List Nat)
 |[],out=>out
 |k::ks,out=>iZ m ks (if k∈out.flatten then out else out++[(cP m k).1])
def eI(m:Int×Int×List Int):List (List Nat):=iZ m (List.range m.1.toNat) []
def pf(m:Int×Int×List Int)(p:List Nat):Bool:=decide (kO (af m) p+1=p.length)
def gZ(m:Int×Int×List Int):Bool:=(eI m).all (pf m)
def OK(m:Int×Int×List Int):Prop:=∀i j,i<m.1.toNat->j<m.1.toNat->(af m i j=0↔af m j i=0)
def EN{m:Int×Int×List Int}(h:aP m=true):OK m:=λi j hi hj=>by simp only[aP,Bool.and_eq_true,List.all_eq_true,List.mem_range]at h;have:=h.2 i hi j hj;simp only[dA,Bool.and_eq_true,beq_iff_eq,decide_eq_decide]at this;exact this.2
def pg(m:Int×Int×List Int)(F:List Nat):Prop:=∀x∈F,x<m.1.toNat/\∀j,j<m.1.toNat->af m x j≠0->j∈F
structure g0(m:Int×Int×List Int)(k:Nat)(out:List (List Nat)):Prop where
 src:∀p∈out,∃i,i<m.1.toNat/\p=(cP m i).1
 len:out.length<=k
def zw{m:Int×Int×List Int}{i:Nat}(h:i<m.1.toNat):pg m (cP m i).1:=by obtain⟨h1,h2⟩:=ud h;exact λx hx=>⟨h1.lt x hx,h2 x hx⟩
def g0.shut{m:Int×Int×List Int}{k:Nat}{out:List (List Nat)}(h:g0 m k out):pg m out.flatten:=by intro x hx;obtain⟨p,hp,hx⟩:=List.mem_flatten.1 hx;obtain⟨i,hi,rfl⟩:=h.src p hp;obtain⟨h1,h2⟩:=zw hi x hx;exact⟨h1,λj hj ha=>List.mem_flatten.2 ⟨_,hp,h2 j hj ha⟩⟩
def g0.step{m:Int×Int×List Int}{k:Nat}{out:List (List Nat)}(h:g0 m k out)(hk:k<m.1.toNat):g0 m (k+1) (out++[(cP m k).1]) :=
 ⟨λp hp=>by
  rcases List.mem_append.1 hp with hp|hp;·exact h.src p hp
  ·exact⟨k,hk,List.mem_singleton.1 hp⟩,by have:=h.len;simp;omega⟩
def g0.up{m:Int×Int×List Int}{k:Nat}{out:List (List Nat)}(h:g0 m k out):g0 m (k+1) out:=⟨h.src,by have:=h.len;omega⟩
def EO{m:Int×Int×List Int}:∀(r k:Nat) (out:List (List Nat)),k+r=m.1.toNat->g0 m k out->g0 m m.1.toNat (iZ m (List.range' k r) out)
 |0,k,out,hk,h=>by
  have:k=m.1.toNat:=by omega
  subst this;exact h
 |r+1,k,out,hk,h=>by
  rw[List.range'_succ];show g0 m _ (iZ m (List.range' (k+1) r) (if k∈out.flatten then out else out++[(cP m k).1]));refine EO r (k+1) _ (by omega) ?_;split;·exact h.up
  ·exact h.step (by omega)
def OL(m:Int×Int×List Int):g0 m m.1.toNat (eI m):=by unfold eI;rw[List.range_eq_range'];exact EO m.1.toNat 0 [] (by omega) ⟨(λp hp=>by cases hp),by simp⟩
def zx{m:Int×Int×List Int}:∀(ks:List Nat) (out:List (List Nat)),∃t,iZ m ks out=out++t
 |[],out=>⟨[],by simp[iZ]⟩
 |k::ks,out=>by
  obtain⟨t,h⟩:=zx ks (if k∈out.flatten then out else out++[(cP m k).1]);rw[iZ,h];split;·exact⟨t,rfl⟩
  ·exact⟨[(cP m k).1]++t,by simp⟩
def fL(p:List Nat)(j:Nat):List Nat:=if j∈p then p else p++[j]
def jd(m:Int×Int×List Int):Nat->Nat->List Nat->List Nat
 |0,_,p=>p
 |f+1,a,p=>if a<p.length then jd m f (a+1) ((bq m (p.getD a 0)).foldl fL p)else p
def EP(A:Nat->Nat->Int)(x:Nat):∀(js:List Nat) (s:List Nat×List Nat),(gV A x js s).1=(js.filter λj=>!decide (A x j=0)).foldl fL s.1
 |[],s=>rfl
 |j::js,s=>by
  rw[gV,EP A x js,List.filter_cons];by_cases h:A x j=0;·rw[if_neg (c:=(!decide (A x j=0))=true) (by rw[decide_eq_true h];decide),if_neg (λhc=>hc.1 h)]
  ·rw[if_pos (c:=(!decide (A x j=0))=true) (by rw[decide_eq_false h];rfl),List.foldl_cons];congr 1;unfold fL;by_cases hj:j∈s.1;·rw[if_pos hj,if_neg (λhc=>hc.2 hj)]
   ·rw[if_neg hj,if_pos ⟨h,hj⟩]
def EQ{m:Int×Int×List Int}:∀(f a:Nat) (s:List Nat×List Nat),(iV (af m) m.1.toNat f a s).1=jd m f a s.1
 |0,a,s=>rfl
 |f+1,a,s=>by
  rw[iV,jd];by_cases h:a<s.1.length;·rw[if_pos h,if_pos h,EQ f (a+1),EP];rfl
  ·rw[if_neg h,if_neg h]
def OM(m:Int×Int×List Int)(i:Nat):(cP m i).1=jd m m.1.toNat 0 [i]:=EQ _ _ _
def ON(p:List Nat)(j:Nat):∃t,fL p j=p++t:=by
 unfold fL;split;·exact⟨[],by simp⟩
 ·exact⟨[j],rfl⟩
def ER:∀(js p:List Nat),∃t,js.foldl fL p=p++t
 |[],p=>⟨[],by simp⟩
 |j::js,p=>by obtain⟨t,h⟩:=ON p j;obtain⟨u,h'⟩:=ER js (fL p j);exact⟨t++u,by rw[List.foldl_cons,h',h,List.append_assoc]⟩
def ES:∀(js p:List Nat) {x:Nat},x∈js.foldl fL p->x∈p\/x∈js
 |[],p,x,h=>.inl h
 |j::js,p,x,h=>by
  rcases ES js _ h with h|h
  ·unfold fL at h;split at h;·exact .inl h
   ·rcases List.mem_append.1 h with h|h;·exact .inl h
    ·exact .inr (by rw[List.mem_singleton.1 h];simp)
  ·exact .inr (List.mem_cons_of_mem _ h)
def ET:∀(js:List Nat) {p:List Nat},p.Nodup->(js.foldl fL p).Nodup
 |[],p,h=>h
 |j::js,p,h=>by
  refine ET js ?_;unfold fL;split;·exact h
  ·rename_i hj;exact List.nodup_append.2 ⟨h,by simp,λa ha b hb e=>by rw[List.mem_singleton]at hb;subst hb;subst e;exact hj ha⟩
def EU{b:Nat->Nat->Bool}(hb:∀i j,b i j=b j i)(h0:∀i,b i i=false):∀L:Nat,((List.range' 0 L).map λi=>(List.range' 0 L).countP (b i)).sum=2*((List.range' 0 L).map λi=>(List.range' 0 i).countP (b i)).sum
 |0=>rfl
 |L+1=>by
  have ih:=EU hb h0 L;have e:List.range' 0 (L+1)=List.range' 0 L++[L]:=by rw[<-List.range_eq_range',<-List.range_eq_range',List.range_succ]
  have cnt:∀i,(List.range' 0 (L+1)).countP (b i)=(List.range' 0 L).countP (b i)+(if b i L=true then 1 else 0):=λi=>by rw[e,List.countP_append,List.countP_cons,List.countP_nil];omega
  have tot:∀l:List Nat,(l.map λi=>(List.range' 0 (L+1)).countP (b i)).sum=(l.map λi=>(List.range' 0 L).countP (b i)).sum+l.countP (b L):=by
   intro l;induction l with
   |nil=>rfl
   |cons i l ihl =>rw[List.map_cons,List.sum_cons,ihl,cnt,List.map_cons,List.sum_cons,List.countP_cons,hb L i];omega
  rw[tot,e,List.map_append,List.sum_append,ih,List.map_append,List.sum_append,List.countP_append,List.countP_cons,List.countP_nil];simp only[List.map_cons,List.map_nil,List.sum_cons,List.sum_nil,h0,Bool.false_eq_true,if_false];omega
def OO(p:Nat->Bool)(l:List Nat):l.countP p=(List.range' 0 l.length).countP λi=>p (l.getD i 0):=by
 have:l=(List.range' 0 l.length).map λi=>l.getD i 0:=by
  apply List.ext_getElem?;intro i;rw[<-List.range_eq_range',List.getElem?_map];by_cases h:i<l.length;·rw[List.getElem?_range h,List.getElem?_eq_getElem h,Option.map_some,List.getD_eq_getElem?_getD,List.getElem?_eq_getElem h];rfl
  ·rw[List.getElem?_eq_none (by omega),List.getElem?_eq_none (by simp;omega)];rfl
 conv=>lhs;rw[this]
 rw[List.countP_map];rfl
def OP{m:Int×Int×List Int}{p:List Nat}(hn:p.Nodup)(hs:pg m p){x:Nat}(hx:x∈p):(bq m x).length=p.countP λj=>!decide (af m x j=0):=by
 rw[List.countP_eq_length_filter];unfold bq;have n1:((List.range m.1.toNat).filter λj=>!decide (af m x j=0)).Nodup:=List.Pairwise.filter _ List.nodup_range;have n2:(p.filter λj=>!decide (af m x j=0)).Nodup:=List.Pairwise.filter _ hn;refine List.Perm.length_eq ((List.perm_ext_iff_of_nodup n1 n2).2 λj=>?_);rw[List.mem_filter,List.mem_filter,List.mem_range];obtain⟨h1,h2⟩:=hs x hx;constructor
 ·rintro ⟨a,b⟩
  exact⟨h2 j a (by simpa using b),b⟩
 ·rintro ⟨a,b⟩
  exact⟨(hs j a).1,b⟩
def OQ{m:Int×Int×List Int}(hsz:aP m=true){p:List Nat}(hn:p.Nodup)(hs:pg m p):(p.map λx=>(bq m x).length).sum=2*kO (af m) p:=by
 have hsym:=EN hsz;have e1:(p.map λx=>(bq m x).length)=(List.range' 0 p.length).map λi=>(List.range' 0 p.length).countP λj=>!decide (af m (p.getD i 0) (p.getD j 0)=0):=by
  apply List.ext_getElem?;intro i;rw[<-List.range_eq_range',List.getElem?_map,List.getElem?_map];by_cases h:i<p.length;·rw[List.getElem?_range h,List.getElem?_eq_getElem h,Option.map_some,Option.map_some,OP hn hs (List.getElem_mem h),OO,List.range_eq_range',List.getD_eq_getElem?_getD (l:=p) (i:=i),List.getElem?_eq_getElem h];rfl
  ·rw[List.getElem?_eq_none (by omega),List.getElem?_eq_none (by simp;omega)];rfl
 have lt:∀i,p.getD i 0<m.1.toNat\/p.length<=i:=λi=>by
  by_cases h:i<p.length;·exact .inl (hs _ (bz 0 h)).1
  ·exact .inr (by omega)
 let b:Nat->Nat->Bool:=λi j=>decide (i<p.length)&&(decide (j<p.length)&&!decide (af m (p.getD i 0) (p.getD j 0)=0));have hb:∀i j,b i j=b j i:=λi j=>by
  show(decide (i<p.length)&&(decide (j<p.length)&&!decide (af m (p.getD i 0) (p.getD j 0)=0)))=(decide (j<p.length)&&(decide (i<p.length)&&!decide (af m (p.getD j 0) (p.getD i 0)=0)));by_cases h1:i<p.length
  ·by_cases h2:j<p.length;·rw[decide_eq_true h1,decide_eq_true h2];have:=hsym _ _ (hs _ (bz (l:=p) (j:=i) 0 h1)).1 (hs _ (bz (l:=p) (j:=j) 0 h2)).1;rw[decide_eq_decide.2 this]
   ·rw[decide_eq_false h2,Bool.false_and,Bool.and_false,Bool.false_and]
  ·rw[decide_eq_false h1,Bool.false_and,Bool.false_and,Bool.and_false]
 have h0:∀i,b i i=false:=λi=>by
  show(decide (i<p.length)&&(decide (i<p.length)&&!decide (af m (p.getD i 0) (p.getD i 0)=0)))=false;by_cases h1:i<p.length
  ·have h2:=(hs _ (bz (l:=p) (j:=i) 0 h1)).1;have h3:af m (p.getD i 0) (p.getD i 0)=0:=by simp only[aP,Bool.and_eq_true,List.all_eq_true,List.mem_range]at hsz;have:=hsz.2 _ h2 _ h2;simp only[dA,Bool.and_eq_true,beq_iff_eq,decide_eq_decide]at this;omega
   rw[decide_eq_true h3,Bool.not_true,Bool.and_false,Bool.and_false]
  ·rw[decide_eq_false h1,Bool.false_and]
 have e2:∀i k,i<p.length->k<=p.length->(List.range' 0 k).countP (λj=>!decide (af m (p.getD i 0) (p.getD j 0)=0))=(List.range' 0 k).countP (b i):=λi k hi hk=>by
  refine List.countP_congr λj hj=>?_;have:j<p.length:=by have:=(List.mem_range'_1.1 hj).2;omega
  show _↔(decide (i<p.length)&&(decide (j<p.length)&&!decide (af m (p.getD i 0) (p.getD j 0)=0)))=true;rw[decide_eq_true hi,decide_eq_true this,Bool.true_and,Bool.true_and]
 rw[e1];unfold kO;have m1:∀(k:Nat->Nat),(∀i,i<p.length->k i<=p.length)->((List.range' 0 p.length).map λi=>(List.range' 0 (k i)).countP λj=>!decide (af m (p.getD i 0) (p.getD j 0)=0))=(List.range' 0 p.length).map λi=>(List.range' 0 (k i)).countP (b i):=λk hk=>by
  refine List.map_congr_left λi hi=>?_;have hi:i<p.length:=by have:=(List.mem_range'_1.1 hi).2;omega
  exact e2 i (k i) hi (hk i hi)
 rw[m1 (λ_=>p.length) (λ_ _=>Nat.le_refl _),m1 (λi=>i) (λi hi=>by omega)];exact EU hb h0 p.length
def f9(n:Nat)(S:List Nat):List Bool:=(List.range n).map λx=>decide (x∈S)
def EV{n:Nat}{S:List Nat}{x:Nat}(h:x<n):(f9 n S).getD x false=decide (x∈S):=by unfold f9;exact(nr (by simpa using h) false)
def uy(n:Nat)(S:List Nat):(f9 n S).length=n:=by simp[f9]
def EW{n:Nat}{S:List Nat}{x:Nat}(h:x<n):(f9 n S).set x true=f9 n (S++[x]):=by
 apply List.ext_getElem?;intro i;unfold f9;rw[List.getElem?_set,List.getElem?_map,List.getElem?_map];by_cases e:x=i;·subst e;rw[if_pos rfl,if_pos (by simpa using h),List.getElem?_range h];simp
 ·rw[if_neg e];by_cases hi:i<n;·rw[List.getElem?_range hi];simp[Ne.symm e]
  ·rw[List.getElem?_eq_none (by simp;omega)];rfl
def OR(n:Nat):List.replicate n false=f9 n []:=by
 unfold f9;apply List.ext_getElem?;intro i;rw[List.getElem?_replicate,List.getElem?_map];by_cases hi:i<n;·rw[if_pos hi,List.getElem?_range hi];rfl
 ·rw[if_neg hi,List.getElem?_eq_none (by simp;omega)];rfl
def fq(m:Int×Int×List Int)(i j:Nat):Int:=if i=j then 2 else -(aS (af m i j))
def dV(m:Int×Int×List Int)(i:Nat):List Int:=(List.range m.1.toNat).map (fq m i)
def cT(m:Int×Int×List Int):List (List Int):=(List.range m.1.toNat).map (dV m)
def EX{α:Type}(f:Nat->α){n j:Nat}(h:j<n):((List.range n).map f).take j++[f j]=((List.range n).map f).take (j+1):=by rw[List.take_add_one,List.getElem?_map,List.getElem?_range h];rfl
abbrev dg(m:Int×Int×List Int)(i:Nat):Nat:=(bq m i).length
abbrev cK(c:UInt8):ByteArray:=⟨#[c]⟩
def ph(m:Int×Int×List Int)(len:Nat)(c:UInt8)(i j:Nat):UInt8 :=
 if wt (af m) i j=3 then 71 else if wt (af m) i j=2 then(if len=2 then 66 else if 1<dg m i/\1<dg m j then 70 else if dg m i=1 then(if aS (af m j i)=2 then 66 else 67)else c)else c
def EY(m:Int×Int×List Int)(len:Nat)(c:UInt8)(i:Nat):UInt8:=(bq m i).foldl (λc j=>ph m len c i j) c
def uz(m:Int×Int×List Int)(L:List Nat):UInt8:=if(L.any λi=>decide (dg m i=3))=true then 68 else L.foldl (λc i=>EY m L.length c i) 65
def ej(m:Int×Int×List Int)(L:List Nat):ByteArray:=cK (uz m L)++bC (L.length:Int)
def EZ{m:Int×Int×List Int}(h:aP m=true){i j:Nat}(hi:i<m.1.toNat)(hj:j<m.1.toNat):dA (af m i j) (af m j i)=true:=by simp only[aP,Bool.and_eq_true,List.all_eq_true,List.mem_range]at h;exact h.2 i hi j hj
def OV{m:Int×Int×List Int}(h:aP m=true){i j:Nat}(hi:i<m.1.toNat)(hj:j<m.1.toNat):wt (af m) i j=max (dL m i j) (-(dL m i j))/\wt (af m) i j=-(aS (af m i j)) * -(aS (af m j i))/\0<=wt (af m) i j:=by
 have hs:=EZ h hi hj;have h0:=zq hs;refine⟨?_, ?_, ?_⟩;·unfold wt dL;omega
 ·unfold wt aS;rw[Int.neg_mul_neg,<-Int.natCast_mul,<-Int.natAbs_mul];omega
 ·unfold wt;omega
def eJ(a b:ByteArray):Bool:=decide (a.data.toList<=b.data.toList)
def OW(a b:ByteArray):(eJ a b||eJ b a)=true:=by unfold eJ;rw[Bool.or_eq_true,decide_eq_true_eq,decide_eq_true_eq];exact List.le_total _ _
def OX(a b c:ByteArray)(h1:eJ a b=true)(h2:eJ b c=true):eJ a c=true:=by
 unfold eJ at *
 rw[decide_eq_true_eq]at *
 exact List.le_trans h1 h2
def E3(a b:ByteArray)(h1:eJ a b=true)(h2:eJ b a=true):a=b:=by
 unfold eJ at *
 rw[decide_eq_true_eq]at *
 have:=List.le_antisymm h1 h2;cases a;cases b;congr 1;exact Array.toList_inj.1 this
def kP(l:List ByteArray)(x:ByteArray):List ByteArray:=(l.takeWhile λy=>eJ y x)++x::l.dropWhile λy=>eJ y x
def E4(l:List ByteArray)(x:ByteArray):(kP l x).Perm (x::l):=by unfold kP;refine List.perm_middle.trans ?_;rw[List.takeWhile_append_dropWhile]
abbrev nE(l:List ByteArray):Prop:=l.Pairwise λa b=>eJ a b=true
def E5:∀{l:List ByteArray} (x:ByteArray),nE l->nE (kP l x)
 |[],x,h=>by unfold kP;simp[nE]
 |y::l,x,h=>by
  obtain⟨h1,h2⟩:=List.pairwise_cons.1 h;unfold kP;by_cases hy:eJ y x=true
  ·rw[List.takeWhile_cons_of_pos (p:=λy=>eJ y x) hy,List.dropWhile_cons_of_pos (p:=λy=>eJ y x) hy];refine List.pairwise_cons.2 ⟨λz hz=>?_,E5 x h2⟩;rcases List.mem_cons.1 ((E4 l x).mem_iff.1 hz)with rfl|hz;·exact hy
   ·exact h1 z hz
  ·rw[List.takeWhile_cons_of_neg (p:=λy=>eJ y x) hy,List.dropWhile_cons_of_neg (p:=λy=>eJ y x) hy,List.nil_append];have hxy:eJ x y=true:=by have:=OW x y;rw[Bool.or_eq_true]at this;exact this.resolve_right hy
   refine List.pairwise_cons.2 ⟨λz hz=>?_,h⟩;rcases List.mem_cons.1 hz with rfl|hz;·exact hxy
   ·exact OX _ _ _ hxy (h1 z hz)
def lQ(l:List ByteArray):(cZ l).Perm l:=by
 unfold cZ;refine((List.mergeSort_perm _ _).map _).trans ?_;rw[List.map_map];refine List.Perm.of_eq ?_;conv=>rhs;rw[<-List.map_id l]
 exact List.map_congr_left λx _=>rfl
def zy(l:List ByteArray):nE (cZ l):=by
 unfold cZ nE;rw[List.pairwise_map];refine(List.pairwise_mergeSort ?_ ?_ _).imp ?_
 ·intro a b c h1 h2;rw[decide_eq_true_eq]at *
  exact List.le_trans h1 h2
 ·intro a b;rw[Bool.or_eq_true,decide_eq_true_eq,decide_eq_true_eq];exact List.le_total _ _
 ·intro a b h;exact h
def lR:List ByteArray->List ByteArray->List ByteArray
 |l,[]=>l
 |l,x::xs=>lR (kP l x) xs
def E6:∀(xs l:List ByteArray),nE l->nE (lR l xs)/\(lR l xs).Perm (xs++l)
 |[],l,h=>⟨h,List.Perm.refl _⟩
 |x::xs,l,h=>by obtain⟨h1,h2⟩:=E6 xs (kP l x) (E5 x h);refine⟨h1,h2.trans ?_⟩;exact((E4 l x).append_left xs).trans List.perm_middle
def zz(xs:List ByteArray):lR [] xs=cZ xs:=by obtain⟨h1,h2⟩:=E6 xs [] List.Pairwise.nil;rw[List.append_nil]at h2;exact List.Perm.eq_of_pairwise (λa b _ _=>E3 a b) h1 (zy xs) (h2.trans (lQ xs).symm)
def pi(xs:List ByteArray):ByteArray:=⟨(Lib.join (xs.map (·.data.toList)) [32]).toArray⟩
def pk(nm:Int×Int×List Int->List Nat->ByteArray)(l:List (Int×Int×List Int)):ByteArray :=
 match l.find? gZ with
 |none=>ByteArray.empty
 |some x=>pi (cZ ((eI x).map (nm x)))
def OZ{m:Int×Int×List Int}(h:gY (gu m)=true):(gu m).1=m.1/\(aP m&&!decide (ba m=[]))=true:=by
 unfold gu at *
 split;·rename_i hc;exact⟨rfl,hc⟩
 ·rename_i hc;rw[if_neg hc]at h;cases(show(false:Bool)=true from h)
def O0{m:Int×Int×List Int}(h:(ef m).2=true):(fk (gu m)).2=true/\(∀x∈(fk (gu m)).1,gG x=true)/\(ef m).1=(fk (gu m)).1:=by
 unfold ef at *
 split;·rename_i hc;rw[Bool.and_eq_true,List.all_eq_true]at hc;exact⟨hc.1,hc.2,rfl⟩
 ·rename_i hc;rw[if_neg hc]at h;cases h
def O1{m:Int×Int×List Int}(h:(ef m).2=true):d6 m.1 (ef m).1/\(ef m).1.length<=100:=by obtain⟨h1,h2,h3⟩:=O0 h;obtain⟨k1,k2,k3,k4⟩:=EF h1;rw[h3,<-(OZ k1).1];exact⟨k2,k4⟩
def bD.sizes{n:Int}{x:Int×Int×List Int}(h:bD n x):aP x=true:=by obtain⟨⟨d,hR⟩,_⟩:=h;exact hR.sizes
def bD.ok{n:Int}{x:Int×Int×List Int}(h:bD n x):(aP x&&!decide (ba x=[]))=true:=by obtain⟨⟨d,hR⟩,_⟩:=h;exact hR.ok
def zA{n:Int}{x:Int×Int×List Int}(h:bD n x){k:Nat}{out:List (List Nat)}(hC:g0 x k out){p:List Nat}(hp:p∈out):p.Nodup/\(∀y∈p,y<x.1.toNat)/\p.length<=5/\0<p.length/\pg x p:=by obtain⟨i,hi,rfl⟩:=hC.src p hp;obtain⟨h1,_⟩:=ud hi;have:=h1.le;have hb:=h.bound;have:=h.2.1;exact⟨h1.nd,h1.lt,by omega,h1.pos,zw hi⟩
def O3{c:UInt8}{n:Nat}(h:n<=5):(cK c++bC (n:Int)).size<=22:=by
 have hp1:dG (n:Int)=true:=by unfold dG;rw[dt (by omega),dt (by omega)];rfl
 have hz:=yN hp1;have:(cK c).size=1:=rfl;rw[ByteArray.size_append];omega
def jf(S:List (Int×Int×List Int)):Prop:=(S.map (·.2.2)).Nodup
def E7{α:Type}[DecidableEq α]:∀{l T:List α},l.Nodup->(∀x∈l,x∈T)->l.length<=T.length
 |[],T,_,_=>Nat.zero_le _
 |a::l,T,hn,h=>by obtain⟨h1,h2⟩:=List.nodup_cons.1 hn;have ha:=h a List.mem_cons_self;have:=E7 (T:=T.erase a) h2 (λx hx=>(List.mem_erase_of_ne (λe=>h1 (by subst e;exact hx))).2 (h x (List.mem_cons_of_mem _ hx)));rw[List.length_erase_of_mem ha]at this;have:=List.length_pos_of_mem ha;simp only[List.length_cons];omega
def O4{S:List (Int×Int×List Int)}{y:Int×Int×List Int}(h:jf S):jf (fi S y):=by
 unfold fi;split;·exact h
 ·rename_i hh;unfold jf;rw[List.map_append];refine List.nodup_append.2 ⟨h,by simp,λa ha b hb e=>hh (oZ.2 ?_)⟩;obtain⟨z,hz,rfl⟩:=List.mem_map.1 ha;rw[List.map_cons,List.map_nil,List.mem_singleton]at hb;exact⟨z,hz,e.trans hb⟩
def E8{S T:List (Int×Int×List Int)}(h:jf S)(hs:∀y∈S,y∈T):S.length<=T.length:=by
 have:=E7 (T:=T.map (·.2.2)) h (λx hx=>by obtain⟨z,hz,rfl⟩:=List.mem_map.1 hx;exact List.mem_map_of_mem (hs z hz))
 simpa using this
def E9{n:Int}{T:List (Int×Int×List Int)}(hT:Cl n T)(h100:T.length<=100){x:Int×Int×List Int}(hx:x∈T):∀(r k:Nat) {S:List (Int×Int×List Int)},k+r=n.toNat->jf S->(∀y∈S,y∈T) ->
  ∃S',f7 x k r S=some S'/\jf S'/\(∀y∈S',y∈T)/\S.length<=S'.length
 |0,k,S,_,h1,h2=>⟨S,rfl,h1,h2,Nat.le_refl _⟩
 |r+1,k,S,hk,h1,h2=>by
  obtain⟨a1,y,a2,a3⟩:=hT x hx k (by omega);have b1:jf (fi S (dK x k)):=O4 h1;have b2:∀y∈fi S (dK x k),y∈T:=λz hz=>by
   unfold fi at hz;split at hz;·exact h2 z hz
   ·rcases List.mem_append.1 hz with hz|hz;·exact h2 z hz
    ·rw[List.mem_singleton.1 hz,<-a3];exact a2
  obtain⟨S',c1,c2,c3,c4⟩:=E9 hT h100 hx r (k+1) (by omega) b1 b2;have hl:=E8 b1 b2;refine⟨S', ?_,c2,c3,Nat.le_trans Ed c4⟩;have e:f5 x k S=some (fi S (dK x k)):=by unfold f5;rw[if_pos a1,if_pos (by omega)]
  show(f5 x k S).bind (f7 x (k+1) r)=some S';rw[e];exact c1
def Fa{n:Int}{T:List (Int×Int×List Int)}(hT:Cl n T)(h100:T.length<=100):∀(F a:Nat) {S:List (Int×Int×List Int)},jf S->(∀y∈S,y∈T)->a<=S.length->101-a<F ->
  ∃S',gF n.toNat F a S=some S'/\jf S'/\∀y∈S',y∈T
 |0,a,S,_,_,_,h=>by omega
 |F+1,a,S,h1,h2,ha,hF=>by
  have e1:gF n.toNat (F+1) a S=if a<S.length then(f7 (S.getD a z3) 0 n.toNat S).bind (gF n.toNat F (a+1))else some S:=rfl
  rw[e1];have hl:=E8 h1 h2;by_cases h:a<S.length;·rw[if_pos h];obtain⟨S1,c1,c2,c3,c4⟩:=E9 hT h100 (h2 _ (bz z3 h)) n.toNat 0 (by omega) h1 h2;rw[c1];exact Fa hT h100 F (a+1) c2 c3 (by omega) (by omega)
  ·rw[if_neg h];exact⟨S,rfl,h1,h2⟩
def uA{m:Int×Int×List Int}{T:List (Int×Int×List Int)}(hT:Cl m.1 T)(h100:T.length<=100)(hm:bO m∈T):∃S,jI m=some S/\jf S/\∀y∈S,y∈T :=
 Fa hT h100 102 0 (by simp[jf]) (λy hy=>by rw[List.mem_singleton.1 hy];exact hm) (Nat.zero_le _) (by omega)
def Fb{n:Int}{T:List (Int×Int×List Int)}(hT:Cl n T){x:Int×Int×List Int}(hx:bD n x)(hc:bO x∈T){k:Nat}(hk:k<n.toNat):aP (bf x k)=true/\bO (bf x k)∈T:=by
 obtain⟨⟨d,hR⟩,e1,e2⟩:=id hx;obtain⟨o,ho,e⟩:=zi hR.dim (e2.trans e1.symm);obtain⟨L,rfl,h1,h2,h3⟩:=kK ho;have hk':k<x.1.toNat:=by rw[e1];exact hk
 have hLk:=h2 _ (bz (l:=L) (j:=k) 0 (by omega));obtain⟨a1,y,a2,a3⟩:=hT _ hc (L.getD k 0) (by rw[<-e1];exact hLk);have em:bf (bO x) (L.getD k 0)=bV (bf x k) (an L):=by rw[e];exact N8 hR.dim h1 h2 h3 hk'
 have hd:=nw hR.dim k;have hg:=rD hR.dim hk' hR.good;rw[em]at a1;have hs:aP (bf x k)=true:=by have:=cX a1;rw[N7 hd h1 h2 h3]at this;exact eT.sizes (d:=d) ⟨this,hg⟩
 refine⟨hs, ?_⟩;have ey:dK (bO x) (L.getD k 0)=bO (bf x k):=by unfold dK;rw[em];exact Eb hd (e2.trans e1.symm) ho
 rw[<-ey,<-a3];exact a2
def O5{n:Int}{T:List (Int×Int×List Int)}(hT:Cl n T){x:Int×Int×List Int}(hx:bD n x){k:Nat}(hk:k<n.toNat)(hs:aP (bf x k)=true)(hc:bO (bf x k)∈T):bO x∈T:=by have:=(Fb hT (hx.mut hk hs) hc hk).2;rwa [D8 hx.dim (by rw[hx.2.1];exact hk)]at this
end Go.Fw
