/- The plain part: what the functions compute, in lists and numbers. Nothing is assumed. -/
import Derived.Test.YtkjnhmjfdfiklaaGreatDoorFwd
import Derived.Lib.ItoaLen
import Derived.Lib.Join
import Derived.Test.YtkjnhmjfdfiklaaGreatDoorFza
import Derived.Lib.AtoiAll
import Derived.Lib.SplitLaws
noncomputable section
set_option linter.defProp false
set_option linter.unusedVariables false
namespace Go.Fw
def bK:List Int->List Int->Bool
 |[],[]=>false
 |[],_::_=>true
 |_::_,[]=>false
 |x::xs,y::ys=>if x=y then bK xs ys else decide (x<y)
def hU:List Int->List Int->Int
 |[],[]=>0
 |[],_::_=>-1
 |_::_,[]=>1
 |x::xs,y::ys=>if x=y then hU xs ys else if x<y then -1 else 1
def tl:∀a b:List Int,decide (hU a b<0)=bK a b
 |[],[]=>rfl
 |[],_::_=>rfl
 |_::_,[]=>rfl
 |x::xs,y::ys=>by
  rw[hU,bK];by_cases h:x=y;·rw[if_pos h,if_pos h,tl xs ys]
  ·rw[if_neg h,if_neg h];by_cases h2:x<y;·rw[if_pos h2,dt h2];rfl
   ·rw[if_neg h2,df h2];rfl
def bz(n lo hi:Int):Bool:=decide (lo<=n)&&decide (n<=hi)
def fR{α:Type}(n j:Nat)(F G:Nat->α):List α:=(List.range n).map λi=>if i<j then F i else G i
section
variable {α : Type} {n j : Nat} {F G : Nat → α}
def qA:(fR n j F G).length=n:=by simp[fR]
def Dd{i:Nat}(h:i<n)(d:α):((List.range n).map F).getD i d=F i:=by rw[List.getD_eq_getElem?_getD,List.getElem?_map,List.getElem?_range h];rfl
def No{i:Nat}(h:i<n)(d:α):(fR n j F G).getD i d=if i<j then F i else G i:=Dd h d
def De(h:j<n):(fR n j F G).set j (F j)=fR n (j+1) F G:=by
 apply List.ext_getElem?;intro i;by_cases hi:i<n
 ·by_cases e:j=i;·subst e;rw[List.getElem?_set_self (by rw[qA];exact h)];simp[fR,List.getElem?_map,List.getElem?_range h]
  ·rw[List.getElem?_set_ne e];simp only[fR,List.getElem?_map,List.getElem?_range hi,Option.map_some];by_cases h1:i<j;·rw[if_pos h1,if_pos (by omega)]
   ·rw[if_neg h1,if_neg (by omega)]
 ·rw[List.getElem?_eq_none (by rw[List.length_set,qA];omega),List.getElem?_eq_none (by rw[qA];omega)]
def Df:fR n 0 F G=(List.range n).map G:=by simp[fR]
def Dg:fR n n F G=(List.range n).map F:=by unfold fR;apply List.map_congr_left;intro i hi;rw[if_pos (List.mem_range.1 hi)]
def qB{l:List α}(d:α)(h:l.length=n):(List.range n).map (λi=>l.getD i d)=l:=by
 apply List.ext_getElem?;intro i;by_cases hi:i<n;·rw[List.getElem?_map,List.getElem?_range hi,Option.map_some,List.getD_eq_getElem?_getD,List.getElem?_eq_getElem (by omega),Option.getD_some]
 ·rw[List.getElem?_eq_none (by simp;omega),List.getElem?_eq_none (by omega)]
end
def Dh(x y:Int)(n:Nat)(hy:y=(n:Int))(hn:n<2147483648):0<=fj .and .i64 x y/\fj .and .i64 x y<=n:=by
 subst hy;have e:fj .and .i64 x (n:Int)=IntKind.i64.wrap ((BitVec.ofInt 64 x &&& BitVec.ofInt 64 (n:Int)).toNat:Int):=rfl;have h1:(BitVec.ofInt 64 x &&& BitVec.ofInt 64 (n:Int)).toNat<=n:=by rw[BitVec.toNat_and];refine Nat.le_trans Nat.and_le_right ?_;rw[BitVec.toNat_ofInt];omega
 rw[e];generalize(BitVec.ofInt 64 x &&& BitVec.ofInt 64 (n:Int)).toNat=k at h1;have:IntKind.i64.wrap (k:Int)=(k:Int):=by simp[IntKind.wrap,IntKind.bits,IntKind.signed];omega
 rw[this];omega
def bc(b:List Int)(r:Int×Int):Bool:=decide (0<=r.1)&&(decide (r.1<=(b.length:Int))&&decide (b.length<=maxLen))
def yr{b:List Int}{r:Int×Int}:bc b r=true↔0<=r.1/\r.1<=(b.length:Int)/\b.length<=maxLen:=by simp[bc]
def ou(m:Int×Int×List Int)(i j:Int):Bool:=decide (0<=i)&&(decide (0<=j)&&(decide (0<=m.1)&&decide (i*m.1+j<(m.2.2.length:Int))))
def ov(m:Int×Int×List Int)(i j:Int):Int:=m.2.2.getD (i*m.1+j).toNat 0
def Di{m:Int×Int×List Int}{i j:Int}(hl:m.2.2.length<=maxLen)(h:ou m i j=true):ac (ac (i*m.1)+j)=i*m.1+j/\0<=i*m.1+j/\i*m.1+j<(m.2.2.length:Int):=by simp only[ou,Bool.and_eq_true,decide_eq_true_eq]at h;obtain⟨h1,h2,h3,h4⟩:=h;have h5:0<=i*m.1:=Int.mul_nonneg h1 h3;rw[bv]at hl;have e:ac (i*m.1)=i*m.1:=aM (by omega) (by omega);rw[e,aM (by omega) (by omega)];exact⟨rfl,by omega,h4⟩
def aj(m:Int×Int×List Int)(i j:Nat):Int:=m.2.2.getD (i*m.1.toNat+j) 0
def jE{m:Int×Int×List Int}(h:0<=m.1)(i j:Nat):ov m (i:Int) (j:Int)=aj m i j:=by unfold ov aj;congr 1;obtain⟨n,hn⟩:=Int.eq_ofNat_of_zero_le h;rw[hn];norm_cast
def aO(m:Int×Int×List Int):Bool:=bz m.1 1 5&&(bz m.2.1 m.1 8&&decide ((m.2.2.length:Int)=m.1*m.2.1))
def lh(l:List Int):Bool:=l.all λx=>bz x (-99) 99
def bn(m:Int×Int×List Int):Bool:=aO m&&lh m.2.2
def fS(a b:Int):Bool:=(decide (0<a) == decide (b<0))&&(decide (a=0) == decide (b=0))
def bg(m:Int×Int×List Int):Bool:=bn m&&(List.range m.1.toNat).all λi=>(List.range m.1.toNat).all λj=>fS (aj m i j) (aj m j i)
def cC{n lo hi:Int}:bz n lo hi=true↔lo<=n/\n<=hi:=by simp[bz]
def bf{m:Int×Int×List Int}(h:aO m=true):∃n r:Nat,m.1=(n:Int)/\m.2.1=(r:Int)/\1<=n/\n<=5/\n<=r/\r<=8/\m.2.2.length=r*n:=by simp only[aO,Bool.and_eq_true,cC,decide_eq_true_eq]at h;obtain⟨⟨h1,h2⟩,⟨h3,h4⟩,h5⟩:=h;obtain⟨n,hn⟩:=Int.eq_ofNat_of_zero_le (show 0<=m.1 by omega);obtain⟨r,hr⟩:=Int.eq_ofNat_of_zero_le (show 0<=m.2.1 by omega);refine⟨n,r,hn,hr,by omega,by omega,by omega,by omega, ?_⟩;rw[hn,hr,Int.mul_comm]at h5;exact_mod_cast h5
def hY{n r i j:Nat}(hi:i<r)(hj:j<n):i*n+j<r*n:=by have:=Nat.mul_le_mul_right n (show i+1<=r from hi);rw[Nat.add_mul]at this;omega
def jF{m:Int×Int×List Int}(h:aO m=true){i j:Nat}(hi:i<m.2.1.toNat)(hj:j<m.1.toNat):ou m (i:Int) (j:Int)=true:=by obtain⟨n,r,hn,hr,_,_,_,_,hl⟩:=bf h;have:=hY (n:=n) (r:=r) (i:=i) (j:=j) (by omega) (by omega);simp only[ou,Bool.and_eq_true,decide_eq_true_eq,hn,hl];refine⟨by omega,by omega,by omega, ?_⟩;exact_mod_cast this
def Np{l:List Int}(h:lh l=true)(i:Nat):-99<=l.getD i 0/\l.getD i 0<=99:=by
 by_cases hi:i<l.length;·have:=(List.all_eq_true.1 h) _ (bO 0 hi);exact cC.1 this
 ·rw[List.getD_eq_getElem?_getD,List.getElem?_eq_none (by omega),Option.getD_none];omega
def iA{j n:Nat}(h:j<n):(List.range n).drop j=j::(List.range n).drop (j+1):=by rw[dB 0 (by simpa using h),List.getD_eq_getElem?_getD,List.getElem?_range h,Option.getD_some]
def cr(n:Int):ByteArray:=⟨(Lib.itoa n).toArray⟩
def fJ(u:Nat):List Int:=(Lib.decDigits u).reverse.map λb=>(b.toNat:Int)
def Dj{t:Nat}(h:t<10):((UInt8.ofNat (48+t)).toNat:Int)=48+(t:Int):=by rw[UInt8.toNat_ofNat'];omega
def Dk{u:Nat}(h:u<10):fJ u=[48+(u:Int)]:=by rw[fJ,Lib.decDigits,dif_pos h];simp only[List.reverse_cons,List.reverse_nil,List.nil_append,List.map_cons,List.map_nil];rw[Dj h]
def Dl{u:Nat}(h:¬ u<10):fJ u=(48+((u%10:Nat):Int))::fJ (u / 10):=by rw[fJ,Lib.decDigits,dif_neg h,List.reverse_append];simp only[List.reverse_cons,List.reverse_nil,List.nil_append,List.singleton_append,List.map_cons];rw[Dj (Nat.mod_lt _ (by omega))];rfl
def Dm(l:List UInt8):strOfNums (l.map λb=>(b.toNat:Int))=⟨l.toArray⟩:=by
 unfold strOfNums;rw[List.map_map];congr 2;conv=>rhs;rw[<-List.map_id l]
 apply List.map_congr_left;intro b _;simp
def Nq(u:Nat):strOfNums (fJ u).reverse=⟨(Lib.decDigits u).toArray⟩:=by rw[fJ,<-List.map_reverse,List.reverse_reverse,Dm]
def Nr(u:Nat):strOfNums (45::(fJ u).reverse)=⟨(45::Lib.decDigits u).toArray⟩:=by rw[fJ,<-List.map_reverse,List.reverse_reverse];exact Dm (45::Lib.decDigits u)
def Dn(k:Int):Int.tmod k 10=if k<0 then -((k.natAbs%10:Nat):Int)else((k.natAbs%10:Nat):Int):=by
 split;·rename_i h;obtain⟨u,rfl⟩:∃u:Nat,k=-(u:Int):=⟨k.natAbs,by omega⟩;rw[Int.neg_tmod,Int.natAbs_neg,Int.natAbs_natCast];rfl
 ·rename_i h;obtain⟨u,rfl⟩:∃u:Nat,k=(u:Int):=⟨k.toNat,by omega⟩;rw[Int.natAbs_natCast];rfl
def Ns(k:Int):Int.tdiv k 10=if k<0 then -((k.natAbs / 10:Nat):Int)else((k.natAbs / 10:Nat):Int):=by
 split;·rename_i h;obtain⟨u,rfl⟩:∃u:Nat,k=-(u:Int):=⟨k.natAbs,by omega⟩;rw[Int.neg_tdiv,Int.natAbs_neg,Int.natAbs_natCast];rfl
 ·rename_i h;obtain⟨u,rfl⟩:∃u:Nat,k=(u:Int):=⟨k.toNat,by omega⟩;rw[Int.natAbs_natCast];rfl
def Do{n:Int}(h0:0<=n)(h1:n<256):w8 n=n:=by unfold w8;rw[IntKind.wrap_u8];omega
def Nt{k:Int}(h:¬ Int.tmod k 10<0):w8 (ac (48+Int.tmod k 10))=48+((k.natAbs%10:Nat):Int):=by
 have hm:k.natAbs%10<10:=Nat.mod_lt _ (by omega);have e:Int.tmod k 10=((k.natAbs%10:Nat):Int):=by
  rw[Dn]at h ⊢;split;·rename_i hk;rw[if_pos hk]at h;omega
  ·rfl
 rw[e,aM (by omega) (by omega),Do (by omega) (by omega)]
def Nu{k:Int}(h:Int.tmod k 10<0):w8 (ac (48+ac (0-Int.tmod k 10)))=48+((k.natAbs%10:Nat):Int):=by
 have hm:k.natAbs%10<10:=Nat.mod_lt _ (by omega);have e:Int.tmod k 10=-((k.natAbs%10:Nat):Int):=by
  rw[Dn]at h ⊢;split;·rfl
  ·rename_i hk;rw[if_neg hk]at h;omega
 have e1:ac (0 - -((k.natAbs%10:Nat):Int))=((k.natAbs%10:Nat):Int):=by rw[aM (by omega) (by omega)];omega
 rw[e,e1,aM (by omega) (by omega),Do (by omega) (by omega)]
def yt(k:Int):(Int.tdiv k 10).natAbs=k.natAbs / 10:=by rw[Ns];split<;>omega
def yu(n:Int):(cr n).data.toList=Lib.itoa n:=by simp[cr]
def eB(l:List Int):List UInt8:=Lib.join (l.map Lib.itoa) [32]
def eI(l:List Int):ByteArray:=⟨(eB l).toArray⟩
def Nw{l:List Int}(h:l≠[])(n:Int):eB (l++[n])=eB l++[32]++Lib.itoa n:=by
 unfold eB Lib.join;cases l with
 |nil=>exact absurd rfl h
 |cons x xs =>
  rw[List.map_append,List.map_cons,List.map_cons,List.map_nil];induction xs generalizing x with
  |nil=>simp[List.intercalate,List.intersperse]
  |cons y ys ih =>have:=ih y (by simp);simp only[List.map_cons,List.cons_append,List.intercalate,List.intersperse,List.flatten_cons,List.append_assoc]at this ⊢;rw[this]
def Nx(n:Int):eB [n]=Lib.itoa n:=by simp[eB,Lib.join,List.intercalate]
def Ny:eB []=[]:=rfl
def Dp{l:List Int}(h:l.all eH=true):(eB l).length<=22*l.length:=by
 have key:∀j,j<=l.length->(eB (l.take j)).length<=22*j:=by
  intro j;induction j with
  |zero=>intro _;simp[Ny]
  |succ j ih =>
   intro hj;have h2:eH (l.getD j 0)=true:=List.all_eq_true.1 h _ (bO 0 hj);have hn:(Lib.itoa (l.getD j 0)).length<=21:=by simp only[eH,Bool.and_eq_true,decide_eq_true_eq]at h2;exact Lib.itoa_length_le _ h2.1 h2.2
   have:=ih (by omega);rw[<-ym 0 hj];by_cases he:l.take j=[];·rw[he,List.nil_append,Nx];omega
   ·rw[Nw he];simp only[List.length_append,List.length_cons,List.length_nil];omega
 have:=key l.length (Nat.le_refl _);rwa [List.take_length]at this
def li(l:List Int):Bool:=decide (l.length<=2097152)&&l.all eH
def eC(l:List UInt8):ByteArray:=⟨l.toArray⟩
def NA(l:List UInt8):(eC l).size=l.length:=by simp[eC,ByteArray.size]
def cw:List Int->Nat
 |[]=>0
 |x::xs=>Nat.gcd x.natAbs (cw xs)
def NB(l m:List Int):cw (l++m)=Nat.gcd (cw l) (cw m):=by
 induction l with
 |nil=>simp[cw]
 |cons x xs ih=>rw[List.cons_append,cw,ih,cw,Nat.gcd_assoc]
def tm(c:Int)(l:List Int):cw (l.map λx=>c*x)=c.natAbs*cw l:=by
 induction l with
 |nil=>simp[cw]
 |cons x xs ih=>rw[List.map_cons,cw,ih,cw,Int.natAbs_mul,Nat.gcd_mul_left]
def tn{l:List Int}{x:Int}(h:x∈l):((cw l:Nat):Int)∣x:=by
 induction l with
 |nil=>cases h
 |cons y ys ih =>
  rw[cw];rcases List.mem_cons.1 h with e|e;·subst e;exact Int.ofNat_dvd_left.2 (Nat.gcd_dvd_left _ _)
  ·exact Int.dvd_trans (Int.natCast_dvd_natCast.2 (Nat.gcd_dvd_right _ _)) (ih e)
def cT(n:Nat)(A:Nat->Nat->Int)(d:Nat->Int):Prop:=∀i,i<n->0<d i/\∀j,j<n->d i*A i j=-(d j*A j i)
def lj(n:Nat)(A:Nat->Nat->Int)(d:Nat->Int):Prop:=∀i,i<n->∃L:List Nat,(∀k∈L,k<n)/\cw (L.map d)=1/\∀e,cT n A e->∀k∈L,d i*e k=d k*e i
def Dq{n:Nat}{A:Nat->Nat->Int}{d e:Nat->Int}(hd:cT n A d)(he:cT n A e)(pd:lj n A d){i:Nat}(hi:i<n):d i∣e i:=by
 obtain⟨L,h1,h2,h3⟩:=pd i hi;have h4:(L.map d).map (λx=>e i*x)=(L.map e).map (λx=>d i*x):=by rw[List.map_map,List.map_map];apply List.map_congr_left;intro k hk;show e i*d k=d i*e k;rw[h3 e he k hk,Int.mul_comm]
 have h5:(e i).natAbs*1=(d i).natAbs*cw (L.map e):=by rw[<-h2,<-tm,<-tm,h4]
 exact Int.natAbs_dvd_natAbs.1 ⟨cw (L.map e),by rw[<-h5,Nat.mul_one]⟩
def NC{n:Nat}{A:Nat->Nat->Int}{d e:Nat->Int}(hd:cT n A d)(he:cT n A e)(pd:lj n A d)(pe:lj n A e){i:Nat}(hi:i<n):d i=e i:=by have h1:=Dq hd he pd hi;have h2:=Dq he hd pe hi;have:=(hd i hi).1;have:=(he i hi).1;exact Int.dvd_antisymm (by omega) (by omega) h1 h2
def tq{n:Nat}{A:Nat->Nat->Int}{e:Nat->Int}(he:cT n A e){i j:Nat}(hi:i<n)(hj:j<n)(h:A i j=0):A j i=0:=by
 have h1:=(he i hi).2 j hj;rw[h,Int.mul_zero]at h1;have h2:e j*A j i=0:=by omega
 rcases Int.mul_eq_zero.1 h2 with h3|h3;·have:=(he j hj).1;omega
 ·exact h3
def Dr{a b e f p q:Int}(he:0<e)(hf:0<f)(h:a*f=b*e)(hg:e*p=-(f*q)):a*p=-(b*q):=by
 have h1:f*(a*p)=f*(-(b*q)):=by
  calc f*(a*p)=(a*f)*p:=by rw[<-Int.mul_assoc,Int.mul_comm f a]
   _=b*(e*p):=by rw[h,Int.mul_assoc]
   _=f*(-(b*q)):=by rw[hg,Int.mul_neg,Int.mul_neg,Int.mul_left_comm]
 exact Int.eq_of_mul_eq_mul_left (by omega) h1
def ND{a b e f p q:Int}(hp:p≠0)(he:0<e)(h:a*p=-(b*q))(hg:e*p=-(f*q))(hq:q≠0):a*f=b*e:=by
 have h1:q*(a*f)=q*(b*e):=by
  calc q*(a*f)=a*(f*q):=by rw[Int.mul_left_comm,Int.mul_comm q f]
   _=a * -(e*p):=by rw[hg,Int.neg_neg]
   _=e*(-(a*p)):=by rw[Int.mul_neg,Int.mul_neg,Int.mul_left_comm]
   _=q*(b*e):=by rw[h,Int.neg_neg,Int.mul_left_comm,Int.mul_comm e q,Int.mul_left_comm]
 exact Int.eq_of_mul_eq_mul_left hq h1
def Ds{a b c e f g:Int}(hf:f≠0)(h1:a*f=b*e)(h2:b*g=c*f):a*g=c*e:=by
 have h3:f*(a*g)=f*(c*e):=by
  calc f*(a*g)=(a*f)*g:=by rw[<-Int.mul_assoc,Int.mul_comm f a]
   _=e*(b*g):=by rw[h1,Int.mul_comm b e,Int.mul_assoc]
   _=f*(c*e):=by rw[h2,Int.mul_left_comm,Int.mul_comm e f,Int.mul_left_comm]
 exact Int.eq_of_mul_eq_mul_left hf h3
open Classical in
def bq(m:Int×Int×List Int):List Int :=
 if h:∃l:List Int,l.length=m.1.toNat/\cT m.1.toNat (aj m) (λi=>l.getD i 0)/\lj m.1.toNat (aj m) (λi=>l.getD i 0)then Classical.choose h else[]
def yw{m:Int×Int×List Int}{l:List Int}(h1:l.length=m.1.toNat)(h2:cT m.1.toNat (aj m) (λi=>l.getD i 0))(h3:lj m.1.toNat (aj m) (λi=>l.getD i 0)):bq m=l:=by
 have h:∃l:List Int,l.length=m.1.toNat/\cT m.1.toNat (aj m) (λi=>l.getD i 0)/\lj m.1.toNat (aj m) (λi=>l.getD i 0):=⟨l,h1,h2,h3⟩;have hc:=Classical.choose_spec h;rw[bq,dif_pos h];generalize Classical.choose h=c at hc;obtain⟨c1,c2,c3⟩:=hc;apply List.ext_getElem?;intro i;by_cases hi:i<m.1.toNat;·have:=NC c2 h2 c3 h3 hi;simp only[List.getD_eq_getElem?_getD]at this;rw[List.getElem?_eq_getElem (by omega),List.getElem?_eq_getElem (by omega)]at this ⊢;simpa using this
 ·rw[List.getElem?_eq_none (by omega),List.getElem?_eq_none (by omega)]
def Dt{m:Int×Int×List Int}(h:¬ ∃e,cT m.1.toNat (aj m) e):bq m=[]:=by
 rw[bq,dif_neg];rintro ⟨l,_,h2,_⟩
 exact h ⟨_,h2⟩
def tr{m:Int×Int×List Int}(h:bq m≠[]):(bq m).length=m.1.toNat/\cT m.1.toNat (aj m) (λi=>(bq m).getD i 0)/\lj m.1.toNat (aj m) (λi=>(bq m).getD i 0):=by
 by_cases hx:∃l:List Int,l.length=m.1.toNat/\cT m.1.toNat (aj m) (λi=>l.getD i 0)/\lj m.1.toNat (aj m) (λi=>l.getD i 0)
 ·have:bq m=Classical.choose hx:=by rw[bq,dif_pos hx]
  rw[this];exact Classical.choose_spec hx
 ·exact absurd (by rw[bq,dif_neg hx]) h
def ow{n:Nat}{A:Nat->Nat->Int}{e:Nat->Int}(he:cT n A e){i j:Nat}(hi:i<n)(hj:j<n):fS (A i j) (A j i)=true:=by
 have h1:=(he i hi).2 j hj;have h2:=(he i hi).1;have h3:=(he j hj).1;have e1:decide (0<A i j)=decide (A j i<0):=by
  rw[decide_eq_decide];constructor
  ·intro h;have:=Int.mul_pos h2 h;rcases Int.lt_or_le (A j i) 0 with h4|h4;·exact h4
   ·have:=Int.mul_nonneg (Int.le_of_lt h3) h4;omega
  ·intro h;have:=Int.mul_neg_of_pos_of_neg h3 h;rcases Int.lt_or_le 0 (A i j)with h4|h4;·exact h4
   ·have:=Int.mul_nonpos_of_nonneg_of_nonpos (Int.le_of_lt h2) h4;omega
 have e2:decide (A i j=0)=decide (A j i=0):=by rw[decide_eq_decide];exact⟨tq he hi hj,tq he hj hi⟩
 rw[fS,e1,e2];simp
def NE{m:Int×Int×List Int}(hs:bn m=true)(h:bq m≠[]):bg m=true:=by obtain⟨h1,h2,h3⟩:=tr h;rw[bg,hs,Bool.true_and,List.all_eq_true];intro i hi;rw[List.all_eq_true];intro j hj;exact ow h2 (List.mem_range.1 hi) (List.mem_range.1 hj)
def aF(l:List Nat):List Int:=l.map λ(x:Nat)=>(x:Int)
def cG(l:List Nat):(aF l).length=l.length:=by simp[aF]
def gD(l:List Nat)(k:Nat):(aF l).getD k 0=((l.getD k 0:Nat):Int):=by simp only[aF,List.getD_eq_getElem?_getD,List.getElem?_map];cases l[k]?<;>rfl
def yx(l:List Nat)(x:Nat):aF l++[(x:Int)]=aF (l++[x]):=by simp[aF]
def Du{l:List Nat}{x:Nat}:((x:Int)∈aF l)↔x∈l:=by
 simp only[aF,List.mem_map];constructor
 ·rintro ⟨a,h1,h2⟩
  rwa [<-Int.ofNat.inj h2]
 ·exact λh=>⟨x,h,rfl⟩
def tu:∀(n:Nat) (l:List Nat),l.Nodup->(∀x∈l,x<n)->l.length<=n
 |0,l,_,h=>by
  cases l with
  |nil=>simp
  |cons x xs=>exact absurd (h x (by simp)) (by omega)
 |n+1,l,hn,h=>by have:=tu n (l.erase n) (hn.erase n) (λx hx=>by have h1:=(hn.mem_erase_iff).1 hx;have:=h x h1.2;omega);rw[List.length_erase]at this;split at this<;>omega
def iC(A:Nat->Nat->Int)(x:Nat):List Nat->List Nat×List Nat->List Nat×List Nat
 |[],s=>s
 |j::js,s=>iC A x js (if A x j≠0/\j∉s.1 then(s.1++[j],s.2++[x])else s)
def jG(A:Nat->Nat->Int)(n:Nat):Nat->Nat->List Nat×List Nat->List Nat×List Nat
 |0,_,s=>s
 |f+1,p,s=>if p<s.1.length then jG A n f (p+1) (iC A (s.1.getD p 0) (List.range n) s)else s
def ll(m:Int×Int×List Int)(i:Nat):List Nat×List Nat:=jG (aj m) m.1.toNat m.1.toNat 0 ([i],[i])
structure dD(n:Nat)(A:Nat->Nat->Int)(i:Nat)(s:List Nat×List Nat):Prop where
 nd:s.1.Nodup
 lt:∀x∈s.1,x<n
 len:s.2.length=s.1.length
 hd:s.1.getD 0 0=i
 pos:0<s.1.length
 src:∀k,1<=k->k<s.1.length->∃k',k'<k/\s.2.getD k 0=s.1.getD k' 0/\A (s.2.getD k 0) (s.1.getD k 0)≠0
def dD.le{n:Nat}{A:Nat->Nat->Int}{i:Nat}{s:List Nat×List Nat}(h:dD n A i s):s.1.length<=n:=tu n s.1 h.nd h.lt
def jl{α:Type}{l m:List α}{k:Nat}{d:α}(h:k<l.length):(l++m).getD k d=l.getD k d:=by simp only[List.getD_eq_getElem?_getD];rw[List.getElem?_append_left h]
def yy{α:Type}{l:List α}{x d:α}{k:Nat}(h:k=l.length):(l++[x]).getD k d=x:=by subst h;simp[List.getD_eq_getElem?_getD]
def dD.step{n:Nat}{A:Nat->Nat->Int}{i p j:Nat}{s:List Nat×List Nat}(h:dD n A i s)(hp:p<s.1.length)(hj:j<n)(ha:A (s.1.getD p 0) j≠0/\j∉s.1):dD n A i (s.1++[j],s.2++[s.1.getD p 0]):=by
 refine⟨?_, ?_, ?_, ?_, ?_, ?_⟩;·exact List.nodup_append.2 ⟨h.nd,by simp,λa ha' b hb e=>by rw[List.mem_singleton]at hb;subst hb;subst e;exact ha.2 ha'⟩
 ·intro x hx;rcases List.mem_append.1 hx with hx|hx;·exact h.lt x hx
  ·rw[List.mem_singleton]at hx;omega
 ·simp[h.len]
 ·exact(jl h.pos).trans h.hd
 ·simp
 ·intro k h1 h2;simp only[List.length_append,List.length_cons,List.length_nil]at h2;by_cases hk:k<s.1.length
  ·obtain⟨k',h3,h4,h5⟩:=h.src k h1 hk;refine⟨k',h3, ?_, ?_⟩;·show(s.2++_).getD k 0=(s.1++_).getD k' 0;rw[jl (by rw[h.len];exact hk),jl (by omega),h4]
   ·show A ((s.2++_).getD k 0) ((s.1++_).getD k 0)≠0;rw[jl (by rw[h.len];exact hk),jl hk];exact h5
  ·have e:k=s.1.length:=by omega
   refine⟨p,by omega, ?_, ?_⟩;·show(s.2++_).getD k 0=(s.1++_).getD p 0;rw[yy (by rw[h.len];exact e),jl hp]
   ·show A ((s.2++_).getD k 0) ((s.1++_).getD k 0)≠0;rw[yy (by rw[h.len];exact e),yy e];exact ha.1
def mR(s t:List Nat×List Nat):Prop:=∃u,t.1=s.1++u
def mR.getD{s t:List Nat×List Nat}(h:mR s t){k:Nat}(hk:k<s.1.length):t.1.getD k 0=s.1.getD k 0:=by obtain⟨u,h⟩:=h;rw[h,jl hk]
def mR.len{s t:List Nat×List Nat}(h:mR s t):s.1.length<=t.1.length:=by obtain⟨u,h⟩:=h;rw[h];simp
def mR.mem{s t:List Nat×List Nat}(h:mR s t){x:Nat}(hx:x∈s.1):x∈t.1:=by obtain⟨u,h⟩:=h;rw[h];exact List.mem_append_left _ hx
def tv{n:Nat}{A:Nat->Nat->Int}{i p:Nat}:∀(js:List Nat) (s:List Nat×List Nat),dD n A i s->p<s.1.length->(∀j∈js,j<n) ->
  dD n A i (iC A (s.1.getD p 0) js s)/\mR s (iC A (s.1.getD p 0) js s)/\∀j∈js,A (s.1.getD p 0) j≠0->j∈(iC A (s.1.getD p 0) js s).1
 |[],s,h,_,_=>⟨h,⟨[],by simp[iC]⟩,λj hj=>by cases hj⟩
 |j::js,s,h,hp,hl=>by
  by_cases ha:A (s.1.getD p 0) j≠0/\j∉s.1
  ·have e:(s.1++[j]).getD p 0=s.1.getD p 0:=jl hp;have:=tv (p:=p) js (s.1++[j],s.2++[s.1.getD p 0]) (h.step hp (hl j (by simp)) ha) (by simp;omega) (λx hx=>hl x (by simp[hx]));simp only[e]at this;obtain⟨h1,⟨u,h2⟩,h3⟩:=this;rw[iC,if_pos ha];refine⟨h1,⟨[j]++u,by rw[h2];simp⟩,λx hx hax=>?_⟩;rcases List.mem_cons.1 hx with hx|hx;·subst hx;rw[h2];simp
   ·exact h3 x hx hax
  ·have:=tv (p:=p) js s h hp (λx hx=>hl x (by simp[hx]));obtain⟨h1,h2,h3⟩:=this;rw[iC,if_neg ha];refine⟨h1,h2,λx hx hax=>?_⟩;rcases List.mem_cons.1 hx with hx|hx;·subst hx;exact h2.mem (Classical.byContradiction λhc=>ha ⟨hax,hc⟩)
   ·exact h3 x hx hax
def Dv{n:Nat}{A:Nat->Nat->Int}{i:Nat}:∀(f p:Nat) (s:List Nat×List Nat),dD n A i s->n<=f+p->p<=s.1.length->(∀k,k<p->∀j,j<n->A (s.1.getD k 0) j≠0->j∈s.1) ->
  dD n A i (jG A n f p s)/\∀x∈(jG A n f p s).1,∀j,j<n->A x j≠0->j∈(jG A n f p s).1
 |0,p,s,h,hf,hp,hc=>⟨h,λx hx j hj ha=>by change x∈s.1 at hx;show j∈s.1;obtain⟨k,hk,rfl⟩:=List.getElem_of_mem hx;have:=h.le;refine hc k (by omega) j hj ?_;rw[List.getD_eq_getElem?_getD,List.getElem?_eq_getElem hk];exact ha⟩
 |f+1,p,s,h,hf,hp,hc=>by
  rw[jG];by_cases hlt:p<s.1.length
  ·rw[if_pos hlt];obtain⟨h1,h2,h3⟩:=tv (p:=p) (List.range n) s h hlt (λx hx=>List.mem_range.1 hx);refine Dv f (p+1) _ h1 (by omega) (by have:=h2.len;omega) ?_;intro k hk j hj ha;by_cases e:k=p;·subst e;rw[h2.getD hlt]at ha;exact h3 j (List.mem_range.2 hj) ha
   ·rw[h2.getD (by omega)]at ha;exact h2.mem (hc k (by omega) j hj ha)
  ·rw[if_neg hlt];refine⟨h,λx hx j hj ha=>?_⟩;obtain⟨k,hk,rfl⟩:=List.getElem_of_mem hx;refine hc k (by omega) j hj ?_;rw[List.getD_eq_getElem?_getD,List.getElem?_eq_getElem hk];exact ha
def dD.first{n:Nat}{A:Nat->Nat->Int}{i:Nat}(h:i<n):dD n A i ([i],[i]) :=
 ⟨by simp,by simpa using h,rfl,rfl,by simp,λk h1 h2=>by simp at h2;omega⟩
def NF{m:Int×Int×List Int}{i:Nat}(h:i<m.1.toNat):dD m.1.toNat (aj m) i (ll m i)/\∀x∈(ll m i).1,∀j,j<m.1.toNat->aj m x j≠0->j∈(ll m i).1 :=
 Dv m.1.toNat 0 _ (dD.first h) (by omega) (by simp) (λk hk=>by omega)
def cM{α:Type}{l:List α}{x y:Nat}{v d:α}(h:x<l.length):(l.set x v).getD y d=if x=y then v else l.getD y d:=by
 by_cases e:x=y;·subst e;rw[if_pos rfl,MV h]
 ·rw[if_neg e,List.getD_eq_getElem?_getD,List.getElem?_set_ne e,List.getD_eq_getElem?_getD]
def ln{l:List Nat}(h:l.Nodup){a b:Nat}(ha:a<l.length)(hb:b<l.length)(e:l.getD a 0=l.getD b 0):a=b:=by
 rw[List.getD_eq_getElem?_getD,List.getD_eq_getElem?_getD,List.getElem?_eq_getElem ha,List.getElem?_eq_getElem hb,Option.getD_some,Option.getD_some]at e;rcases Nat.lt_trichotomy a b with h1|h1|h1;·exact absurd e (List.pairwise_iff_getElem.1 h a b ha hb h1)
 ·exact h1
 ·exact absurd e.symm (List.pairwise_iff_getElem.1 h b a hb ha h1)
def mS{l:List Nat}{x:Nat}(h:x∈l):∃k,k<l.length/\l.getD k 0=x:=by obtain⟨k,hk,rfl⟩:=List.getElem_of_mem h;exact⟨k,hk,by rw[List.getD_eq_getElem?_getD,List.getElem?_eq_getElem hk,Option.getD_some]⟩
def Dw{α:Type}(l:List Nat)(f:Nat->α):(List.range l.length).map (λt=>f (l.getD t 0))=l.map f:=by
 have:=qB (n:=l.length) (l:=l) 0 rfl;conv=>rhs;rw[<-this]
 rw[List.map_map];rfl
def bP(a:Int):Int:=(a.natAbs:Int)
def ox{a:Int}(h:a≠0):0<bP a:=by unfold bP;omega
def qC{a:Int}(h:-99<=a/\a<=99):bP a<=99:=by unfold bP;omega
def Dx{e f p q:Int}(he:0<e)(hf:0<f)(h:e*p=-(f*q)):e*bP p=f*bP q:=by
 have h1:(e*p).natAbs=(f*q).natAbs:=by rw[h,Int.natAbs_neg]
 rw[Int.natAbs_mul,Int.natAbs_mul]at h1;have:((e.natAbs*p.natAbs:Nat):Int)=((f.natAbs*q.natAbs:Nat):Int):=by rw[h1]
 rw[Int.natCast_mul,Int.natCast_mul,Int.natAbs_of_nonneg (Int.le_of_lt he),Int.natAbs_of_nonneg (Int.le_of_lt hf)]at this;exact this
def dC(q:Nat->Int):Nat->Int
 |0=>1
 |k+1=>dC q k*q k
def NG(q:Nat->Int){a b:Nat}(h:a<=b):dC q a∣dC q b:=by
 induction b with
 |zero=>rw[show a=0 by omega];exact Int.dvd_refl _
 |succ b ih =>
  by_cases e:a=b+1;·subst e;exact Int.dvd_refl _
  ·exact Int.dvd_trans (ih (by omega)) ⟨q b,rfl⟩
def qD{q:Nat->Int}{n:Nat}(h:∀k,k<n->0<q k/\q k<=99):∀k,k<=n->0<dC q k/\dC q k<=99 ^ k
 |0,_=>by simp[dC]
 |k+1,hk=>by obtain⟨h1,h2⟩:=qD h k (by omega);obtain⟨h3,h4⟩:=h k (by omega);refine⟨Int.mul_pos h1 h3, ?_⟩;rw[Int.pow_succ];exact Int.mul_le_mul h2 h4 (by omega) (Int.pow_nonneg (by omega))
def qE{k:Nat}(h:k<=8):(99:Int) ^ k<=9227446944279201:=by
 have h1:99 ^ k<=99 ^ 8:=Nat.pow_le_pow_right (by omega) h;have h2:(99:Int) ^ k=((99 ^ k:Nat):Int):=by rw[Int.natCast_pow];rfl
 rw[h2];omega
def NH{H D Hk q p a:Int}(hH:0<Hk)(hq:0<q)(hp:0<p)(ha:0<a)(h1:Hk*q∣D)(h2:D∣a*Hk) :
  (Int.tdiv (a*p) q)*q=a*p/\0<Int.tdiv (a*p) q/\D∣Int.tdiv (a*p) q*(Hk*q):=by
 obtain⟨R,hR⟩:=h1;obtain⟨c,hc⟩:=h2;have e:a=q*(R*c):=by
  have:Hk*a=Hk*(q*(R*c)):=by rw[Int.mul_comm Hk a,hc,hR,<-Int.mul_assoc Hk q,Int.mul_assoc]
  exact Int.eq_of_mul_eq_mul_left (by omega) this
 have e2:Int.tdiv (a*p) q=R*c*p:=by rw[e,Int.mul_assoc,Int.mul_tdiv_cancel_left _ (by omega)]
 rw[e2];refine⟨by rw[e,Int.mul_comm (R*c*p) q,Int.mul_assoc q], ?_, ?_⟩
 ·have h3:0<q*(R*c*p):=by rw[<-Int.mul_assoc,<-e];exact Int.mul_pos ha hp
  rcases Int.lt_or_le 0 (R*c*p)with h|h;·exact h
  ·have:=Int.mul_nonpos_of_nonneg_of_nonpos (Int.le_of_lt hq) h;omega
 ·refine⟨c*p, ?_⟩;rw[hR,Int.mul_comm (R*c*p),Int.mul_assoc,Int.mul_assoc,Int.mul_assoc,Int.mul_assoc]
def Dy(g:Nat)(l:List Int)(x:Int)(hx:0<=x)(hg:g=cw l):(Int.gcd (g:Int) x:Int)=((cw (l++[x]):Nat):Int):=by subst hg;rw[NB,cw,cw,Nat.gcd_zero_right];rfl
def qK(m:Int×Int×List Int)(s:List Nat×List Nat)(k:Nat):Int:=if k=0 then 1 else bP (aj m (s.1.getD k 0) (s.2.getD k 0))
def pK(m:Int×Int×List Int)(s:List Nat×List Nat)(k:Nat):Int:=bP (aj m (s.2.getD k 0) (s.1.getD k 0))
def tw{m:Int×Int×List Int}(h:bg m=true){i j:Nat}(hi:i<m.1.toNat)(hj:j<m.1.toNat):aj m i j=0↔aj m j i=0:=by rw[bg,Bool.and_eq_true,List.all_eq_true]at h;have h1:=List.all_eq_true.1 (h.2 i (List.mem_range.2 hi)) j (List.mem_range.2 hj);rw[fS,Bool.and_eq_true]at h1;have h2:=h1.2;rw[beq_iff_eq,decide_eq_decide]at h2;exact h2
def gE{m:Int×Int×List Int}(h:bn m=true)(i j:Nat):-99<=aj m i j/\aj m i j<=99:=by rw[bn,Bool.and_eq_true]at h;exact Np h.2 _
def eJ{m:Int×Int×List Int}(h:bg m=true):bn m=true:=by rw[bg,Bool.and_eq_true]at h;exact h.1
def dE{m:Int×Int×List Int}(h:bn m=true):aO m=true:=by rw[bn,Bool.and_eq_true]at h;exact h.1
def qF{n:Nat}{A:Nat->Nat->Int}{i:Nat}{s:List Nat×List Nat}(h:dD n A i s){k:Nat}(h1:1<=k)(h2:k<s.1.length):s.2.getD k 0<n:=by obtain⟨k',h3,h4,h5⟩:=h.src k h1 h2;rw[h4];exact h.lt _ (bO 0 (by omega))
def tx{m:Int×Int×List Int}(hs:bg m=true){i:Nat}{s:List Nat×List Nat}(h:dD m.1.toNat (aj m) i s){k:Nat}(h1:1<=k)(h2:k<s.1.length) :
  (0<qK m s k/\qK m s k<=99)/\(0<pK m s k/\pK m s k<=99):=by
 obtain⟨k',h3,h4,h5⟩:=h.src k h1 h2;have h6:aj m (s.1.getD k 0) (s.2.getD k 0)≠0:=λe=>h5 ((tw hs (h.lt _ (bO 0 h2)) (qF h h1 h2)).1 e);have hb:=eJ hs;rw[qK,if_neg (by omega),pK];exact⟨⟨ox h6,qC (gE hb _ _)⟩,⟨ox h5,qC (gE hb _ _)⟩⟩
def qG{m:Int×Int×List Int}(hs:bg m=true){i:Nat}{s:List Nat×List Nat}(h:dD m.1.toNat (aj m) i s)(k:Nat)(h2:k<s.1.length):0<qK m s k/\qK m s k<=99:=by
 by_cases e:k=0;·subst e;rw[qK,if_pos rfl];omega
 ·exact(tx hs h (by omega) h2).1
structure T2(m:Int×Int×List Int)(s:List Nat×List Nat)(d0:List Int)(k:Nat)(d:List Int)(g:Int):Prop where
 len:d.length=m.1.toNat
 out:∀x,x<m.1.toNat->(∀k',k'<k->x≠s.1.getD k' 0)->d.getD x 0=d0.getD x 0
 val:∀k',k'<k->0<d.getD (s.1.getD k' 0) 0/\d.getD (s.1.getD k' 0) 0<=99 ^ (4+k')/\dC (qK m s) s.1.length∣d.getD (s.1.getD k' 0) 0*dC (qK m s) k
 tree:∀k',1<=k'->k'<k->d.getD (s.1.getD k' 0) 0*qK m s k'=d.getD (s.2.getD k' 0) 0*pK m s k'
 gcd:g=((cw ((List.range k).map λt=>d.getD (s.1.getD t 0) 0):Nat):Int)
def T2.step{m:Int×Int×List Int}{s:List Nat×List Nat}{d0 d:List Int}{g:Int}{i k:Nat}(hs:bg m=true)(h:dD m.1.toNat (aj m) i s)(hn:m.1.toNat<=5)(h1:1<=k)(h2:k<s.1.length)(ht:T2 m s d0 k d g) :
  (0<d.getD (s.2.getD k 0) 0*pK m s k/\d.getD (s.2.getD k 0) 0*pK m s k<=9227446944279201) /\
  (0<Int.tdiv (d.getD (s.2.getD k 0) 0*pK m s k) (qK m s k)/\Int.tdiv (d.getD (s.2.getD k 0) 0*pK m s k) (qK m s k)<=9227446944279201) /\
  T2 m s d0 (k+1) (d.set (s.1.getD k 0) (Int.tdiv (d.getD (s.2.getD k 0) 0*pK m s k) (qK m s k))) (Int.gcd g (Int.tdiv (d.getD (s.2.getD k 0) 0*pK m s k) (qK m s k))):=by
 obtain⟨⟨hq,hq9⟩,hp,hp9⟩:=tx hs h h1 h2;obtain⟨k',h3,h4,h5⟩:=h.src k h1 h2;obtain⟨a1,a2,a3⟩:=ht.val k' h3;have hle:=h.le;rw[<-h4]at a1 a2 a3;have hH:=(qD (qG hs h) k (by omega)).1;have hx:s.1.getD k 0<d.length:=by rw[ht.len];exact h.lt _ (bO 0 h2)
 have hdv:dC (qK m s) k*qK m s k∣dC (qK m s) s.1.length:=NG (qK m s) (show k+1<=s.1.length from h2);obtain⟨b1,b2,b3⟩:=NH (H:=0) hH hq hp a1 hdv a3;have hb:d.getD (s.2.getD k 0) 0*pK m s k<=99 ^ (4+k):=by have:d.getD (s.2.getD k 0) 0*pK m s k<=99 ^ (4+k')*99:=Int.mul_le_mul a2 hp9 (by omega) (Int.pow_nonneg (by omega));rw[<-Int.pow_succ]at this;refine Int.le_trans this ?_;have h6:99 ^ (4+k'+1)<=99 ^ (4+k):=Nat.pow_le_pow_right (by omega) (by omega);exact_mod_cast h6
 have hp8:=qE (k:=4+k) (by omega);generalize hv:Int.tdiv (d.getD (s.2.getD k 0) 0*pK m s k) (qK m s k)=v at b1 b2 b3;have hvle:v<=d.getD (s.2.getD k 0) 0*pK m s k:=by rw[<-b1];have:=Int.mul_le_mul_of_nonneg_left (show(1:Int)<=qK m s k by omega) (Int.le_of_lt b2);omega
 have hne:∀t,t<k->s.1.getD k 0≠s.1.getD t 0:=λt ht' e=>by have:=ln h.nd h2 (by omega) e;omega
 have hget:∀t,t<k->(d.set (s.1.getD k 0) v).getD (s.1.getD t 0) 0=d.getD (s.1.getD t 0) 0:=λt ht'=>by rw[cM hx,if_neg (hne t ht')]
 have hself:(d.set (s.1.getD k 0) v).getD (s.1.getD k 0) 0=v:=by rw[cM hx,if_pos rfl]
 refine⟨⟨Int.mul_pos a1 hp,by omega⟩,⟨b2,by omega⟩,⟨?_, ?_, ?_, ?_, ?_⟩⟩;·rw[List.length_set,ht.len]
 ·intro x hx' hall;rw[cM hx,if_neg (λe=>hall k (by omega) e.symm)];exact ht.out x hx' (λt ht'=>hall t (by omega))
 ·intro t ht';by_cases e:t=k;·subst e;rw[hself];exact⟨b2,by omega,b3⟩
  ·rw[hget t (by omega)];obtain⟨c1,c2,c3⟩:=ht.val t (by omega);refine⟨c1,c2, ?_⟩;rw[dC,<-Int.mul_assoc];exact Int.dvd_trans c3 ⟨_,rfl⟩
 ·intro t ht1 ht2;by_cases e:t=k;·subst e;rw[hself,h4,hget k' h3,<-h4];exact b1
  ·obtain⟨t',c1,c2,_⟩:=h.src t ht1 (by omega);rw[hget t (by omega),c2,hget t' (by omega),<-c2];exact ht.tree t ht1 (by omega)
 ·rw[List.range_succ,List.map_append,List.map_cons,List.map_nil,hself];rw[show(List.range k).map (λt=>(d.set (s.1.getD k 0) v).getD (s.1.getD t 0) 0)=(List.range k).map (λt=>d.getD (s.1.getD t 0) 0)from List.map_congr_left (λt ht'=>hget t (List.mem_range.1 ht'))];rw[ht.gcd];exact Dy _ _ v (by omega) rfl
def T2.g_range{m:Int×Int×List Int}{s:List Nat×List Nat}{d0 d:List Int}{g:Int}{k:Nat}(h1:1<=k)(ht:T2 m s d0 k d g):0<g/\g<=9227446944279201:=by
 obtain⟨a1,a2,_⟩:=ht.val 0 (by omega);have hd:g∣d.getD (s.1.getD 0 0) 0:=by rw[ht.gcd];exact tn (List.mem_map.2 ⟨0,List.mem_range.2 (by omega),rfl⟩)
 have:=Int.le_of_dvd a1 hd;have hp:=qE (k:=4+0) (by omega);refine⟨?_,by omega⟩;rcases Int.lt_or_le 0 g with h|h;·exact h
 ·have h0:0<=g:=by rw[ht.gcd];omega
  have e:g=0:=by omega
  rw[e]at hd;have:=Int.zero_dvd.1 hd;omega
structure T3(m:Int×Int×List Int)(s:List Nat×List Nat)(d2:List Int)(g:Int)(k:Nat)(d:List Int):Prop where
 len:d.length=m.1.toNat
 out:∀x,x<m.1.toNat->(∀k',k'<k->x≠s.1.getD k' 0)->d.getD x 0=d2.getD x 0
 val:∀k',k'<k->d.getD (s.1.getD k' 0) 0=Int.tdiv (d2.getD (s.1.getD k' 0) 0) g
def T3.step{m:Int×Int×List Int}{s:List Nat×List Nat}{d2 d:List Int}{g:Int}{k:Nat}(hnd:s.1.Nodup)(hlt:∀x∈s.1,x<m.1.toNat)(h2:k<s.1.length)(ht:T3 m s d2 g k d) :
  T3 m s d2 g (k+1) (d.set (s.1.getD k 0) (Int.tdiv (d2.getD (s.1.getD k 0) 0) g)):=by
 have hx:s.1.getD k 0<d.length:=by rw[ht.len];exact hlt _ (bO 0 h2)
 refine⟨by rw[List.length_set,ht.len], ?_, ?_⟩;·intro x hx' hall;rw[cM hx,if_neg (λe=>hall k (by omega) e.symm)];exact ht.out x hx' (λt ht'=>hall t (by omega))
 ·intro t ht';by_cases e:t=k;·subst e;rw[cM hx,if_pos rfl]
  ·rw[cM hx,if_neg (λe'=>e (ln hnd h2 (by omega) e').symm)];exact ht.val t (by omega)
def T3.cur{m:Int×Int×List Int}{s:List Nat×List Nat}{d2 d:List Int}{g:Int}{k:Nat}(hnd:s.1.Nodup)(hlt:∀x∈s.1,x<m.1.toNat)(h2:k<s.1.length)(ht:T3 m s d2 g k d) :
  d.getD (s.1.getD k 0) 0=d2.getD (s.1.getD k 0) 0 :=
 ht.out _ (hlt _ (bO 0 h2)) (λt ht' e=>by have:=ln hnd h2 (by omega) e;omega)
def jH(n:Nat)(A:Nat->Nat->Int)(d:Nat->Int):Prop:=∀j,j<n->0<=d j/\d j<=9227446944279201 /\
 (0<d j->∃L:List Nat,j∈L/\(∀k∈L,k<n/\0<d k)/\(∀k,k<n->A j k≠0->k∈L)/\cw (L.map d)=1/\∀e,cT n A e->∀k∈L,d j*e k=d k*e j)
def NI{m:Int×Int×List Int}{s:List Nat×List Nat}{d0 d:List Int}{g:Int}{i:Nat}(hs:bg m=true)(h:dD m.1.toNat (aj m) i s)(ht:T2 m s d0 s.1.length d g){e:Nat->Int}(he:cT m.1.toNat (aj m) e) :
  ∀k,k<s.1.length->d.getD i 0*e (s.1.getD k 0)=d.getD (s.1.getD k 0) 0*e i:=by
 intro k;induction k using Nat.strongRecOn with
 |_ k ih =>
  intro hk;by_cases h0:k=0;·subst h0;rw[h.hd]
  ·obtain⟨k',h3,h4,h5⟩:=h.src k (by omega) hk;have h6:=ih k' h3 (by omega);rw[<-h4]at h6;have hlk:=h.lt _ (bO 0 hk);have hfk:=qF h (show 1<=k by omega) hk;have h7:=Dx (he _ hfk).1 (he _ hlk).1 ((he _ hfk).2 _ hlk);have h8:=ht.tree k (by omega) hk;obtain⟨⟨hq,_⟩,hp,_⟩:=tx hs h (show 1<=k by omega) hk;rw[show bP (aj m (s.1.getD k 0) (s.2.getD k 0))=qK m s k by rw[qK,if_neg h0]]at h7;have h7':e (s.2.getD k 0)*pK m s k=e (s.1.getD k 0)*qK m s k:=h7;have h9:d.getD (s.2.getD k 0) 0*e (s.1.getD k 0)=d.getD (s.1.getD k 0) 0*e (s.2.getD k 0) :=
    ND (p:=pK m s k) (q:=-(qK m s k)) (by omega) (he _ hfk).1 (by rw[Int.mul_neg,Int.neg_neg];exact h8.symm) (by rw[Int.mul_neg,Int.neg_neg];exact h7') (by omega)
   have:=(he _ hfk).1;exact Ds (by omega) h6 h9
def NJ{m:Int×Int×List Int}{s:List Nat×List Nat}{d0 d2 d:List Int}{g:Int}{i:Nat}(hs:bg m=true)(hi:i<m.1.toNat)(h:dD m.1.toNat (aj m) i s)(hn:m.1.toNat<=5)
  (hcl:∀x∈s.1,∀j,j<m.1.toNat->aj m x j≠0->j∈s.1)
  (h0:jH m.1.toNat (aj m) (λx=>d0.getD x 0)) (hz:d0.getD i 0<=0) (h2:T2 m s d0 s.1.length d2 g) (h3:T3 m s d2 g s.1.length d) :
  jH m.1.toNat (aj m) (λx=>d.getD x 0)/\0<d.getD i 0/\∀x,x<m.1.toNat->0<d0.getD x 0->0<d.getD x 0:=by
 have hg:=h2.g_range h.pos;have hle:=h.le;have hnew:∀k,k<s.1.length->d0.getD (s.1.getD k 0) 0<=0:=by
  intro k;induction k using Nat.strongRecOn with
  |_ k ih =>
   intro hk;by_cases hk0:k=0;·subst hk0;rw[h.hd];exact hz
   ·obtain⟨k',a1,a2,a3⟩:=h.src k (by omega) hk;have b1:=ih k' a1 (by omega);rw[<-a2]at b1;rcases Int.lt_or_le 0 (d0.getD (s.1.getD k 0) 0)with hc|hc;·have hlk:=h.lt _ (bO 0 hk);have hfk:=qF h (show 1<=k by omega) hk;obtain⟨L,c1,c2,c3,_⟩:=(h0 _ hlk).2.2 hc;have b4:0<d0.getD (s.2.getD k 0) 0:=(c2 _ (c3 _ hfk (λe=>a3 ((tw hs hlk hfk).1 e)))).2;have b2:d0.getD (s.2.getD k 0) 0<=0:=b1;omega
    ·exact hc
 have hin:∀x∈s.1,d.getD x 0*g=d2.getD x 0/\0<d.getD x 0/\d.getD x 0<=9227446944279201:=by
  intro x hx;obtain⟨k,hk,rfl⟩:=mS hx;have a1:=h3.val k hk;obtain⟨b1,b2,_⟩:=h2.val k hk;have b3:g∣d2.getD (s.1.getD k 0) 0:=by rw[h2.gcd];exact tn (List.mem_map.2 ⟨k,List.mem_range.2 hk,rfl⟩)
  have b4:d.getD (s.1.getD k 0) 0*g=d2.getD (s.1.getD k 0) 0:=by rw[a1];exact Int.tdiv_mul_cancel b3
  have b5:=qE (k:=4+k) (by omega);have b6:0<d.getD (s.1.getD k 0) 0:=by
   rcases Int.lt_or_le 0 (d.getD (s.1.getD k 0) 0)with hc|hc;·exact hc
   ·have:=Int.mul_nonpos_of_nonpos_of_nonneg hc (Int.le_of_lt hg.1);omega
  refine⟨b4,b6, ?_⟩;have:=Int.mul_le_mul_of_nonneg_left (show(1:Int)<=g by omega) (Int.le_of_lt b6);omega
 have hout:∀x,x<m.1.toNat->x∉s.1->d.getD x 0=d0.getD x 0:=by intro x hx hni;have hne:∀k',k'<s.1.length->x≠s.1.getD k' 0:=λk' hk' e=>hni (by rw[e];exact bO 0 hk');rw[h3.out x hx hne,h2.out x hx hne]
 have himem:i∈s.1:=by rw[<-h.hd];exact bO 0 h.pos
 refine⟨?_,(hin i himem).2.1, ?_⟩
 ·intro j hj;by_cases hm:j∈s.1
  ·obtain⟨a1,a2,a3⟩:=hin j hm;refine⟨Int.le_of_lt a2,a3,λ_=>⟨s.1,hm,λk hk=>⟨h.lt k hk,(hin k hk).2.1⟩,λk hk ha=>hcl j hm k hk ha, ?_, ?_⟩⟩
   ·have e1:s.1.map (λx=>g*d.getD x 0)=s.1.map (λx=>d2.getD x 0):=List.map_congr_left (λx hx=>by rw[Int.mul_comm];exact(hin x hx).1);have e2:=tm g (s.1.map (λx=>d.getD x 0));rw[List.map_map]at e2;have e3:cw (s.1.map (λx=>d2.getD x 0))=g.natAbs*cw (s.1.map (λx=>d.getD x 0)):=by rw[<-e1];exact e2
    have e4:g=((cw (s.1.map (λx=>d2.getD x 0)):Nat):Int):=by rw[<-Dw s.1 (λx=>d2.getD x 0)];exact h2.gcd
    have e5:cw (s.1.map (λx=>d2.getD x 0))=g.natAbs:=by have:=congrArg Int.natAbs e4;simpa using this.symm
    rw[e5]at e3;exact Nat.eq_of_mul_eq_mul_left (show 0<g.natAbs by omega) (by rw[Nat.mul_one];exact e3.symm)
   ·intro e he k hk;have key:∀x∈s.1,d.getD i 0*e x=d.getD x 0*e i:=by
     intro x hx;obtain⟨kx,hkx,rfl⟩:=mS hx;have c1:=NI hs h h2 he kx hkx;rw[<-(hin i himem).1,<-(hin _ hx).1]at c1;have c2:g*(d.getD i 0*e (s.1.getD kx 0))=g*(d.getD (s.1.getD kx 0) 0*e i):=by rw[<-Int.mul_assoc,<-Int.mul_assoc,Int.mul_comm g,Int.mul_comm g];exact c1
     exact Int.eq_of_mul_eq_mul_left (by omega) c2
    have:=(he i hi).1;exact Ds (b:=d.getD i 0) (f:=e i) (by omega) (key j hm).symm (key k hk)
  ·have e:=hout j hj hm;obtain⟨a1,a2,a3⟩:=h0 j hj;show 0<=d.getD j 0/\d.getD j 0<=_/\(0<d.getD j 0->_);rw[e];refine⟨a1,a2,λhpos=>?_⟩;obtain⟨L,b1,b2,b3,b4,b5⟩:=a3 hpos;have hL:∀k∈L,d.getD k 0=d0.getD k 0:=λk hk=>hout k (b2 k hk).1 (λhc=>by obtain⟨kx,hkx,e'⟩:=mS hc;have:=hnew kx hkx;rw[e']at this;have b6:0<d0.getD k 0:=(b2 k hk).2;omega);refine⟨L,b1,λk hk=>⟨(b2 k hk).1,by show 0<d.getD k 0;rw[hL k hk];exact(b2 k hk).2⟩,b3, ?_, ?_⟩;·rw[show L.map (λx=>d.getD x 0)=L.map (λx=>d0.getD x 0)from List.map_congr_left hL];exact b4
   ·intro e' he' k hk;show d.getD j 0*e' k=d.getD k 0*e' j;rw[hL k hk,e];exact b5 e' he' k hk
 ·intro x hx hp;by_cases hm:x∈s.1;·exact(hin x hm).2.1
  ·rw[hout x hx hm];exact hp
def Dz{m:Int×Int×List Int}{d:List Int}(hl:d.length=m.1.toNat)(h:jH m.1.toNat (aj m) (λx=>d.getD x 0))(hp:∀x,x<m.1.toNat->0<d.getD x 0)
  (hc:∀i,i<m.1.toNat->∀j,j<m.1.toNat->d.getD i 0*aj m i j=-(d.getD j 0*aj m j i)):bq m=d:=by
 refine yw hl (λi hi=>⟨hp i hi,hc i hi⟩) (λi hi=>?_);obtain⟨L,a1,a2,a3,a4,a5⟩:=(h i hi).2.2 (hp i hi);exact⟨L,λk hk=>(a2 k hk).1,a4,a5⟩
def NK{m:Int×Int×List Int}{d:List Int}(hs:bg m=true)(h:jH m.1.toNat (aj m) (λx=>d.getD x 0))(hp:∀x,x<m.1.toNat->0<d.getD x 0){e:Nat->Int}(he:cT m.1.toNat (aj m) e)
  {i j:Nat} (hi:i<m.1.toNat) (hj:j<m.1.toNat):d.getD i 0*aj m i j=-(d.getD j 0*aj m j i):=by
 by_cases ha:aj m i j=0;·rw[ha,(tw hs hi hj).1 ha];simp
 ·obtain⟨L,a1,a2,a3,a4,a5⟩:=(h i hi).2.2 (hp i hi);exact Dr (he i hi).1 (he j hj).1 (a5 e he j (a3 j hj ha)) ((he i hi).2 j hj)
def NL{m:Int×Int×List Int}{d:List Int}(hs:bg m=true)(h:jH m.1.toNat (aj m) (λx=>d.getD x 0))(hp:∀x,x<m.1.toNat->0<d.getD x 0)
  {i j:Nat} (hi:i<m.1.toNat) (hj:j<m.1.toNat) (hc:d.getD i 0*aj m i j≠-(d.getD j 0*aj m j i)):bq m=[]:=by
 refine Dt (λ⟨e,he⟩=>hc ?_);by_cases ha:aj m i j=0;·rw[ha,(tw hs hi hj).1 ha];simp
 ·obtain⟨L,a1,a2,a3,a4,a5⟩:=(h i hi).2.2 (hp i hi);exact Dr (he i hi).1 (he j hj).1 (a5 e he j (a3 j hj ha)) ((he i hi).2 j hj)
def ki(f:Bool)(a b c:Int):Int:=if f=true then -a else if 0<b/\0<c then a+b*c else if b<0/\c<0 then a-b*c else a
def jI(m:Int×Int×List Int)(k p:Nat):Int:=ki (decide (p / m.1.toNat=k)||decide (p%m.1.toNat=k)) (m.2.2.getD p 0) (aj m (p / m.1.toNat) k) (aj m k (p%m.1.toNat))
def aU(m:Int×Int×List Int)(k:Nat):Int×Int×List Int:=(m.1,m.2.1,(List.range m.2.2.length).map (jI m k))
def tz{i j n:Nat}(h:j<n):(i*n+j) / n=i:=by rw[Nat.add_comm,Nat.add_mul_div_right _ _ (by omega),Nat.div_eq_of_lt h,Nat.zero_add]
def DA{i j n:Nat}(h:j<n):(i*n+j)%n=j:=by rw[Nat.add_comm,Nat.add_mul_mod_self_right,Nat.mod_eq_of_lt h]
def yz{m:Int×Int×List Int}{k i j:Nat}(hj:j<m.1.toNat):jI m k (i*m.1.toNat+j)=ki (decide (i=k)||decide (j=k)) (aj m i j) (aj m i k) (aj m k j):=by unfold jI;rw[tz hj,DA hj];rfl
def lq{m:Int×Int×List Int}(hd:aO m=true){k i j:Nat}(hi:i<m.2.1.toNat)(hj:j<m.1.toNat):aj (aU m k) i j=ki (decide (i=k)||decide (j=k)) (aj m i j) (aj m i k) (aj m k j):=by obtain⟨n,r,hn,hr,hn1,hn5,hnr,hr8,hl⟩:=bf hd;rw[<-yz hj];show((List.range m.2.2.length).map (jI m k)).getD (i*m.1.toNat+j) 0=_;refine Dd ?_ 0;have:=hY (n:=n) (r:=r) (i:=i) (j:=j) (by omega) (by omega);rw[hl,hn];exact this
def mT{m:Int×Int×List Int}(hd:aO m=true)(k:Nat):aO (aU m k)=true:=by simp only[aO,aU,Bool.and_eq_true,decide_eq_true_eq,List.length_map,List.length_range]at hd ⊢;exact hd
def DB{f:Bool}{a b c:Int}(ha:-99<=a/\a<=99)(hb:-99<=b/\b<=99)(hc:-99<=c/\c<=99):-9801<=b*c/\b*c<=9801:=by
 have h1:(b*c).natAbs<=99*99:=by rw[Int.natAbs_mul];exact Nat.mul_le_mul (by omega) (by omega)
 omega
def qH{m:Int×Int×List Int}(hd:aO m=true){k:Nat}(hk:k<m.1.toNat){d:Nat->Int}(h:cT m.1.toNat (aj m) d):cT (aU m k).1.toNat (aj (aU m k)) d:=by
 obtain⟨n,r,hn,hr,hn1,hn5,hnr,hr8,hl⟩:=bf hd;show cT m.1.toNat _ d;intro i hi;refine⟨(h i hi).1,λj hj=>?_⟩;rw[lq hd (by omega) hj,lq hd (by omega) hi];have e1:=(h i hi).2 j hj;have e2:=(h i hi).2 k hk;have e3:=(h k hk).2 j hj;have p1:=(h i hi).1;have p2:=(h j hj).1;have p3:=(h k hk).1;have s1:=ow h hi hk;have s2:=ow h hk hj;simp only[fS,Bool.and_eq_true,beq_iff_eq,decide_eq_decide]at s1 s2;generalize aj m i j=a at *
 generalize aj m j i=a' at *
 generalize aj m i k=b at *
 generalize aj m k j=c at *
 generalize aj m j k=b' at *
 generalize aj m k i=c' at *
 rw[Bool.or_comm (decide (j=k))];cases(decide (i=k)||decide (j=k))
 ·unfold ki;simp only[Bool.false_eq_true,if_false];by_cases h1:0<b/\0<c;·rw[if_pos h1,if_neg (by omega),if_pos (by omega)];grind
  ·rw[if_neg h1];by_cases h2:b<0/\c<0;·rw[if_pos h2,if_pos (by omega)];grind
   ·rw[if_neg h2,if_neg (by omega),if_neg (by omega)];exact e1
 ·unfold ki;simp only[if_true];grind
def DD{α:Type}{n p:Nat}{F G:Nat->α}(h:F p=G p):fR n (p+1) F G=fR n p F G:=by
 unfold fR;apply List.map_congr_left;intro i hi;by_cases h1:i<p;·rw[if_pos h1,if_pos (by omega)]
 ·rw[if_neg h1];by_cases h2:i=p;·subst h2;rw[if_pos (by omega)];exact h
  ·rw[if_neg (by omega)]
end Go.Fw
set_option linter.unusedSectionVars false
namespace Go.Fw
def oy(l:List Int)(n:Int)(i:Nat):Bool:=bz (l.getD i 0) 0 (n-1)&&!((l.take i).any λx=>decide (x=l.getD i 0))
def dF(l:List Int)(n:Int):Bool:=decide ((l.length:Int)=n)&&(List.range l.length).all (oy l n)
def kj{l:List Int}{n:Int}(h:dF l n=true):∃L:List Nat,l=aF L/\L.Nodup/\(∀x∈L,x<n.toNat)/\L.length=n.toNat:=by
 simp only[dF,Bool.and_eq_true,decide_eq_true_eq,List.all_eq_true,List.mem_range,oy,cC]at h;obtain⟨h1,h2⟩:=h;have e:l=aF (l.map Int.toNat):=by
  apply List.ext_getElem?;intro i;by_cases hi:i<l.length;·have:=(h2 i hi).1;rw[List.getD_eq_getElem?_getD,List.getElem?_eq_getElem hi,Option.getD_some]at this;simp only[aF,List.map_map,List.getElem?_map,List.getElem?_eq_getElem hi,Option.map_some,Function.comp];congr 1;omega
  ·rw[List.getElem?_eq_none (by omega),List.getElem?_eq_none (by rw[cG];simp;omega)]
 refine⟨l.map Int.toNat,e, ?_, ?_,by simp;omega⟩
 ·refine List.pairwise_iff_getElem.2 (λi j hi hj hij=>?_);have hi':i<l.length:=by simpa using hi
  have hj':j<l.length:=by simpa using hj
  have h3:=h2 j hj';have h4:=h2 i hi';rw[List.getD_eq_getElem?_getD,List.getElem?_eq_getElem hj',Option.getD_some]at h3;rw[List.getD_eq_getElem?_getD,List.getElem?_eq_getElem hi',Option.getD_some]at h4;simp only[List.getElem_map];intro hc;have hne:l[i]=l[j]:=by omega
  have h5:=h3.2;rw[Bool.not_eq_true',List.any_eq_false]at h5;have:=h5 l[i] (by rw[List.mem_iff_getElem];exact⟨i,by rw[List.length_take];omega,by rw[List.getElem_take]⟩);simp[hne]at this
 ·intro x hx;obtain⟨y,hy,rfl⟩:=List.mem_map.1 hx;obtain⟨i,hi,rfl⟩:=List.getElem_of_mem hy;have:=(h2 i hi).1;rw[List.getD_eq_getElem?_getD,List.getElem?_eq_getElem hi,Option.getD_some]at this;omega
def cY:List Nat->Nat->Nat
 |[],_=>0
 |x::xs,b=>if x=b then 0 else cY xs b+1
def eU:∀{L:List Nat}{b:Nat},b∈L->cY L b<L.length/\L.getD (cY L b) 0=b
 |[],b,h=>by cases h
 |x::xs,b,h=>by
  rw[cY];by_cases e:x=b;·rw[if_pos e];exact⟨by simp,by simpa using e⟩
  ·rw[if_neg e];rcases List.mem_cons.1 h with h|h;·exact absurd h.symm e
   ·obtain⟨h1,h2⟩:=eU h;exact⟨by simp;omega,by simpa[List.getD_cons_succ]using h2⟩
def fK{L:List Nat}{n:Nat}(h1:L.Nodup)(h2:∀x∈L,x<n)(h3:L.length=n){b:Nat}(hb:b<n):b∈L:=by
 refine Classical.byContradiction λhc=>?_;have:=tu n (b::L) (List.nodup_cons.2 ⟨hc,h1⟩) (λx hx=>by
  rcases List.mem_cons.1 hx with e|e;·omega
  ·exact h2 x e)
 simp at this;omega
def jJ{L:List Nat}(h:L.Nodup){j:Nat}(hj:j<L.length):cY L (L.getD j 0)=j:=by obtain⟨h1,h2⟩:=eU (bO (l:=L) 0 hj);exact ln h h1 hj h2
def cD(n:Nat)(L:List Nat)(i:Nat):Nat:=if i<n then L.getD i 0 else i
def eD(n:Nat)(L:List Nat)(p:Nat):Nat:=if p<n then cY L p else p
def eV(n:Nat)(L:List Nat)(p:Nat):Nat:=eD n L (p / n)*n+cY L (p%n)
def b9(m:Int×Int×List Int)(names:List Int):Int×Int×List Int:=(m.1,m.2.1,(List.range m.2.2.length).map λp=>m.2.2.getD (eV m.1.toNat (names.map Int.toNat) p) 0)
def iD(L:List Nat):(aF L).map Int.toNat=L:=by
 simp only[aF,List.map_map];conv=>rhs;rw[<-List.map_id L]
 apply List.map_congr_left;intro x _;simp
def iE(total t:Nat)(back:Nat->Nat)(F G:Nat->Int):List Int:=(List.range total).map λp=>if back p<t then F p else G p
def qI{total t:Nat}{back:Nat->Nat}{F G:Nat->Int}:(iE total t back F G).length=total:=by simp[iE]
def DE{total t p:Nat}{back:Nat->Nat}{F G:Nat->Int}(hp:p<total)(hb:back p=t)(hinj:∀q,q<total->back q=t->q=p):(iE total t back F G).set p (F p)=iE total (t+1) back F G:=by
 apply List.ext_getElem?;intro q;by_cases hq:q<total
 ·by_cases e:p=q;·subst e;rw[List.getElem?_set_self (by rw[qI];exact hp)];simp only[iE,List.getElem?_map,List.getElem?_range hp,Option.map_some];rw[if_pos (by omega)]
  ·rw[List.getElem?_set_ne e];simp only[iE,List.getElem?_map,List.getElem?_range hq,Option.map_some];have hne:back q≠t:=λh=>e (hinj q hq h).symm;by_cases h1:back q<t;·rw[if_pos h1,if_pos (by omega)]
   ·rw[if_neg h1,if_neg (by omega)]
 ·rw[List.getElem?_eq_none (by rw[List.length_set,qI];omega),List.getElem?_eq_none (by rw[qI];omega)]
def DF{total:Nat}{back:Nat->Nat}{F G:Nat->Int}:iE total 0 back F G=(List.range total).map G:=by simp[iE]
def DG{total:Nat}{back:Nat->Nat}{F G:Nat->Int}(h:∀p,p<total->back p<total):iE total total back F G=(List.range total).map F:=by unfold iE;apply List.map_congr_left;intro i hi;rw[if_pos (h i (List.mem_range.1 hi))]
section
variable {n r : Nat} {L : List Nat} (h1 : L.Nodup) (h2 : ∀ x ∈ L, x < n) (h3 : L.length = n) (hnr : n ≤ r)
include h1 h2 h3
theorem DH{i:Nat}:eD n L (cD n L i)=i:=by
 unfold cD eD;by_cases h:i<n;·have:=h2 _ (bO (l:=L) (j:=i) 0 (by omega));rw[if_pos h,if_pos this,jJ h1 (by omega)]
 ·rw[if_neg h,if_neg h]
theorem DI{p:Nat}:cD n L (eD n L p)=p:=by
 unfold cD eD;by_cases h:p<n;·obtain⟨a,b⟩:=eU (fK h1 h2 h3 h);rw[if_pos h,if_pos (by omega),b]
 ·rw[if_neg h,if_neg h]
include hnr
theorem yA{i:Nat}(h:i<r):cD n L i<r:=by
 unfold cD;split;·rename_i h';have:=h2 _ (bO (l:=L) (j:=i) 0 (by omega));omega
 ·exact h
theorem yB{p:Nat}(h:p<r):eD n L p<r:=by
 unfold eD;split;·rename_i h';have:=(eU (fK h1 h2 h3 h')).1;omega
 ·exact h
theorem tA{i j:Nat}(hj:j<n):eV n L (cD n L i*n+L.getD j 0)=i*n+j:=by have:=h2 _ (bO (l:=L) (j:=j) 0 (by omega));unfold eV;rw[Nat.add_comm (cD n L i*n),Nat.add_mul_div_right _ _ (by omega),Nat.div_eq_of_lt this,Nat.zero_add,Nat.add_mul_mod_self_right,Nat.mod_eq_of_lt this,DH h1 h2 h3,jJ h1 (by omega)]
theorem DJ{i j q:Nat}(hj:j<n)(h:eV n L q=i*n+j):q=cD n L i*n+L.getD j 0:=by
 have hn:0<n:=by omega
 obtain⟨a,b⟩:=eU (fK h1 h2 h3 (Nat.mod_lt q hn));unfold eV at h;have e1:eD n L (q / n)=i:=by
  have:(eD n L (q / n)*n+cY L (q%n)) / n=(i*n+j) / n:=by rw[h]
  rw[Nat.add_comm,Nat.add_mul_div_right _ _ hn,Nat.div_eq_of_lt (by omega),Nat.zero_add,Nat.add_comm (i*n),Nat.add_mul_div_right _ _ hn,Nat.div_eq_of_lt hj,Nat.zero_add]at this;exact this
 have e2:cY L (q%n)=j:=by rw[e1]at h;omega
 have e3:cD n L i=q / n:=by rw[<-e1,DI h1 h2 h3]
 rw[e3,<-e2,b,Nat.mul_comm];exact(Nat.div_add_mod q n).symm
theorem DK{q:Nat}(hn:0<n)(h:q<r*n):eV n L q<r*n:=by obtain⟨a,b⟩:=eU (fK h1 h2 h3 (Nat.mod_lt q hn));have h4:q / n<r:=(Nat.div_lt_iff_lt_mul hn).2 h;exact hY (yB h1 h2 h3 hnr h4) (by omega)
end
def fT(A:Nat->Nat->Int)(L:List Nat)(num den:List Int)(x k:Nat):Prop:=(A x k=0/\A k x=0)\/(k∈L/\num.getD x 0*A x k*den.getD k 0=-(num.getD k 0*A k x*den.getD x 0))
structure fv(n:Nat)(A:Nat->Nat->Int)(s:Nat)(num0:List Int)(L:List Nat)(num den:List Int):Prop where
 nl:num.length=n
 dl:den.length=n
 nd:L.Nodup
 lt:∀x∈L,x<n
 hd:L.getD 0 0=s
 pos:0<L.length
 out:∀x,x<n->x∉L->num.getD x 0=num0.getD x 0
 new:∀x∈L,num0.getD x 0=0
 frac:∃Q:Int,0<Q/\Q<=99 ^ (L.length-1)/\∀x∈L,0<num.getD x 0/\num.getD x 0<=99 ^ (L.length-1)/\0<den.getD x 0/\den.getD x 0∣Q/\Int.gcd (num.getD x 0) (den.getD x 0)=1
 good:∀e,cT n A e->∀x∈L,num.getD x 0*e s=den.getD x 0*e x
def fv.le{n:Nat}{A:Nat->Nat->Int}{s:Nat}{num0 num den:List Int}{L:List Nat}(h:fv n A s num0 L num den):L.length<=n:=tu n L h.nd h.lt
def tB(n:Nat)(A:Nat->Nat->Int)(num0:List Int):Prop:=∀y,y<n->num0.getD y 0≠0->∀k,k<n->(A y k≠0\/A k y≠0)->num0.getD k 0≠0
def NM{a b c d:Int}(ha:0<a)(hb:0<b)(hc:0<c)(hd:0<d)(h1:Int.gcd a b=1)(h2:Int.gcd c d=1)(h:a*d=c*b):a=c/\b=d:=by
 obtain⟨a,rfl⟩:=Int.eq_ofNat_of_zero_le (Int.le_of_lt ha);obtain⟨b,rfl⟩:=Int.eq_ofNat_of_zero_le (Int.le_of_lt hb);obtain⟨c,rfl⟩:=Int.eq_ofNat_of_zero_le (Int.le_of_lt hc);obtain⟨d,rfl⟩:=Int.eq_ofNat_of_zero_le (Int.le_of_lt hd);have h3:a*d=c*b:=by exact_mod_cast h
 have e1:a∣c:=Nat.Coprime.dvd_of_dvd_mul_right (k:=a) (n:=b) h1 ⟨d,h3.symm⟩;have e2:c∣a:=Nat.Coprime.dvd_of_dvd_mul_right (k:=c) (n:=d) h2 ⟨b,h3⟩;have e3:=Nat.dvd_antisymm e1 e2;subst e3;exact⟨rfl,by rw[Nat.eq_of_mul_eq_mul_left (by omega) h3]⟩
section
variable {n : Nat} {A : Nat → Nat → Int} {s p j : Nat} {num0 num den : List Int} {L : List Nat}
structure tC(A:Nat->Nat->Int)(x j:Nat)(num den:List Int)(a0 b0 g a b:Int):Prop where
 ea0:a0=num.getD x 0*bP (A x j)
 eb0:b0=den.getD x 0*bP (A j x)
 eg:g=(Int.gcd a0 b0:Int)
 gp:0<g
 a0p:0<a0
 b0p:0<b0
 ea:a*g=a0
 eb:b*g=b0
 ap:0<a
 bp:0<b
 co:Int.gcd a b=1
def stepN(x j:Nat)(hx:0<num.getD x 0)(hd:0<den.getD x 0)(h1:A x j≠0)(h2:A j x≠0) :
  tC A x j num den (num.getD x 0*bP (A x j)) (den.getD x 0*bP (A j x)) (Int.gcd (num.getD x 0*bP (A x j)) (den.getD x 0*bP (A j x)))
   (Int.tdiv (num.getD x 0*bP (A x j)) (Int.gcd (num.getD x 0*bP (A x j)) (den.getD x 0*bP (A j x)))) (Int.tdiv (den.getD x 0*bP (A j x)) (Int.gcd (num.getD x 0*bP (A x j)) (den.getD x 0*bP (A j x)))):=by
 have a0p:0<num.getD x 0*bP (A x j):=Int.mul_pos hx (ox h1);have b0p:0<den.getD x 0*bP (A j x):=Int.mul_pos hd (ox h2);generalize ha0:num.getD x 0*bP (A x j)=a0 at a0p ⊢;generalize hb0:den.getD x 0*bP (A j x)=b0 at b0p ⊢;have gp:0<(Int.gcd a0 b0:Int):=by have:=Int.gcd_pos_of_ne_zero_left b0 (show a0≠0 by omega);omega
 have ea:Int.tdiv a0 (Int.gcd a0 b0)*(Int.gcd a0 b0:Int)=a0:=Int.tdiv_mul_cancel (Int.gcd_dvd_left ..);have eb:Int.tdiv b0 (Int.gcd a0 b0)*(Int.gcd a0 b0:Int)=b0:=Int.tdiv_mul_cancel (Int.gcd_dvd_right ..);have pos:∀c d:Int,0<d->0<c*d->0<c:=λc d hd h=>by
  rcases Int.lt_or_le 0 c with h'|h';·exact h'
  ·have:=Int.mul_nonpos_of_nonpos_of_nonneg h' (Int.le_of_lt hd);omega
 refine⟨ha0.symm,hb0.symm,rfl,gp,a0p,b0p,ea,eb,pos _ _ gp (by rw[ea];exact a0p),pos _ _ gp (by rw[eb];exact b0p), ?_⟩;have h3:Int.gcd (Int.tdiv a0 (Int.gcd a0 b0)*(Int.gcd a0 b0:Int)) (Int.tdiv b0 (Int.gcd a0 b0)*(Int.gcd a0 b0:Int))=Int.gcd a0 b0:=by rw[ea,eb]
 rw[Int.gcd_mul_right,Int.natAbs_natCast]at h3;have gp':0<Int.gcd a0 b0:=by omega
 exact Nat.eq_of_mul_eq_mul_right gp' (by rw[h3,Nat.one_mul])
def yC(A:Nat->Nat->Int)(x j:Nat):Prop:=∃u:Int,(u=1\/u=-1)/\A x j=u*bP (A x j)/\A j x=-(u*bP (A j x))
def NN{x j:Nat}(h1:A x j≠0)(h2:A j x≠0)(h:(0<A x j)↔(0 < -A j x)):yC A x j:=by
 unfold yC bP;by_cases hp:0<A x j;·have:=h.1 hp;exact⟨1,Or.inl rfl,by omega,by omega⟩
 ·have:¬ 0 < -A j x:=λhc=>hp (h.2 hc);exact⟨-1,Or.inr rfl,by omega,by omega⟩
def DL{x:Nat}{a0 b0 g a b:Int}(st:tC A x j num den a0 b0 g a b)(hx:x<n)(hj:j<n){e:Nat->Int}(he:cT n A e)(hg:num.getD x 0*e s=den.getD x 0*e x):a*e s=b*e j:=by
 have h1:=Dx (he x hx).1 (he j hj).1 ((he x hx).2 j hj);have h2:=st.ea0;have h3:=st.eb0;have h4:=st.ea;have h5:=st.eb;have h6:g*(a*e s)=g*(b*e j):=by grind
 exact Int.eq_of_mul_eq_mul_left (by have:=st.gp;omega) h6
def DM{x:Nat}{a0 b0 g a b:Int}(st:tC A x j num den a0 b0 g a b)(sk:yC A x j):num.getD x 0*A x j*b=-(a*A j x*den.getD x 0):=by obtain⟨u,hu,h1,h2⟩:=sk;have h3:=st.ea0;have h4:=st.eb0;have h5:=st.ea;have h6:=st.eb;rw[h1,h2];grind
def fv.grow{a0 b0 g a b:Int}(h:fv n A s num0 L num den)(hp:p<L.length)(hj:j<n)(hz:num.getD j 0=0)(st:tC A (L.getD p 0) j num den a0 b0 g a b)(hb:∀x y,bP (A x y)<=99) :
  fv n A s num0 (L++[j]) (num.set j a) (den.set j b)/\j∉L:=by
 obtain⟨Q,q1,q2,q3⟩:=h.frac;have hxm:L.getD p 0∈L:=bO 0 hp;have hnj:j∉L:=λhc=>by have:=(q3 j hc).1;omega
 have hxj:∀x∈L,j≠x:=λx hx e=>hnj (e▸hx);have hnl:j<num.length:=by rw[h.nl];exact hj
 have hdl:j<den.length:=by rw[h.dl];exact hj
 have e1:∀x∈L,(num.set j a).getD x 0=num.getD x 0:=λx hx=>by rw[cM hnl,if_neg (hxj x hx)]
 have e2:∀x∈L,(den.set j b).getD x 0=den.getD x 0:=λx hx=>by rw[cM hdl,if_neg (hxj x hx)]
 have e3:(num.set j a).getD j 0=a:=by rw[cM hnl,if_pos rfl]
 have e4:(den.set j b).getD j 0=b:=by rw[cM hdl,if_pos rfl]
 have hlen:(L++[j]).length-1=L.length-1+1:=by have:=h.pos;simp;omega
 have hpp:(0:Int)<=99 ^ (L.length-1):=Int.pow_nonneg (by omega);refine⟨⟨by rw[List.length_set,h.nl],by rw[List.length_set,h.dl], ?_, ?_,(jl h.pos).trans h.hd,by simp, ?_, ?_, ?_, ?_⟩,hnj⟩;·exact List.nodup_append.2 ⟨h.nd,by simp,λa ha' b hb e=>by rw[List.mem_singleton]at hb;subst hb;subst e;exact hnj ha'⟩
 ·intro x hx;rcases List.mem_append.1 hx with hx|hx;·exact h.lt x hx
  ·rw[List.mem_singleton]at hx;omega
 ·intro x hx hni;rw[List.mem_append,List.mem_singleton]at hni;rw[cM hnl,if_neg (λe=>hni (Or.inr e.symm))];exact h.out x hx (λhc=>hni (Or.inl hc))
 ·intro x hx;rcases List.mem_append.1 hx with hx|hx;·exact h.new x hx
  ·rw[List.mem_singleton]at hx;subst hx;rw[<-h.out x hj hnj];exact hz
 ·obtain⟨c1,c2,c3,c4,c5⟩:=q3 _ hxm;have ga:a<=a0:=by have:=Int.mul_le_mul_of_nonneg_left (show(1:Int)<=g by have:=st.gp;omega) (Int.le_of_lt st.ap);have:=st.ea;omega
  have hq1:0<bP (A j (L.getD p 0)):=by
   have h1:=st.b0p;rw[st.eb0]at h1;rcases Int.lt_or_le 0 (bP (A j (L.getD p 0)))with h'|h';·exact h'
   ·have:=Int.mul_nonpos_of_nonneg_of_nonpos (Int.le_of_lt c3) h';omega
  have hp1:0<=bP (A (L.getD p 0) j):=by unfold bP;omega
  refine⟨Q*bP (A j (L.getD p 0)),Int.mul_pos q1 hq1, ?_, ?_⟩;·rw[hlen,Int.pow_succ];exact Int.mul_le_mul q2 (hb _ _) (by omega) hpp
  ·intro x hx;rcases List.mem_append.1 hx with hx|hx;·rw[e1 x hx,e2 x hx];obtain⟨d1,d2,d3,d4,d5⟩:=q3 x hx;refine⟨d1, ?_,d3,Int.dvd_trans d4 ⟨_,rfl⟩,d5⟩;rw[hlen,Int.pow_succ];have:=Int.mul_le_mul_of_nonneg_left (show(1:Int)<=99 by omega) hpp;omega
   ·rw[List.mem_singleton]at hx;subst hx;rw[e3,e4];refine⟨st.ap, ?_,st.bp, ?_,st.co⟩
    ·rw[hlen,Int.pow_succ];have:a0<=99 ^ (L.length-1)*99:=by rw[st.ea0];exact Int.mul_le_mul c2 (hb _ _) hp1 hpp
     omega
    ·have h1:b∣b0:=⟨g,st.eb.symm⟩;have h2:b0∣Q*bP (A x (L.getD p 0)):=by rw[st.eb0];exact Int.mul_dvd_mul c4 (Int.dvd_refl _)
     exact Int.dvd_trans h1 h2
 ·intro e he x hx;rcases List.mem_append.1 hx with hx|hx;·rw[e1 x hx,e2 x hx];exact h.good e he x hx
  ·rw[List.mem_singleton]at hx;subst hx;rw[e3,e4];exact DL st (h.lt _ hxm) hj he (h.good e he _ hxm)
def fT.grow{x k:Nat}{a b:Int}(hL:∀x∈L,j≠x)(hnl:j<num.length)(hdl:j<den.length)(hx:x∈L)(h:fT A L num den x k):fT A (L++[j]) (num.set j a) (den.set j b) x k:=by
 rcases h with h|⟨h1,h2⟩;·exact Or.inl h
 ·refine Or.inr ⟨List.mem_append_left _ h1, ?_⟩;rw[cM hnl,if_neg (hL x hx),cM hdl,if_neg (hL k h1),cM hnl,if_neg (hL k h1),cM hdl,if_neg (hL x hx)];exact h2
end
structure oz(n:Nat)(A:Nat->Nat->Int)(num out:List Int):Prop where
 nl:num.length=n
 ol:out.length=n
 closed:tB n A num
 done:∀j,j<n->num.getD j 0≠0->0<out.getD j 0/\(∀k,k<n->out.getD j 0*A j k=-(out.getD k 0*A k j)) /\
  ∃L:List Nat,(∀k∈L,k<n/\num.getD k 0≠0)/\cw (L.map λk=>out.getD k 0)=1/\∀e,cT n A e->∀k∈L,out.getD j 0*e k=out.getD k 0*e j
section
variable {n : Nat} {A : Nat → Nat → Int} {s : Nat} {num0 num den out0 out2 out3 : List Int} {L : List Nat} {com g : Int}
def oz.piece(h:oz n A num0 out0)(f:fv n A s num0 L num den)(he:∀x∈L,∀k,k<n->fT A L num den x k)(hc:0<com)(hg:0<g)
  (h2:∀x∈L,out2.getD x 0*den.getD x 0=com*num.getD x 0) (hgl:g=((cw (L.map λx=>out2.getD x 0):Nat):Int))
  (h3:∀x∈L,out3.getD x 0*g=out2.getD x 0) (ho:∀x,x<n->x∉L->out3.getD x 0=out0.getD x 0) (hl:out3.length=n) :
  oz n A num out3/\num.getD s 0≠0/\∀x,x<n->num0.getD x 0≠0->num.getD x 0≠0:=by
 obtain⟨Q,q1,q2,q3⟩:=f.frac;have hpos:∀x∈L,0<num.getD x 0/\0<den.getD x 0:=λx hx=>⟨(q3 x hx).1,(q3 x hx).2.2.1⟩;have hk:∀x∈L,out3.getD x 0*g*den.getD x 0=com*num.getD x 0:=λx hx=>by rw[h3 x hx];exact h2 x hx
 have hop:∀x∈L,0<out3.getD x 0:=λx hx=>by
  have h4:=Int.mul_pos hc (hpos x hx).1;rw[<-hk x hx]at h4;rcases Int.lt_or_le 0 (out3.getD x 0)with h'|h';·exact h'
  ·have h5:=Int.mul_nonpos_of_nonpos_of_nonneg h' (Int.le_of_lt hg);have h6:=Int.mul_nonpos_of_nonpos_of_nonneg h5 (Int.le_of_lt (hpos x hx).2);omega
 have hns:num.getD s 0≠0:=by have:=(hpos s (by rw[<-f.hd];exact bO 0 f.pos)).1;omega
 have old:∀x,x<n->num0.getD x 0≠0->x∉L:=λx hx h0 hc=>h0 (f.new x hc);refine⟨⟨f.nl,hl, ?_, ?_⟩,hns,λx hx h0=>by rw[f.out x hx (old x hx h0)];exact h0⟩
 ·intro y hy h1 k hk' ha;by_cases hm:y∈L
  ·rcases he y hm k hk' with hz|hz;·omega
   ·have:=(hpos k hz.1).1;omega
  ·rw[f.out y hy hm]at h1;have h4:=h.closed y hy h1 k hk' ha;rw[f.out k hk' (old k hk' h4)];exact h4
 ·intro j hj h1;by_cases hm:j∈L
  ·refine⟨hop j hm, ?_,L,λk hk'=>⟨f.lt k hk',by have:=(hpos k hk').1;omega⟩, ?_, ?_⟩
   ·intro k hk';rcases he j hm k hk' with⟨z1,z2⟩|⟨z1,z2⟩;·rw[z1,z2];simp
    ·have e1:=hk j hm;have e2:=hk k z1;have e3:(g*den.getD j 0*den.getD k 0)*(out3.getD j 0*A j k)=(g*den.getD j 0*den.getD k 0)*(-(out3.getD k 0*A k j)):=by grind
     have e4:=Int.mul_pos (Int.mul_pos hg (hpos j hm).2) (hpos k z1).2;exact Int.eq_of_mul_eq_mul_left (by omega) e3
   ·have e1:L.map (λx=>g*out3.getD x 0)=L.map (λx=>out2.getD x 0):=List.map_congr_left (λx hx=>by rw[Int.mul_comm];exact h3 x hx);have e2:=tm g (L.map (λx=>out3.getD x 0));rw[List.map_map]at e2;have e3:cw (L.map (λx=>out2.getD x 0))=g.natAbs*cw (L.map (λx=>out3.getD x 0)):=by rw[<-e1];exact e2
    have e5:cw (L.map (λx=>out2.getD x 0))=g.natAbs:=by have:=congrArg Int.natAbs hgl;simpa using this.symm
    rw[e5]at e3;exact Nat.eq_of_mul_eq_mul_left (show 0<g.natAbs by omega) (by rw[Nat.mul_one];exact e3.symm)
   ·intro e hge k hkL;have key:∀x∈L,out3.getD x 0*g*e s=com*e x:=by
     intro x hx;have e1:=hk x hx;have e2:=f.good e hge x hx;have e3:den.getD x 0*(out3.getD x 0*g*e s)=den.getD x 0*(com*e x):=by grind
     exact Int.eq_of_mul_eq_mul_left (by have:=(hpos x hx).2;omega) e3
    have e1:=key j hm;have e2:=key k hkL;have hs:0<e s:=(hge s (by rw[<-f.hd];exact f.lt _ (bO 0 f.pos))).1;have e3:(g*e s)*(out3.getD j 0*e k)=(g*e s)*(out3.getD k 0*e j):=by grind
    have e4:=Int.mul_pos hg hs;exact Int.eq_of_mul_eq_mul_left (by omega) e3
  ·rw[f.out j hj hm]at h1;obtain⟨a1,a2,L',a3,a4,a5⟩:=h.done j hj h1;rw[ho j hj hm];have hL':∀k∈L',k∉L:=λk hk'=>old k (a3 k hk').1 (a3 k hk').2;refine⟨a1, ?_,L',λk hk'=>⟨(a3 k hk').1,by rw[f.out k (a3 k hk').1 (hL' k hk')];exact(a3 k hk').2⟩, ?_, ?_⟩
   ·intro k hk';by_cases hkL:k∈L
    ·by_cases z1:A j k=0
     ·by_cases z2:A k j=0;·rw[z1,z2];simp
      ·exact absurd (f.new k hkL) (h.closed j hj h1 k hk' (Or.inr z2))
     ·exact absurd (f.new k hkL) (h.closed j hj h1 k hk' (Or.inl z1))
    ·rw[ho k hk' hkL];exact a2 k hk'
   ·rw[show L'.map (λk=>out3.getD k 0)=L'.map (λk=>out0.getD k 0)from List.map_congr_left (λk hk'=>ho k (a3 k hk').1 (hL' k hk'))];exact a4
   ·intro e hge k hk';rw[ho k (a3 k hk').1 (hL' k hk')];exact a5 e hge k hk'
end
def oz.fac{m:Int×Int×List Int}{num out:List Int}(h:oz m.1.toNat (aj m) num out)(hp:∀x,x<m.1.toNat->num.getD x 0≠0):bq m=out:=by refine yw h.ol (λi hi=>⟨(h.done i hi (hp i hi)).1,(h.done i hi (hp i hi)).2.1⟩) (λi hi=>?_);obtain⟨L,a1,a2,a3⟩:=(h.done i hi (hp i hi)).2.2;exact⟨L,λk hk=>(a1 k hk).1,a2,a3⟩
def NO{c d Q:Int}(hc:0<c)(hd:0<d)(h1:c∣Q)(h2:d∣Q)(hQ:0<Q) :
  0<(Int.gcd c d:Int)/\0<Int.tdiv c (Int.gcd c d)/\Int.tdiv c (Int.gcd c d)<=c/\0<Int.tdiv c (Int.gcd c d)*d/\Int.tdiv c (Int.gcd c d)*d∣Q/\c∣Int.tdiv c (Int.gcd c d)*d/\d∣Int.tdiv c (Int.gcd c d)*d:=by
 obtain⟨c,rfl⟩:=Int.eq_ofNat_of_zero_le (Int.le_of_lt hc);obtain⟨d,rfl⟩:=Int.eq_ofNat_of_zero_le (Int.le_of_lt hd);obtain⟨Q,rfl⟩:=Int.eq_ofNat_of_zero_le (Int.le_of_lt hQ);have e:Int.tdiv (c:Int) (Int.gcd (c:Int) (d:Int))=((c / Nat.gcd c d:Nat):Int):=rfl;rw[e];have hg:0<Nat.gcd c d:=Nat.gcd_pos_of_pos_left d (by omega);have h3:c / Nat.gcd c d*d=Nat.lcm c d:=by rw[Nat.lcm,Nat.mul_comm,Nat.mul_comm c d,Nat.mul_div_assoc _ (Nat.gcd_dvd_left c d)]
 have h4:0<c / Nat.gcd c d:=Nat.div_pos (Nat.gcd_le_left d (by omega)) hg;have h5:c / Nat.gcd c d<=c:=Nat.div_le_self _ _;rw[<-Int.natCast_mul,h3];have h6:0<Nat.lcm c d:=Nat.lcm_pos (by omega) (by omega);refine⟨by show(0:Int)<((Nat.gcd c d:Nat):Int);omega,by omega,by omega,by omega, ?_, ?_, ?_⟩;·exact Int.natCast_dvd_natCast.2 (Nat.lcm_dvd (Int.natCast_dvd_natCast.1 h1) (Int.natCast_dvd_natCast.1 h2))
 ·exact Int.natCast_dvd_natCast.2 (Nat.dvd_lcm_left c d)
 ·exact Int.natCast_dvd_natCast.2 (Nat.dvd_lcm_right c d)
def DN(k:Int)(l:List Int):List (List Int):=(List.range (l.length+1)).map λi=>gB l ((i:Nat):Int) [k]
def eK:Nat->List (List Int)
 |0=>[[]]
 |k+1=>(eK k).flatMap (DN (k:Nat))
def dv(n:Nat):Nat->List Int->List (List Int)
 |0,f=>[f]
 |k+1,f=>(List.range n).flatMap λx=>cond (f.any λy=>decide (y=((x:Nat):Int))) [] (dv n k (f++[((x:Nat):Int)]))
def yD(n:Nat)(hn:n<=5):∀(k:Nat) (f:List Int),(dv n k f).length<=5 ^ k
 |0,f=>Nat.le_refl _
 |k+1,f=>by
  rw[dv,List.length_flatMap];have:∀(l:List Nat),((l.map λx=>(cond (f.any λy=>decide (y=((x:Nat):Int))) [] (dv n k (f++[((x:Nat):Int)]))).length).sum)<=l.length*5 ^ k:=by
   intro l;induction l with
   |nil=>exact Nat.zero_le _
   |cons x l ih =>
    rw[List.map_cons,List.sum_cons,List.length_cons,Nat.succ_mul];have h:(cond (f.any λy=>decide (y=((x:Nat):Int))) [] (dv n k (f++[((x:Nat):Int)]))).length<=5 ^ k:=by
     cases f.any λy=>decide (y=((x:Nat):Int));·exact yD n hn k _
     ·exact Nat.zero_le _
    omega
  refine Nat.le_trans (this (List.range n)) ?_;rw[List.length_range,Nat.pow_succ,Nat.mul_comm];exact Nat.mul_le_mul_left _ hn
set_option maxRecDepth 100000 in
def yE:((List.range 6).all λn=>(eK n).all (λo=>(dv n n []).contains o&&dF o n)&&(dv n n []).all (λo=>(eK n).contains o)&&(eK n).contains ((List.range n).map Int.ofNat))=true:=by decide +kernel
def qJ{n:Nat}(hn:n<=5)(o:List Int):o∈eK n↔o∈dv n n []:=by have h:=List.all_eq_true.1 yE n (List.mem_range.2 (by omega));simp only[Bool.and_eq_true,List.all_eq_true]at h;obtain⟨⟨h1,h2⟩,h3⟩:=h;exact⟨λho=>List.contains_iff_mem.1 (h1 o ho).1,λho=>List.contains_iff_mem.1 (h2 o ho)⟩
def oA{n:Nat}(hn:n<=5){o:List Int}(ho:o∈eK n):dF o n=true:=by have h:=List.all_eq_true.1 yE n (List.mem_range.2 (by omega));simp only[Bool.and_eq_true,List.all_eq_true]at h;exact(h.1.1 o ho).2
def tD{n:Nat}(hn:n<=5):(List.range n).map Int.ofNat∈eK n:=by have h:=List.all_eq_true.1 yE n (List.mem_range.2 (by omega));simp only[Bool.and_eq_true,List.all_eq_true]at h;exact List.contains_iff_mem.1 h.2
def NQ:((List.range 6).all λn=>(List.range (n*n)).all λp=>decide (eV n (((List.range n).map Int.ofNat).map Int.toNat) p=p))=true:=by decide +kernel
def tE{m:Int×Int×List Int}(h:aO m=true)(hr:m.2.1=m.1):b9 m ((List.range m.1.toNat).map Int.ofNat)=m:=by
 obtain⟨n,r,hn,hr',hn1,hn5,hnr,hr8,hl⟩:=bf h;have e:r=n:=by omega
 subst e;have hb:=List.all_eq_true.1 NQ r (List.mem_range.2 (by omega));rw[List.all_eq_true]at hb;have e1:m.1.toNat=r:=by omega
 unfold b9;rw[e1];refine congrArg (λz=>(m.1,m.2.1,z)) ?_;apply List.ext_getElem?;intro p;by_cases hp:p<m.2.2.length;·rw[List.getElem?_map,List.getElem?_range hp,Option.map_some];have:=of_decide_eq_true (hb p (List.mem_range.2 (by omega)));rw[this,List.getD_eq_getElem?_getD,List.getElem?_eq_getElem hp,Option.getD_some]
 ·rw[List.getElem?_eq_none (by simp;omega),List.getElem?_eq_none (Nat.le_of_not_lt hp)]
def NR:∀{n:Nat},n<=5->∀o∈eK n,o.length=n:=λ{n} hn o ho=>by have:=oA hn ho;simp only[dF,Bool.and_eq_true,decide_eq_true_eq]at this;omega
def tF:∀a:List Int,bK a a=false
 |[]=>rfl
 |x::xs=>by rw[bK,if_pos rfl];exact tF xs
def oB:∀{a b c:List Int},bK a b=true->bK b c=true->bK a c=true
 |[],[],_,h,_=>by cases h
 |[],_::_,[],_,h=>by cases h
 |[],_::_,_::_,_,_=>rfl
 |_::_,[],_,h,_=>by cases h
 |_::_,_::_,[],_,h=>by cases h
 |x::xs,y::ys,z::zs,h1,h2=>by
  rw[bK]at h1 h2 ⊢;by_cases e1:x=y
  ·subst e1;rw[if_pos rfl]at h1;by_cases e2:x=z;·rw[if_pos e2]at h2 ⊢;exact oB h1 h2
   ·rw[if_neg e2]at h2 ⊢;exact h2
  ·rw[if_neg e1]at h1;have h1:=of_decide_eq_true h1;by_cases e2:y=z;·subst e2;rw[if_neg e1];exact decide_eq_true h1
   ·rw[if_neg e2]at h2;have h2:=of_decide_eq_true h2;rw[if_neg (by omega)];exact decide_eq_true (by omega)
def mU:∀{a b:List Int},bK a b=false->bK b a=false->a=b
 |[],[],_,_=>rfl
 |[],_::_,h,_=>by cases h
 |_::_,[],_,h=>by cases h
 |x::xs,y::ys,h1,h2=>by
  rw[bK]at h1 h2;by_cases e:x=y;·subst e;rw[if_pos rfl]at h1 h2;rw[mU h1 h2]
  ·rw[if_neg e]at h1;rw[if_neg (Ne.symm e)]at h2;have h1:=of_decide_eq_false h1;have h2:=of_decide_eq_false h2;omega
def cU(f:List Int->List Int)(b:List Int)(os:List (List Int)):List Int:=os.foldl (λb o=>if bK (f o) b=true then f o else b) b
def qL(f:List Int->List Int):∀(os:List (List Int)) (b:List Int),cU f b os=b\/∃o∈os,cU f b os=f o
 |[],b=>.inl rfl
 |o::os,b=>by
  have e:cU f b (o::os)=cU f (if bK (f o) b=true then f o else b) os:=rfl;rw[e];rcases qL f os (if bK (f o) b=true then f o else b)with h|⟨o',h1,h2⟩
  ·rw[h];split;·exact .inr ⟨o,List.mem_cons_self ..,rfl⟩
   ·exact .inl rfl
  ·exact .inr ⟨o',List.mem_cons_of_mem _ h1,h2⟩
def tG(f:List Int->List Int):∀(os:List (List Int)) (b:List Int),bK b (cU f b os)=false/\∀o∈os,bK (f o) (cU f b os)=false
 |[],b=>⟨tF b,λo ho=>by cases ho⟩
 |o::os,b=>by
  have e:cU f b (o::os)=cU f (if bK (f o) b=true then f o else b) os:=rfl;rw[e];obtain⟨h1,h2⟩:=tG f os (if bK (f o) b=true then f o else b);generalize cU f (if bK (f o) b=true then f o else b) os=r at h1 h2;have fin:bK b r=false/\bK (f o) r=false:=by
   by_cases h:bK (f o) b=true
   ·rw[if_pos h]at h1;refine⟨?_,h1⟩;cases hc:bK b r;·rfl
    ·rw[oB h hc]at h1;cases h1
   ·rw[if_neg h]at h1;refine⟨h1, ?_⟩;cases hc:bK (f o) r;·rfl
    ·cases hd:bK b (f o);·have:=mU hd (by simpa using h);rw[this]at h1;rw[h1]at hc;cases hc
     ·rw[oB hd hc]at h1;cases h1
  exact⟨fin.1,λo' ho'=>by
   rcases List.mem_cons.1 ho' with rfl|ho';·exact fin.2
   ·exact h2 o' ho'⟩
def NS{f:List Int->List Int}{os os':List (List Int)}{b b':List Int}(hm:∀o∈os,o∈os')(hm':∀o∈os',o∈os)(hb:∃o∈os,b=f o)(hb':∃o∈os',b'=f o):cU f b os=cU f b' os':=by
 have key:∀{os os':List (List Int)}{b b':List Int},(∀o∈os,o∈os')->(∃o∈os,b=f o)->bK (cU f b os) (cU f b' os')=false:=by
  intro os os' b b' hm hb;have hx:∃o∈os,cU f b os=f o:=by
   rcases qL f os b with h|h;·rw[h];exact hb
   ·exact h
  obtain⟨o,ho,e⟩:=hx;rw[e];exact(tG f os' b').2 o (hm o ho)
 exact mU (key hm hb) (key hm' hb')
def ca(m:Int×Int×List Int)(o:List Int):List Int:=(b9 m o).2.2
def bL(m:Int×Int×List Int):Int×Int×List Int:=(m.1,m.2.1,cU (ca m) m.2.2 (dv m.1.toNat m.1.toNat []))
def yF(f:List Int->List Int):List (List Int)->List Int
 |[]=>[]
 |o::os=>cU f (f o) os
def mV(m:Int×Int×List Int):Int×Int×List Int:=(m.1,m.2.1,yF (ca m) (eK m.1.toNat))
def yG{m:Int×Int×List Int}(h:aO m=true)(hr:m.2.1=m.1):mV m=bL m:=by
 obtain⟨n,r,hn,hr',hn1,hn5,hnr,hr8,hl⟩:=bf h;have e1:m.1.toNat=n:=by omega
 unfold mV bL;have hid:=tE h hr;rw[e1]at hid ⊢;refine congrArg (λz=>(m.1,m.2.1,z)) ?_;have hm:=qJ hn5;have hi:=tD hn5;have hi':ca m ((List.range n).map Int.ofNat)=m.2.2:=by unfold ca;rw[hid]
 generalize dv n n []=S at hm;generalize hN:eK n=O at hm hi;cases O with
 |nil=>cases hi
 |cons o os =>
  rw[yF];have e:cU (ca m) (ca m o) os=cU (ca m) (ca m o) (o::os):=by show _=cU (ca m) (if bK (ca m o) (ca m o)=true then ca m o else ca m o) os;rw[ite_self]
  rw[e];exact NS (λo' ho'=>(hm o').1 ho') (λo' ho'=>(hm o').2 ho') ⟨o,List.mem_cons_self ..,rfl⟩ ⟨_,(hm _).1 hi,hi'.symm⟩
def NV:((List.range 6).all λn=>decide ((eK n).length<=120))=true:=by decide +kernel
def DO{n:Nat}(hn:n<=5):(eK n).length<=120:=of_decide_eq_true (List.all_eq_true.1 NV n (List.mem_range.2 (by omega)))
def dm(a b:List Int):Bool:=!bK b a
def fU(l:List (List Int)):Prop:=l.Pairwise λa b=>dm a b=true
def tH(a b c:List Int)(h1:dm a b=true)(h2:dm b c=true):dm a c=true:=by
 simp only[dm,Bool.not_eq_true']at *
 cases h:bK c a;·rfl
 cases h3:bK a b;·have:=mU h3 h1;subst this;rw[h2]at h;cases h
 ·rw[oB h h3]at h2;cases h2
def DP(a b:List Int):(dm a b||dm b a)=true:=by
 simp only[dm];cases h:bK b a;·rfl
 cases h2:bK a b;·rfl
 ·have:=oB h h2;rw[tF]at this;cases this
def NW{a b:List Int}(h1:dm a b=true)(h2:dm b a=true):a=b:=by simp only[dm,Bool.not_eq_true']at h1 h2;exact mU h2 h1
def yH:∀{l l':List (List Int)},l.Perm l'->fU l->fU l'->l=l'
 |[],l',h,_,_=>(List.Perm.nil_eq h)
 |a::l,[],h,_,_=>by simpa using h.length_eq
 |a::l,b::l',h,h1,h2=>by
  have e:a=b:=by
   rcases List.mem_cons.1 (h.mem_iff.1 List.mem_cons_self)with e|ha;·exact e
   rcases List.mem_cons.1 (h.mem_iff.2 List.mem_cons_self)with e|hb;·exact e.symm
   exact NW ((List.pairwise_cons.1 h1).1 b hb) ((List.pairwise_cons.1 h2).1 a ha)
  subst e;rw[yH (List.Perm.cons_inv h) (List.pairwise_cons.1 h1).2 (List.pairwise_cons.1 h2).2]
def gj(l:List (List Int)):List (List Int):=l.mergeSort dm
def lr(l:List (List Int)):(gj l).Perm l:=List.mergeSort_perm l dm
def tJ(l:List (List Int)):fU (gj l):=List.pairwise_mergeSort tH DP l
def DQ{l l':List (List Int)}(h:l'.Perm l)(hs:fU l'):l'=gj l:=yH (h.trans (lr l).symm) hs (tJ l)
def iF(s:Nat):Nat->List (List Int)->List (List Int)
 |0,l=>l
 |F+1,l=>if l=[]then[]else(l.take s).merge ((l.drop s).take s) dm++iF s F (l.drop (2*s))
def oC(s:Nat)(l:List (List Int)):Prop:=∀k,fU ((l.drop (s*k)).take s)
def DR(a b:List (List Int)):(a.merge b dm).length=a.length+b.length:=by simp
def DS{s:Nat}(hs:0<s):∀(F:Nat) (l:List (List Int)),l.length<=F->oC s l->(iF s F l).Perm l/\oC (2*s) (iF s F l)
 |0,l,h,hb=>by have:l=[]:=List.eq_nil_of_length_eq_zero (by omega);subst this;exact⟨List.Perm.refl _,λk=>by simp[iF,fU]⟩
 |F+1,l,h,hb=>by
  unfold iF;by_cases hl:l=[];·subst hl;rw[if_pos rfl];exact⟨List.Perm.refl _,λk=>by simp[fU]⟩
  rw[if_neg hl];have hpos:0<l.length:=List.length_pos_iff.2 hl;have hb2:oC s (l.drop (2*s)):=λk=>by have:=hb (k+2);rw[List.drop_drop,show 2*s+s*k=s*(k+2) by rw[Nat.mul_add,Nat.mul_comm s 2];omega];exact this
  obtain⟨p1,p2⟩:=DS hs F (l.drop (2*s)) (by simp;omega) hb2;have e1:fU (l.take s):=by simpa using hb 0
  have e2:fU ((l.drop s).take s):=by simpa using hb 1
  have hm:fU ((l.take s).merge ((l.drop s).take s) dm):=List.pairwise_merge tH DP _ _ e1 e2;have hml:((l.take s).merge ((l.drop s).take s) dm).length=min (2*s) l.length:=by rw[DR];simp;omega
  refine⟨?_,λk=>?_⟩
  ·have q1:=(List.merge_perm_append (xs:=l.take s) (ys:=(l.drop s).take s) (le:=dm)).append p1;refine q1.trans ?_;have:l.take s++(l.drop s).take s++l.drop (2*s)=l:=by rw[List.append_assoc,show l.drop (2*s)=(l.drop s).drop s by rw[List.drop_drop];congr 1;omega,List.take_append_drop,List.take_append_drop]
   rw[this]
  ·cases k with
   |zero =>
    rw[Nat.mul_zero,List.drop_zero];by_cases h2:2*s<=l.length;·rw[List.take_append_of_le_length (by omega),List.take_of_length_le (by omega)];exact hm
    ·have:l.drop (2*s)=[]:=List.drop_of_length_le (by omega);have e3:iF s F (l.drop (2*s))=[]:=by rw[this]at p1 ⊢;exact List.Perm.eq_nil p1
     rw[e3,List.append_nil];exact hm.sublist (List.take_sublist _ _)
   |succ k =>
    by_cases h2:2*s<=l.length;·have:=p2 k;rw[show 2*s*(k+1)=2*s+2*s*k by rw[Nat.mul_add];omega,<-List.drop_drop,List.drop_append_of_le_length (by omega),List.drop_of_length_le (by omega:_<=2*s),List.nil_append];exact this
    ·have:l.drop (2*s)=[]:=List.drop_of_length_le (by omega);have e3:iF s F (l.drop (2*s))=[]:=by rw[this]at p1 ⊢;exact List.Perm.eq_nil p1
     rw[e3,List.append_nil,List.drop_of_length_le (by rw[hml];have:2*s<=2*s*(k+1):=Nat.le_mul_of_pos_right _ (Nat.succ_pos k);omega)];simp[fU]
def NX(l:List (List Int)):oC 1 l:=λk=>by
 unfold fU;rcases h:l.drop (1*k)with _|⟨a,r⟩;·simp
 ·simp
def NY{s:Nat}{l:List (List Int)}(h:oC s l)(hs:l.length<=s):fU l:=by have:=h 0;rwa [Nat.mul_zero,List.drop_zero,List.take_of_length_le hs]at this
end Go.Fw
namespace Go.Fw
open Go.Proofs Go.Sort
def yI(a b:Int×Int×List Int):ltOf (λa b:Int×Int×List Int=>hU a.2.2 b.2.2) a b=bK a.2.2 b.2.2:=tl _ _
def yJ:SWO (ltOf λa b:Int×Int×List Int=>hU a.2.2 b.2.2):=⟨λx=>by rw[yI];exact tF _,λx y z h1 h2=>by
  rw[yI]at *
  exact oB h1 h2,λx y z h1 h2=>by
  rw[yI]at *
  have h3:=tH y.2.2 x.2.2 x.2.2;have:dm z.2.2 x.2.2=true:=tH z.2.2 y.2.2 x.2.2 (by simp only[dm,h2];rfl) (by simp only[dm,h1];rfl);simpa only[dm,Bool.not_eq_true']using this⟩
def ko(l:List (Int×Int×List Int)):List (Int×Int×List Int):=hJ (0,(0,[])) (λa b:Int×Int×List Int=>hU a.2.2 b.2.2) l
def DT(l:List (Int×Int×List Int)):(ko l).Perm l:=Nd yJ l
def NZ(l:List (Int×Int×List Int)):fU ((ko l).map (·.2.2)):=by
 have h:=Nf (d:=((0,(0,[])):Int×Int×List Int)) yJ l;have hl:(ko l).length=l.length:=(DT l).length_eq;unfold fU;rw[List.pairwise_iff_getElem];intro i j hi hj hij;rw[List.length_map]at hi hj;have:=h i j hij (by omega);simp only[List.getElem_map];simp only[dm,Bool.not_eq_true'];have e:∀k (hk:k<(ko l).length),(hJ (0,(0,[])) (λa b:Int×Int×List Int=>hU a.2.2 b.2.2) l).getD k (0,(0,[]))=(ko l)[k]:=λk hk=>by rw[List.getD_eq_getElem?_getD];show((ko l)[k]?).getD _=_;rw[List.getElem?_eq_getElem hk];rfl
 rw[e i hi,e j hj]at this;cases hq:bK (ko l)[j].2.2 (ko l)[i].2.2;·rfl
 ·rw[<-tl]at hq;exact(this (of_decide_eq_true hq)).elim
end Go.Fw
set_option linter.defProp false
set_option linter.unusedSimpArgs false
set_option maxRecDepth 100000
namespace Go.Fw
section
variable {J : Type}
namespace bG
def P(m:Int×Int×List Int)(i j:Int):Bool:=ou m i j
def g(m:Int×Int×List Int)(i j:Int):Int:=ov m i j
def Z0{J:Type}(N:Nat)(a:MT)(b c:Int)(kr:Int->Option J):Option J :=
 cond (lk N (ax (ac ((ac (b*a.1))+c)) a.2.2.length)) (
  kr (a.2.2.getD (ac ((ac (b*a.1))+c)).toNat 0)) none
def Spec:Prop:=∀ (v0:MT) (v1 v2:Int),Ty.bd (.pair (.int .i64) (.pair (.int .i64) (.sl 0 (.int .i64)))) v0->P v0 v1 v2=true->∃N0,∀N,N0<=N->Z0 N v0 v1 v2 (λv6=>some ((),(v6,())))=some ((),((g v0 v1 v2),()))
def ok:Spec:=λm i j hb hp=>⟨0,λN hN=>by obtain⟨h1,h2,h3⟩:=Di hb.2.2.1 hp;simp only[Z0,g,ov,h1];rw[ct (CW h2 h3)]⟩
end bG
namespace dW
def g(l:List Int)(n:Int):Bool:=l.any λx=>decide (x=n)
def Z1{J:Type}(N:Nat)(a:LI)(b:Int)(kn:LI->Int->Option J):Option J :=
 kn a b
def Z4{J:Type}(N:Nat)(a:LI)(b:Int)(kn:LI->I2 (Option J)):Option J :=
 kn a b 0
def Z7{J:Type}(N:Nat)(a:LI)(c b:Int)(kn:LI->I2 (Option J))(k0:Option J)(kr:Bool->Option J):Option J :=
 cond (lk N (decide (b<(a.length:Int))))
 (
  cond (lk N (ax b a.length)) (
   cond (lk N (decide ((a.getD b.toNat 0)=c)))
   (
    kr true)
   (
    kn a c (ac (b+1)))) none)
 (
  k0)
def Z6L{J:Type}(N:Nat)(k0:Option J)(kr:Bool->Option J):Nat->LI->Int->Int->Option J
 |0,_,_,_=>none
 |M+1,a,b,c=>Z7 N a b c (λa b c=>Z6L N k0 kr M a b c) k0 kr
def Z6 N a b c k0 kr:=(Z6L N k0 kr N a b c:Option J)
def Z5 N a b c kn kr:=(Z6 N a b c kn kr:Option J)
def Z3 N a b kn kr:=(Z4 N a b (λa b c=>Z5 N a b c kn kr):Option J)
def Z8{J:Type}(N:Nat) (kr:Bool->Option J):Option J :=
 kr false
def Z2 N a b kr:=(Z3 N a b (Z8 N kr) kr:Option J)
def Z0 N a b kr:=(Z1 N a b (λa b=>Z2 N a b kr):Option J)
def Spec:Prop:=∀ (v0:LI) (v1:Int),Ty.bd (.sl 0 (.int .i64)) v0->∃N0,∀N,N0<=N->Z0 N v0 v1 (λv4=>some ((),(v4,())))=some ((),((g v0 v1),()))
def loop{J:Type}(N:Nat)(kr:Bool->Option J)(n:Int)(a:List Int)(ha:a.length<=maxLen):∀(M j:Nat),j<=a.length->a.length-j<M ->
  Z6L N (kr false) kr M a n (j:Int)=kr (g (a.drop j) n):=by
 intro M;induction M with
 |zero=>intro j _ h;omega
 |succ M ih =>
  intro j hj hM;simp only[Z6L,Z7];by_cases h:j<a.length;·rw[ct (dt (by omega)),ct (aN h),Int.toNat_natCast,bh (by omega),ih (j+1) h (by omega),dB 0 h];simp only[g,List.any_cons,aD];cases decide (a.getD j 0=n)<;>rfl
  ·rw[cf (df (by omega)),List.drop_of_length_le (by omega)];rfl
def ok:Spec:=λa n ha=>⟨a.length+1,λN hN=>by simp only[Z1,Z4,Z7,Z6,Z5,Z3,Z8,Z2,Z0];exact(loop N (λt=>some ((),(t,()))) n a ha.1 N 0 (by omega) (by omega)).trans rfl⟩
def g_iff{l:List Int}{n:Int}:g l n=true↔n∈l:=by simp[g]
end dW
namespace cx
def P(m:Int×Int×List Int)(i:Int):Bool:=aO m&&(decide (0<=i)&&decide (i<m.1))
def g(m:Int×Int×List Int)(i:Int):List Int×List Int:=(aF (ll m i.toNat).1,aF (ll m i.toNat).2)
def Z1{J:Type}(N:Nat)(a:MT)(b:Int)(kn:I3 (LI->Option J)):Option J :=
 kn b a.1 a.2.1 a.2.2
def Z3{J:Type}(N:Nat)(a b c:Int)(d:LI)(kn:LI->I3 (LI->Option J)):Option J :=
 kn ([a]:List Int) a b c d
def Z5{J:Type}(N:Nat)(a:LI)(b c d:Int)(e:LI)(kn:LI->LI->I2 (LI->Option J)):Option J :=
 kn a ([b]:List Int) c d e
def Z8{J:Type}(N:Nat)(a b:LI)(c d:Int)(e:LI)(kn:LI->LI->I3 (LI->Option J)):Option J :=
 kn a b 0 c d e
def Z12{J:Type}(N:Nat)(a b:LI)(c d e:Int)(f:LI)(kn:LI->LI->I3 (LI->Option J))(k0:LI->LI->Option J):Option J :=
 cond (lk N (decide (c<(a.length:Int))))
 (
  kn a b c d e f)
 (
  k0 a b)
def Z16{J:Type}(N:Nat)(a b:LI)(c d e:Int)(f:LI)(kn:LI->LI->I4 (LI->Option J)):Option J :=
 kn a b c 0 d e f
def Z19{J:Type}(N:Nat)(a h:LI)(c b d e:Int)(f:LI)(kn:LI->LI->I4 (LI->Option J))(k2:LI->LI->I3 (LI->Option J)):Option J :=
 cond (lk N (decide (b<d)))
 (
  cond (lk N (ax c a.length)) (
   cond (lk N (bG.P (d,(e,f)) (a.getD c.toNat 0) b)) (
    cond (lk N (!(decide ((bG.g (d,(e,f)) (a.getD c.toNat 0) b)=0))))
    (
     cond (!(lk N ((dW.g a b))))
     (
      cond (lk N (Nat.blt (a.length+([b]:List Int).length) 1099511627776)) (
       cond (lk N (ax c (a++([b]:List Int)).length)) (
        cond (lk N (Nat.blt (h.length+([((a++([b]:List Int)).getD c.toNat 0)]:List Int).length) 1099511627776)) (
         kn (a++([b]:List Int)) (h++([((a++([b]:List Int)).getD c.toNat 0)]:List Int)) c (ac (b+1)) d e f) none) none) none)
     (
      kn a h c (ac (b+1)) d e f))
    (
     kn a h c (ac (b+1)) d e f)) none) none)
 (
  k2 a h c d e f)
def Z18L{J:Type}(N:Nat)(k2:LI->LI->I3 (LI->Option J)):Nat->LI->LI->Int->Int->Int->Int->LI->Option J
 |0,_,_,_,_,_,_,_=>none
 |M+1,a,b,c,d,e,f,g=>Z19 N a b c d e f g (λa b c d e f g=>Z18L N k2 M a b c d e f g) k2
def Z18 N a b c d e f g k2:=(Z18L N k2 N a b c d e f g:Option J)
def Z17 N a b c d e f g kn:=(Z18 N a b c d e f g kn:Option J)
def Z15 N a b c d e f kn:=(Z16 N a b c d e f (λa b c g d e f=>Z17 N a b c g d e f kn):Option J)
def Z14 N a b c d e f kn:=(Z15 N a b c d e f kn:Option J)
def Z20{J:Type}(N:Nat)(a b:LI)(c d e:Int)(f:LI)(kn:LI->LI->I3 (LI->Option J)):Option J :=
 kn a b (ac (c+1)) d e f
def Z13 N a b c d e f kn:=(Z14 N a b c d e f (λa b c d e f=>Z20 N a b c d e f kn):Option J)
def Z11 N a b c d e f kn k0:=(Z12 N a b c d e f (λa b c d e f=>Z13 N a b c d e f kn) k0:Option J)
def Z10L{J:Type}(N:Nat)(k0:LI->LI->Option J):Nat->LI->LI->Int->Int->Int->LI->Option J
 |0,_,_,_,_,_,_=>none
 |M+1,a,b,c,d,e,f=>Z11 N a b c d e f (λa b c d e f=>Z10L N k0 M a b c d e f) k0
def Z10 N a b c d e f k0:=(Z10L N k0 N a b c d e f:Option J)
def Z9 N a b c d e f kn:=(Z10 N a b c d e f kn:Option J)
def Z7 N a b c d e kn:=(Z8 N a b c d e (λa b f c d e=>Z9 N a b f c d e kn):Option J)
def Z21{J:Type}(N:Nat)(a b:LI)(kr:LI->LI->Option J):Option J :=
 kr a b
def Z6 N a b c d e kr:=(Z7 N a b c d e (λa b=>Z21 N a b kr):Option J)
def Z4 N a e b c d kr:=(Z5 N a e b c d (λa f b c d=>Z6 N a f b c d kr):Option J)
def Z2 N a b c d kr:=(Z3 N a b c d (λe a b c d=>Z4 N e a b c d kr):Option J)
def Z0 N b a kr:=(Z1 N b a (λa c d e=>Z2 N a c d e kr):Option J)
def Spec:Prop:=∀ (v0:MT) (v1:Int),Ty.bd (.pair (.int .i64) (.pair (.int .i64) (.sl 0 (.int .i64)))) v0->P v0 v1=true->∃N0,∀N,N0<=N->Z0 N v0 v1 (λv4 v5=>some ((),(v4,(v5,()))))=some ((),((g v0 v1).1,((g v0 v1).2,())))
def inner{J:Type}(N:Nat)(k2:List Int->List Int->Int->Int->Int->List Int->Option J)(m:Int×Int×List Int)(hd:aO m=true)(i p:Nat):∀(M j:Nat) (s:List Nat×List Nat),dD m.1.toNat (aj m) i s->p<s.1.length->j<=m.1.toNat->m.1.toNat-j<M ->
  Z18L N k2 M (aF s.1) (aF s.2) (p:Int) (j:Int) m.1 m.2.1 m.2.2 =
   k2 (aF (iC (aj m) (s.1.getD p 0) ((List.range m.1.toNat).drop j) s).1) (aF (iC (aj m) (s.1.getD p 0) ((List.range m.1.toNat).drop j) s).2) (p:Int) m.1 m.2.1 m.2.2:=by
 obtain⟨n,r,hn,hr,hn1,hn5,hnr,hr8,hl⟩:=bf hd;intro M;induction M with
 |zero=>intro j s _ _ _ h;omega
 |succ M ih =>
  intro j s hs hp hj hM;have hle:=hs.le;have hlen:=hs.len;simp only[Z18L,Z19];by_cases h:j<m.1.toNat
  ·have hx:s.1.getD p 0<m.1.toNat:=hs.lt _ (bO 0 hp);have h1:Nat.blt ((aF s.1).length+([(j:Int)]).length) 1099511627776=true:=by simp[cG,Nat.blt_eq];omega
   have h2:Nat.blt ((aF s.2).length+([((aF (s.1++[j])).getD (p:Int).toNat 0)]).length) 1099511627776=true:=by simp[cG,Nat.blt_eq];omega
   rw[ct (dt (by omega)),ct (aN (by rw[cG];exact hp)),iA h,iC];simp only[Int.toNat_natCast,gD];rw[ct (show bG.P (m.1,(m.2.1,m.2.2)) _ _=true from jF hd (by omega) h),bh (by rw[bv];omega)];have hA:bG.g (m.1,(m.2.1,m.2.2)) ((s.1.getD p 0:Nat):Int) (j:Int)=aj m (s.1.getD p 0) j:=jE (by omega) _ _;by_cases ha:aj m (s.1.getD p 0) j=0;·rw[cf (nf (hA.trans ha)),if_neg (λhc=>hc.1 ha)];exact ih (j+1) s hs hp h (by omega)
   ·rw[ct (nt (λhc=>ha (hA.symm.trans hc)))];by_cases hm:j∈s.1;·rw[fI (by rw[aD,dW.g_iff.2 (Du.2 hm)];rfl),if_neg (λhc=>hc.2 hm)];exact ih (j+1) s hs hp h (by omega)
    ·have hf:dW.g (aF s.1) (j:Int)=false:=by
      cases hc:dW.g (aF s.1) (j:Int);·rfl
      ·exact absurd (Du.1 (dW.g_iff.1 hc)) hm
     rw[gi (by rw[aD,hf];rfl),ct h1,yx,ct (aN (by rw[cG];simp;omega)),if_pos ⟨ha,hm⟩];have e:(s.1++[j]).getD p 0=s.1.getD p 0:=jl hp;rw[gD,e,yx];rw[gD,Int.toNat_natCast,e]at h2;rw[ct h2];have:=ih (j+1) (s.1++[j],s.2++[s.1.getD p 0]) (hs.step hp h ⟨ha,hm⟩) (by simp;omega) h (by omega);simp only[e]at this;exact this
  ·rw[cf (df (by omega)),List.drop_of_length_le (by simp;omega),iC]
def loop{J:Type}(N:Nat)(hN:10<=N)(k0:List Int->List Int->Option J)(m:Int×Int×List Int)(hd:aO m=true)(i:Nat):∀(M p:Nat) (s:List Nat×List Nat),dD m.1.toNat (aj m) i s->p<=m.1.toNat->m.1.toNat-p<M ->
  Z10L N k0 M (aF s.1) (aF s.2) (p:Int) m.1 m.2.1 m.2.2=k0 (aF (jG (aj m) m.1.toNat (m.1.toNat-p) p s).1) (aF (jG (aj m) m.1.toNat (m.1.toNat-p) p s).2):=by
 obtain⟨n,r,hn,hr,hn1,hn5,hnr,hr8,hl⟩:=bf hd;intro M;induction M with
 |zero=>intro p s _ _ h;omega
 |succ M ih =>
  intro p s hs hp hM;have hle:=hs.le;simp only[Z10L,Z11,Z12];by_cases h:p<s.1.length;·rw[ct (dt (by rw[cG];omega))];simp only[Z13,Z14,Z15,Z16,Z17,Z18,Z20];have hin:=inner (J:=J) N (λa b c d e f=>Z10L N k0 M a b (ac (c+1)) d e f) m hd i p N 0 s hs h (by omega) (by omega);rw[show((0:Nat):Int)=0 from rfl]at hin;rw[hin,bh (by rw[bv];omega),List.drop_zero];obtain⟨h1,h2,h3⟩:=tv (p:=p) (List.range m.1.toNat) s hs h (λx hx=>List.mem_range.1 hx);rw[ih (p+1) _ h1 (by omega) (by omega),show m.1.toNat-p=(m.1.toNat-(p+1))+1 by omega,jG,if_pos h]
  ·rw[cf (df (by rw[cG];omega))];cases hc:m.1.toNat-p with
   |zero=>rfl
   |succ f=>rw[jG,if_neg h]
def ok:Spec:=λm i hb hp=>⟨10,λN hN=>by simp only[P,Bool.and_eq_true,decide_eq_true_eq]at hp;obtain⟨hd,h0,h1⟩:=hp;obtain⟨x,rfl⟩:=Int.eq_ofNat_of_zero_le h0;obtain⟨n,r,hn,hr,hn1,hn5,hnr,hr8,hl⟩:=bf hd;simp only[Z0,Z1,Z2,Z3,Z4,Z5,Z6,Z7,Z8,Z9,Z10,Z21];have:=loop (J:=Unit×List Int×List Int×Unit) N hN (λa b=>some ((),(a,(b,())))) m hd x N 0 ([x],[x]) (dD.first (by omega)) (by omega) (by omega);exact this⟩
end cx
namespace gq
def g(n:Int):Int:=mx n (ac (0-n))
def Z0{J:Type}(N:Nat)(a:Int)(kr:Int->Option J):Option J :=
 kr (mx a (ac (0-a)))
def Spec:Prop:=∀ (v0:Int),∃N0,∀N,N0<=N->Z0 N v0 (λv2=>some ((),(v2,())))=some ((),((g v0),()))
def ok:Spec:=λn=>⟨0,λN hN=>by simp only[Z0,g]⟩
end gq
namespace fa
def P(a b:Int):Bool:=decide (0<=a)&&(decide (a<9223372036854775808)&&(decide (0<=b)&&decide (b<9223372036854775808)))
def g(a b:Int):Int:=(Int.gcd a b:Int)
def Z1{J:Type}(N:Nat)(a b:Int)(kn:I2 (Option J)):Option J :=
 kn a b
def Z5{J:Type}(N:Nat)(b a:Int)(kn:I2 (Option J))(k0:Int->Option J):Option J :=
 cond (lk N (!(decide (a=0))))
 (
  cond (lk N (!(decide (a=0)))) (
   kn a (Int.tmod b a)) none)
 (
  k0 b)
def Z4L{J:Type}(N:Nat)(k0:Int->Option J):Nat->Int->Int->Option J
 |0,_,_=>none
 |M+1,a,b=>Z5 N a b (λa b=>Z4L N k0 M a b) k0
def Z4 N a b k0:=(Z4L N k0 N a b:Option J)
def Z3 N a b kn:=(Z4 N a b kn:Option J)
def Z6{J:Type}(N:Nat)(a:Int)(kr:Int->Option J):Option J :=
 kr a
def Z2 N a b kr:=(Z3 N a b (λa=>Z6 N a kr):Option J)
def Z0 N a b kr:=(Z1 N a b (λa b=>Z2 N a b kr):Option J)
def Spec:Prop:=∀ (v0 v1:Int),P v0 v1=true->∃N0,∀N,N0<=N->Z0 N v0 v1 (λv4=>some ((),(v4,())))=some ((),((g v0 v1),()))
def loop{J:Type}(N:Nat)(k0:Int->Option J):∀(M:Nat) (a b:Nat),b<M->Z4L N k0 M (a:Int) (b:Int)=k0 (Nat.gcd b a:Nat):=by
 intro M;induction M with
 |zero=>intro a b h;omega
 |succ M ih =>
  intro a b hM;simp only[Z4L,Z5];by_cases h:b=0;·subst h;rw[cf (by simp),Nat.gcd_zero_left]
  ·rw[ct (nt (by omega)),ct (nt (by omega)),show Int.tmod (a:Int) (b:Int)=((a%b:Nat):Int)from rfl,ih _ _ (by have:=Nat.mod_lt a (Nat.pos_of_ne_zero h);omega),<-Nat.gcd_rec]
def ok:Spec:=λa b hp=>⟨b.toNat+1,λN hN=>by simp only[P,Bool.and_eq_true,decide_eq_true_eq]at hp;obtain⟨h1,h2,h3,h4⟩:=hp;obtain⟨x,rfl⟩:=Int.eq_ofNat_of_zero_le h1;obtain⟨y,rfl⟩:=Int.eq_ofNat_of_zero_le h3;simp only[Z1,Z5,Z4,Z3,Z6,Z2,Z0,g];rw[loop N _ N x y (by omega),Nat.gcd_comm];rfl⟩
end fa
namespace aV
def P(m:Int×Int×List Int):Bool:=bg m
def g(m:Int×Int×List Int):List Int×Bool:=(bq m,!decide (bq m=[]))
def Z1{J:Type}(N:Nat)(a:MT)(kn:I2 (LI->Option J)):Option J :=
 kn a.1 a.2.1 a.2.2
def Z3{J:Type}(N:Nat)(a b:Int)(c:LI)(kn:LI->I2 (LI->Option J)):Option J :=
 cond (lk N (bT 0 a&&decide (a<1099511627776))) (
  kn (List.replicate a.toNat (0:Int)) a b c) none
def Z6{J:Type}(N:Nat)(a:LI)(b c:Int)(d:LI)(kn:LI->I3 (LI->Option J)):Option J :=
 kn a 0 b c d
def Z10{J:Type}(N:Nat)(b:LI)(c a d:Int)(e:LI)(kn:LI->I3 (LI->Option J))(k0:LI->I2 (LI->Option J)):Option J :=
 cond (lk N (decide (c<a)))
 (
  kn b c a d e)
 (
  k0 b a d e)
def Z14{J:Type}(N:Nat)(a:LI)(b c d:Int)(e:LI)(kn k1:LI->I3 (LI->Option J)):Option J :=
 cond (lk N (ax b a.length)) (
  cond (lk N (decide (0<(a.getD b.toNat 0))))
  (
   k1 a b c d e)
  (
   kn a b c d e)) none
def Z16{J:Type}(N:Nat)(e:LI)(a b c:Int)(d:LI)(kn:LI->LI->LI->I3 (LI->Option J)):Option J :=
 cond (lk N (cx.P (b,(c,d)) a)) (
  kn e (cx.g (b,(c,d)) a).1 (cx.g (b,(c,d)) a).2 a b c d) none
def Z18{J:Type}(N:Nat)(b c d:LI)(a e f:Int)(g:LI)(kn:LI->LI->LI->I3 (LI->Option J)):Option J :=
 cond (lk N (ax a b.length)) (
  kn (b.set a.toNat 1) c d a e f g) none
def Z21{J:Type}(N:Nat)(a b c:LI)(d e f:Int)(g:LI)(kn:LI->LI->LI->I4 (LI->Option J)):Option J :=
 kn a b c d 1 e f g
def Z24{J:Type}(N:Nat)(d b e:LI)(c a f h:Int)(i:LI)(kn:LI->LI->LI->I4 (LI->Option J))(k2:LI->LI->LI->I3 (LI->Option J)):Option J :=
 cond (lk N (decide (a<(b.length:Int))))
 (
  cond (lk N (ax c d.length)) (
   cond (lk N (ax a b.length)) (
    cond (lk N (ax a e.length)) (
     cond (lk N (bG.P (f,(h,i)) (b.getD a.toNat 0) (e.getD a.toNat 0))) (
      cond (lk N (ax c d.length)) (
       kn (d.set c.toNat (ac ((d.getD c.toNat 0)*(gq.g (bG.g (f,(h,i)) (b.getD a.toNat 0) (e.getD a.toNat 0)))))) b e c (ac (a+1)) f h i) none) none) none) none) none)
 (
  k2 d b e c f h i)
def Z23L{J:Type}(N:Nat)(k2:LI->LI->LI->I3 (LI->Option J)):Nat->LI->LI->LI->Int->Int->Int->Int->LI->Option J
 |0,_,_,_,_,_,_,_,_=>none
 |M+1,a,b,c,d,e,f,g,h=>Z24 N a b c d e f g h (λa b c d e f g h=>Z23L N k2 M a b c d e f g h) k2
def Z23 N a b c d e f g h k2:=(Z23L N k2 N a b c d e f g h:Option J)
def Z22 N a b c d e f g h kn:=(Z23 N a b c d e f g h kn:Option J)
def Z20 N a b c d e f g kn:=(Z21 N a b c d e f g (λa b c d h e f g=>Z22 N a b c d h e f g kn):Option J)
def Z26{J:Type}(N:Nat)(a c d:LI)(b e f:Int)(g:LI)(kn:LI->LI->LI->I4 (LI->Option J)):Option J :=
 cond (lk N (ax b a.length)) (
  kn a c d b (a.getD b.toNat 0) e f g) none
def Z29{J:Type}(N:Nat)(a b c:LI)(d e f g:Int)(h:LI)(kn:LI->LI->LI->I5 (LI->Option J)):Option J :=
 kn a b c d e 1 f g h
def Z32{J:Type}(N:Nat)(h b c:LI)(j i a d e:Int)(f:LI)(kn:LI->LI->LI->I5 (LI->Option J))(k4:LI->LI->I4 (LI->Option J)):Option J :=
 let x1_:=(gq.g (bG.g (d,(e,f)) (b.getD a.toNat 0) (c.getD a.toNat 0)));let x2_:=(lk N (ax a b.length));let x0_:=(h.set (b.getD a.toNat 0).toNat (ac (Int.tdiv (ac ((h.getD (c.getD a.toNat 0).toNat 0)*(gq.g (bG.g (d,(e,f)) (c.getD a.toNat 0) (b.getD a.toNat 0))))) x1_)));cond (lk N (decide (a<(b.length:Int))))
 (
 cond x2_ (
 cond (lk N (ax a c.length)) (
 cond (lk N (ax (c.getD a.toNat 0) h.length)) (
 cond (lk N (ax a c.length)) (
 cond x2_ (
 cond x2_ (
 cond (lk N (ax a c.length)) (
 cond (lk N (bG.P (d,(e,f)) (c.getD a.toNat 0) (b.getD a.toNat 0))) (
 cond (lk N (bG.P (d,(e,f)) (b.getD a.toNat 0) (c.getD a.toNat 0))) (
 cond (lk N (!(decide (x1_=0)))) (
 cond (lk N (ax (b.getD a.toNat 0) h.length)) (
 cond x2_ (
 cond (lk N (ax (b.getD a.toNat 0) x0_.length)) (
 cond (lk N (fa.P i (x0_.getD (b.getD a.toNat 0).toNat 0))) (
 kn x0_ b c j (fa.g i (x0_.getD (b.getD a.toNat 0).toNat 0)) (ac (a+1)) d e f) none) none) none) none) none) none) none) none) none) none) none) none) none) none)
 (
 k4 h b j i d e f)
def Z31L{J:Type}(N:Nat)(k4:LI->LI->I4 (LI->Option J)):Nat->LI->LI->LI->Int->Int->Int->Int->Int->LI->Option J
 |0,_,_,_,_,_,_,_,_,_=>none
 |M+1,a,b,c,d,e,f,g,h,i=>Z32 N a b c d e f g h i (λa b c d e f g h i=>Z31L N k4 M a b c d e f g h i) k4
def Z31 N a b c d e f g h i k4:=(Z31L N k4 N a b c d e f g h i:Option J)
def Z30 N a b c d e f g h i kn:=(Z31 N a b c d e f g h i kn:Option J)
def Z28 N a b c d e f g h kn:=(Z29 N a b c d e f g h (λa b c d e i f g h=>Z30 N a b c d e i f g h kn):Option J)
def Z34{J:Type}(N:Nat)(a b:LI)(c d e f:Int)(g:LI)(kn:LI->LI->I5 (LI->Option J)):Option J :=
 kn a b c d 0 e f g
def Z37{J:Type}(N:Nat)(c a:LI)(e d b f g:Int)(h:LI)(kn:LI->LI->I5 (LI->Option J))(k6:LI->I3 (LI->Option J)):Option J :=
 cond (lk N (decide (b<(a.length:Int))))
 (
  cond (lk N (ax b a.length)) (
   cond (lk N (ax b a.length)) (
    cond (lk N (ax (a.getD b.toNat 0) c.length)) (
     cond (lk N (!(decide (d=0)))) (
      cond (lk N (ax (a.getD b.toNat 0) c.length)) (
       kn (c.set (a.getD b.toNat 0).toNat (ac (Int.tdiv (c.getD (a.getD b.toNat 0).toNat 0) d))) a e d (ac (b+1)) f g h) none) none) none) none) none)
 (
  k6 c e f g h)
def Z36L{J:Type}(N:Nat)(k6:LI->I3 (LI->Option J)):Nat->LI->LI->Int->Int->Int->Int->Int->LI->Option J
 |0,_,_,_,_,_,_,_,_=>none
 |M+1,a,b,c,d,e,f,g,h=>Z37 N a b c d e f g h (λa b c d e f g h=>Z36L N k6 M a b c d e f g h) k6
def Z36 N a b c d e f g h k6:=(Z36L N k6 N a b c d e f g h:Option J)
def Z35 N a b c d e f g h kn:=(Z36 N a b c d e f g h kn:Option J)
def Z33 N a b c d e f g kn:=(Z34 N a b c d e f g (λa b c d h e f g=>Z35 N a b c d h e f g kn):Option J)
def Z27 N a b h c d e f g kn:=(Z28 N a b h c d e f g (λa b c d e f g=>Z33 N a b c d e f g kn):Option J)
def Z25 N a b c d e f g kn:=(Z26 N a b c d e f g (λa b c d h e f g=>Z27 N a b c d h e f g kn):Option J)
def Z19 N a b c d e f g kn:=(Z20 N a b c d e f g (λa b c d e f g=>Z25 N a b c d e f g kn):Option J)
def Z17 N a b c d e f g kn:=(Z18 N a b c d e f g (λa b c d e f g=>Z19 N a b c d e f g kn):Option J)
def Z15 N a b c d e kn:=(Z16 N a b c d e (λa f g b c d e=>Z17 N a f g b c d e kn):Option J)
def Z13 N a b c d e kn k1:=(Z14 N a b c d e (λa b c d e=>Z15 N a b c d e kn) k1:Option J)
def Z12 N a b c d e kn:=(Z13 N a b c d e kn kn:Option J)
def Z38{J:Type}(N:Nat)(a:LI)(b c d:Int)(e:LI)(kn:LI->I3 (LI->Option J)):Option J :=
 kn a (ac (b+1)) c d e
def Z11 N a b c d e kn:=(Z12 N a b c d e (λa b c d e=>Z38 N a b c d e kn):Option J)
def Z9 N a b c d e kn k0:=(Z10 N a b c d e (λa b c d e=>Z11 N a b c d e kn) k0:Option J)
def Z8L{J:Type}(N:Nat)(k0:LI->I2 (LI->Option J)):Nat->LI->Int->Int->Int->LI->Option J
 |0,_,_,_,_,_=>none
 |M+1,a,b,c,d,e=>Z9 N a b c d e (λa b c d e=>Z8L N k0 M a b c d e) k0
def Z8 N a b c d e k0:=(Z8L N k0 N a b c d e:Option J)
def Z7 N a b c d e kn:=(Z8 N a b c d e kn:Option J)
def Z5 N a b c d kn:=(Z6 N a b c d (λa e b c d=>Z7 N a e b c d kn):Option J)
def Z41{J:Type}(N:Nat)(a:LI)(b c:Int)(d:LI)(kn:LI->I3 (LI->Option J)):Option J :=
 kn a 0 b c d
def Z45{J:Type}(N:Nat)(a:LI)(b c d:Int)(e:LI)(kn:LI->I3 (LI->Option J))(k8:LI->Option J):Option J :=
 cond (lk N (decide (b<c)))
 (
  kn a b c d e)
 (
  k8 a)
def Z49{J:Type}(N:Nat)(a:LI)(b c d:Int)(e:LI)(kn:LI->I4 (LI->Option J)):Option J :=
 kn a b 0 c d e
def Z52{J:Type}(N:Nat)(d:LI)(a b c e:Int)(f:LI)(kn:LI->I4 (LI->Option J))(k10:LI->I3 (LI->Option J))(kr:LI->Bool->Option J):Option J :=
 cond (lk N (decide (b<c)))
 (
  cond (lk N (ax a d.length)) (
   cond (lk N (ax b d.length)) (
    cond (lk N (bG.P (c,(e,f)) a b)) (
     cond (lk N (bG.P (c,(e,f)) b a)) (
      cond (lk N (!(decide ((ac ((d.getD a.toNat 0)*(bG.g (c,(e,f)) a b)))=(ac (0-(ac ((d.getD b.toNat 0)*(bG.g (c,(e,f)) b a)))))))))
      (
       kr ([]:List Int) false)
      (
       kn d a (ac (b+1)) c e f)) none) none) none) none)
 (
  k10 d a c e f)
def Z51L{J:Type}(N:Nat)(k10:LI->I3 (LI->Option J))(kr:LI->Bool->Option J):Nat->LI->Int->Int->Int->Int->LI->Option J
 |0,_,_,_,_,_,_=>none
 |M+1,a,b,c,d,e,f=>Z52 N a b c d e f (λa b c d e f=>Z51L N k10 kr M a b c d e f) k10 kr
def Z51 N a b c d e f k10 kr:=(Z51L N k10 kr N a b c d e f:Option J)
def Z50 N a b c d e f kn kr:=(Z51 N a b c d e f kn kr:Option J)
def Z48 N a b c d e kn kr:=(Z49 N a b c d e (λa b f c d e=>Z50 N a b f c d e kn kr):Option J)
def Z47 N a b c d e kn kr:=(Z48 N a b c d e kn kr:Option J)
def Z53{J:Type}(N:Nat)(a:LI)(b c d:Int)(e:LI)(kn:LI->I3 (LI->Option J)):Option J :=
 kn a (ac (b+1)) c d e
def Z46 N a b c d e kn kr:=(Z47 N a b c d e (λa b c d e=>Z53 N a b c d e kn) kr:Option J)
def Z44 N a b c d e kn k8 kr:=(Z45 N a b c d e (λa b c d e=>Z46 N a b c d e kn kr) k8:Option J)
def Z43L{J:Type}(N:Nat)(k8:LI->Option J)(kr:LI->Bool->Option J):Nat->LI->Int->Int->Int->LI->Option J
 |0,_,_,_,_,_=>none
 |M+1,a,b,c,d,e=>Z44 N a b c d e (λa b c d e=>Z43L N k8 kr M a b c d e) k8 kr
def Z43 N a b c d e k8 kr:=(Z43L N k8 kr N a b c d e:Option J)
def Z42 N a b c d e kn kr:=(Z43 N a b c d e kn kr:Option J)
def Z40 N a b c d kn kr:=(Z41 N a b c d (λa e b c d=>Z42 N a e b c d kn kr):Option J)
def Z54{J:Type}(N:Nat)(a:LI)(kr:LI->Bool->Option J):Option J :=
 kr a true
def Z39 N a b c d kr:=(Z40 N a b c d (λa=>Z54 N a kr) kr:Option J)
def Z4 N a b c d kr:=(Z5 N a b c d (λa b c d=>Z39 N a b c d kr):Option J)
def Z2 N a b c kr:=(Z3 N a b c (λd a b c=>Z4 N d a b c kr):Option J)
def Z0 N a kr:=(Z1 N a (λb c d=>Z2 N b c d kr):Option J)
def Spec:Prop:=∀ (v0:MT),Ty.bd (.pair (.int .i64) (.pair (.int .i64) (.sl 0 (.int .i64)))) v0->P v0=true->∃N0,∀N,N0<=N->Z0 N v0 (λv2 v3=>some ((),(v2,(v3,()))))=some ((),((g v0).1,((g v0).2,())))
def yK{a:Int}(h:-99<=a/\a<=99):gq.g a=bP a:=by unfold gq.g;rw[aM (by omega) (by omega),yl];unfold bP;omega
section
variable {J : Type} {N : Nat} {m : Int × Int × List Int} {s : List Nat × List Nat} {i : Nat}
def at_g(hd:0<=m.1)(a b:Nat):bG.g (m.1,(m.2.1,m.2.2)) (a:Int) (b:Int)=aj m a b:=jE hd a b
def at_p(hd:aO m=true){a b:Nat}(ha:a<m.1.toNat)(hb:b<m.1.toNat):bG.P (m.1,(m.2.1,m.2.2)) (a:Int) (b:Int)=true:=by obtain⟨n,r,hn,hr,hn1,hn5,hnr,hr8,hl⟩:=bf hd;exact jF hd (by omega) hb
def loop1(hs:bg m=true)(h:dD m.1.toNat (aj m) i s)(hi:i<m.1.toNat)(k2:List Int->List Int->List Int->Int->Int->Int->List Int->Option J)(d0:List Int)(hd0:d0.length=m.1.toNat):∀(M k:Nat),1<=k->k<=s.1.length->s.1.length-k<M ->
  Z23L N k2 M (d0.set i (dC (qK m s) k)) (aF s.1) (aF s.2) (i:Int) (k:Int) m.1 m.2.1 m.2.2=k2 (d0.set i (dC (qK m s) s.1.length)) (aF s.1) (aF s.2) (i:Int) m.1 m.2.1 m.2.2:=by
 have hdim:=dE (eJ hs);obtain⟨n,r,hn,hr,hn1,hn5,hnr,hr8,hl⟩:=bf hdim;have hle:=h.le;intro M;induction M with
 |zero=>intro k _ _ hM;omega
 |succ M ih =>
  intro k h1 hk hM;simp only[Z23L,Z24];by_cases hlt:k<s.1.length
  ·have hb:=qD (qG hs h) (k+1) (by omega);have hp9:=qE (k:=k+1) (by omega);have e:qK m s k=gq.g (aj m (s.1.getD k 0) (s.2.getD k 0)):=by rw[yK (gE (eJ hs) _ _),qK,if_neg (by omega)]
   rw[ct (dt (by rw[cG];omega)),ct (aN (by rw[List.length_set];omega)),ct (aN (by rw[cG];omega)),ct (aN (by rw[cG,h.len];omega))];simp only[Int.toNat_natCast,gD];rw[ct (at_p hdim (h.lt _ (bO 0 hlt)) (qF h h1 hlt)),ct (aN (by rw[List.length_set];omega)),List.set_set,cM (by omega),if_pos rfl,at_g (by omega),<-e,
    show dC (qK m s) k*qK m s k=dC (qK m s) (k+1)from rfl,aM (by omega) (by omega),bh (by rw[bv];omega)]
   exact ih (k+1) (by omega) (by omega) (by omega)
  ·rw[cf (df (by rw[cG];omega)),show k=s.1.length by omega]
def loop2(hs:bg m=true)(h:dD m.1.toNat (aj m) i s)(k4:List Int->List Int->Int->Int->Int->Int->List Int->Option J)(d0:List Int):∀(M k:Nat) (d:List Int) (g:Int),1<=k->k<=s.1.length->s.1.length-k<M->T2 m s d0 k d g ->
  ∃d' g',T2 m s d0 s.1.length d' g'/\Z31L N k4 M d (aF s.1) (aF s.2) (i:Int) g (k:Int) m.1 m.2.1 m.2.2=k4 d' (aF s.1) (i:Int) g' m.1 m.2.1 m.2.2:=by
 have hdim:=dE (eJ hs);obtain⟨n,r,hn,hr,hn1,hn5,hnr,hr8,hl⟩:=bf hdim;have hle:=h.le;intro M;induction M with
 |zero=>intro k _ _ _ _ hM;omega
 |succ M ih =>
  intro k d g h1 hk hM ht;simp only[Z31L,Z32];by_cases hlt:k<s.1.length
  ·obtain⟨⟨a1,a2⟩,⟨b1,b2⟩,hst⟩:=ht.step hs h (by omega) h1 hlt;obtain⟨⟨hq,_⟩,hp,_⟩:=tx hs h h1 hlt;have hg:=ht.g_range h1;have hx:=h.lt _ (bO 0 hlt);have hf:=qF h h1 hlt;have e1:gq.g (aj m (s.1.getD k 0) (s.2.getD k 0))=qK m s k:=by rw[yK (gE (eJ hs) _ _),qK,if_neg (by omega)]
   have e2:gq.g (aj m (s.2.getD k 0) (s.1.getD k 0))=pK m s k:=by rw[yK (gE (eJ hs) _ _),pK]
   have c1:ax (k:Int) (aF s.1).length=true:=aN (by rw[cG];omega);have c2:ax (k:Int) (aF s.2).length=true:=aN (by rw[cG,h.len];omega);rw[ct (dt (by rw[cG];omega)),ct c1,ct c2];simp only[Int.toNat_natCast,gD];rw[ct (aN (by rw[ht.len];exact hf)),ct c2,ct c1,ct c1,ct c2,ct (at_p hdim hf hx),ct (at_p hdim hx hf)];simp only[at_g (show 0<=m.1 by omega),e1,e2];rw[ct (nt (by omega)),ct (aN (by rw[ht.len];exact hx)),ct c1];simp only[aM (show -9223372036854775808<=d.getD (s.2.getD k 0) 0*pK m s k by omega) (by omega)];simp only[aM (show -9223372036854775808<=Int.tdiv (d.getD (s.2.getD k 0) 0*pK m s k) (qK m s k) by omega) (by omega)];rw[ct (aN (by rw[List.length_set,ht.len];exact hx)),cM (by rw[ht.len];exact hx),if_pos rfl];rw[ct (show fa.P g _=true by simp only[fa.P,Bool.and_eq_true,decide_eq_true_eq];exact⟨by omega,by omega,by omega,by omega⟩),bh (by rw[bv];omega)];exact ih (k+1) _ _ (by omega) (by omega) (by omega) hst
  ·have e:k=s.1.length:=by omega
   subst e;exact⟨d,g,ht,by rw[cf (df (by rw[cG];omega))]⟩
def loop3(hs:bg m=true)(h:dD m.1.toNat (aj m) i s)(k6:List Int->Int->Int->Int->List Int->Option J)(d0 d2:List Int)(g:Int)(h2:T2 m s d0 s.1.length d2 g):∀(M k:Nat) (d:List Int),k<=s.1.length->s.1.length-k<M->T3 m s d2 g k d ->
  ∃d',T3 m s d2 g s.1.length d'/\Z36L N k6 M d (aF s.1) (i:Int) g (k:Int) m.1 m.2.1 m.2.2=k6 d' (i:Int) m.1 m.2.1 m.2.2:=by
 have hle:=h.le;have hdim:=dE (eJ hs);obtain⟨n,r,hn,hr,hn1,hn5,hnr,hr8,hl⟩:=bf hdim;have hg:=h2.g_range h.pos;intro M;induction M with
 |zero=>intro k _ _ hM;omega
 |succ M ih =>
  intro k d hk hM ht;simp only[Z36L,Z37];by_cases hlt:k<s.1.length
  ·have hx:=h.lt _ (bO 0 hlt);have c1:ax (k:Int) (aF s.1).length=true:=aN (by rw[cG];omega);have hv:=h2.val k hlt;have hp8:=qE (k:=4+k) (by omega);have hdv:0<=Int.tdiv (d2.getD (s.1.getD k 0) 0) g/\Int.tdiv (d2.getD (s.1.getD k 0) 0) g<=9227446944279201:=by rw[Int.tdiv_eq_ediv_of_nonneg (by omega)];refine⟨Int.ediv_nonneg (by omega) (by omega), ?_⟩;have:=Int.ediv_le_self (a:=d2.getD (s.1.getD k 0) 0) g (by omega);omega
   rw[ct (dt (by rw[cG];omega)),ct c1,ct c1];simp only[Int.toNat_natCast,gD];rw[ct (aN (by rw[ht.len];exact hx)),ct (nt (by omega)),ct (aN (by rw[ht.len];exact hx)),ht.cur h.nd h.lt hlt,aM (by omega) (by omega),bh (by rw[bv];omega)];exact ih (k+1) _ (by omega) (by omega) (ht.step h.nd h.lt hlt)
  ·have e:k=s.1.length:=by omega
   subst e;exact⟨d,ht,by rw[cf (df (by rw[cG];omega))]⟩
def outer(hN:10<=N)(hs:bg m=true)(k0:List Int->Int->Int->List Int->Option J):∀(M i:Nat) (d:List Int),i<=m.1.toNat->m.1.toNat-i<M->d.length=m.1.toNat->jH m.1.toNat (aj m) (λx=>d.getD x 0)->(∀x,x<i->0<d.getD x 0) ->
  ∃d',(d'.length=m.1.toNat/\jH m.1.toNat (aj m) (λx=>d'.getD x 0)/\∀x,x<m.1.toNat->0<d'.getD x 0)/\Z8L N k0 M d (i:Int) m.1 m.2.1 m.2.2=k0 d' m.1 m.2.1 m.2.2:=by
 have hdim:=dE (eJ hs);obtain⟨n,r,hn,hr,hn1,hn5,hnr,hr8,hl⟩:=bf hdim;intro M;induction M with
 |zero=>intro i _ _ hM;omega
 |succ M ih =>
  intro i d hi hM hdl hpt hpos;simp only[Z8L,Z9,Z10];by_cases hlt:i<m.1.toNat
  ·rw[ct (dt (by omega))];simp only[Z11,Z12,Z13,Z14];rw[ct (aN (by omega)),Int.toNat_natCast];by_cases hd:0<d.getD i 0
   ·rw[ct (dt hd)];simp only[Z38];rw[bh (by rw[bv];omega)];exact ih (i+1) d hlt (by omega) hdl hpt (λx hx=>by
     by_cases e:x=i;·subst e;exact hd
     ·exact hpos x (by omega))
   ·rw[cf (df hd)];obtain⟨h,hcl⟩:=NF hlt;simp only[Z15,Z16];rw[ct (show cx.P (m.1,(m.2.1,m.2.2)) (i:Int)=true by simp only[cx.P,Bool.and_eq_true,decide_eq_true_eq];exact⟨hdim,by omega,by omega⟩)];simp only[Z17,Z18];rw[ct (aN (by omega)),Int.toNat_natCast];have eP:cx.g (m.1,(m.2.1,m.2.2)) (i:Int)=(aF (ll m i).1,aF (ll m i).2):=rfl;rw[eP];generalize ll m i=s at h hcl;have hle:=h.le;simp only[Z19,Z20,Z21,Z22,Z23];have l1:=loop1 (J:=J) (N:=N) hs h hlt (λa b c d e f g=>Z25 N a b c d e f g (λa b c d e=>Z38 N a b c d e (λa b c d e=>Z8L N k0 M a b c d e))) d hdl N 1 (by omega) h.pos (by omega);rw[show dC (qK m s) 1=1 by simp[dC,qK]]at l1;rw[show(((1:Nat):Int))=1 from rfl]at l1;rw[l1];simp only[Z25,Z26];have hset:∀v,(d.set i v).length=m.1.toNat:=λv=>by rw[List.length_set];exact hdl
    rw[ct (aN (by rw[hset];exact hlt)),Int.toNat_natCast,cM (by omega),if_pos rfl];simp only[Z27,Z28,Z29,Z30,Z31];have hH:=qD (qG hs h) s.1.length (by omega);have hHp:(99:Int) ^ s.1.length<=99 ^ (4+0)\/s.1.length=5:=by
     by_cases e:s.1.length=5;·exact Or.inr e
     ·left;have:99 ^ s.1.length<=99 ^ (4+0):=Nat.pow_le_pow_right (by omega) (by omega);exact_mod_cast this
    have hH4:dC (qK m s) s.1.length<=99 ^ (4+0):=by
     rcases hHp with hc|hc;·omega
     ·rw[hc];have q1:dC (qK m s) 1=1:=by simp[dC,qK]
      have b:∀k,1<=k->k<=s.1.length->dC (qK m s) k<=99 ^ (k-1):=by
       intro k;induction k with
       |zero=>intro h _;omega
       |succ k ihk =>
        intro _ hk;by_cases e:k=0;·subst e;rw[q1];decide
        ·have c1:=ihk (by omega) (by omega);have c2:=qG hs h k (by omega);have c3:=qD (qG hs h) k (by omega);have:dC (qK m s) k*qK m s k<=99 ^ (k-1)*99:=Int.mul_le_mul c1 c2.2 (by omega) (Int.pow_nonneg (by omega));rw[<-Int.pow_succ,show(k-1).succ=k by omega]at this;exact this
      exact b 5 (by omega) (by omega)
    have t0:T2 m s d 1 (d.set i (dC (qK m s) s.1.length)) (dC (qK m s) s.1.length):=by
     refine⟨hset _, ?_, ?_,λk h1 h2=>by omega, ?_⟩;·intro x hx hall;rw[cM (by omega),if_neg (λe=>hall 0 (by omega) (by rw[h.hd];exact e.symm))]
     ·intro k hk;have e:k=0:=by omega
      subst e;rw[h.hd,cM (by omega),if_pos rfl];refine⟨hH.1,hH4,⟨dC (qK m s) 1,rfl⟩⟩
     ·show _=((cw [(d.set i (dC (qK m s) s.1.length)).getD (s.1.getD 0 0) 0]:Nat):Int);rw[h.hd,cM (by omega),if_pos rfl,cw,cw,Nat.gcd_zero_right];omega
    obtain⟨d2,g2,ht2,l2⟩:=loop2 (J:=J) (N:=N) hs h (λa b c d e f g=>Z33 N a b c d e f g (λa b c d e=>Z38 N a b c d e (λa b c d e=>Z8L N k0 M a b c d e))) d N 1 _ _ (by omega) h.pos (by omega) t0;rw[show(((1:Nat):Int))=1 from rfl]at l2;rw[l2];simp only[Z33,Z34,Z35,Z36];obtain⟨d3,ht3,l3⟩:=loop3 (J:=J) (N:=N) hs h (λa b c d e=>Z38 N a b c d e (λa b c d e=>Z8L N k0 M a b c d e)) d d2 g2 ht2 N 0 d2 (by omega) (by omega) ⟨ht2.len,λ_ _ _=>rfl,λk hk=>by omega⟩;rw[show(((0:Nat):Int))=0 from rfl]at l3;rw[l3];obtain⟨p1,p2,p3⟩:=NJ hs hlt h (by omega) hcl hpt (by omega) ht2 ht3;simp only[Z38];rw[bh (by rw[bv];omega)];exact ih (i+1) d3 hlt (by omega) ht3.len p1 (λx hx=>by
     by_cases e:x=i;·subst e;exact p2
     ·exact p3 x (by omega) (hpos x (by omega)))
  ·rw[cf (df (by omega))];exact⟨d,⟨hdl,hpt,λx hx=>hpos x (by omega)⟩,rfl⟩
def oD(m:Int×Int×List Int)(d:List Int)(i j:Nat):Prop:=d.getD i 0*aj m i j=-(d.getD j 0*aj m j i)
def DU(hs:bn m=true){d:List Int}(hd:jH m.1.toNat (aj m) (λx=>d.getD x 0)){i j:Nat}(hi:i<m.1.toNat)(hj:j<m.1.toNat) :
  (ac (d.getD i 0*aj m i j)=ac (0-ac (d.getD j 0*aj m j i)))↔oD m d i j:=by
 have key:∀a b:Nat,a<m.1.toNat->-913517247483640899<=d.getD a 0*aj m a b/\d.getD a 0*aj m a b<=913517247483640899:=by intro a b ha;obtain⟨h1,h2,_⟩:=hd a ha;have h3:=gE hs a b;have h1':0<=d.getD a 0:=h1;have h2':d.getD a 0<=9227446944279201:=h2;have c1:d.getD a 0*aj m a b<=d.getD a 0*99:=Int.mul_le_mul_of_nonneg_left h3.2 h1';have c2:d.getD a 0*(-99)<=d.getD a 0*aj m a b:=Int.mul_le_mul_of_nonneg_left h3.1 h1';omega
 have k1:=key i j hi;have k2:=key j i hj;rw[aM (by omega) (by omega),aM (n:=d.getD j 0*aj m j i) (by omega) (by omega),aM (by omega) (by omega),Int.zero_sub];rfl
def N1(hs:bg m=true){d:List Int}(hdl:d.length=m.1.toNat)(hd:jH m.1.toNat (aj m) (λx=>d.getD x 0))(k10:List Int->Int->Int->Int->List Int->Option J)(kr:List Int->Bool->Option J){i:Nat}(hi:i<m.1.toNat):∀(M j:Nat),j<=m.1.toNat->m.1.toNat-j<M ->
  (Z51L N k10 kr M d (i:Int) (j:Int) m.1 m.2.1 m.2.2=kr [] false/\∃j',j'<m.1.toNat/\¬ oD m d i j') \/
  (Z51L N k10 kr M d (i:Int) (j:Int) m.1 m.2.1 m.2.2=k10 d (i:Int) m.1 m.2.1 m.2.2/\∀j',j<=j'->j'<m.1.toNat->oD m d i j'):=by
 have hdim:=dE (eJ hs);obtain⟨n,r,hn,hr,hn1,hn5,hnr,hr8,hl⟩:=bf hdim;intro M;induction M with
 |zero=>intro j _ hM;omega
 |succ M ih =>
  intro j hj hM;simp only[Z51L,Z52];by_cases hlt:j<m.1.toNat
  ·rw[ct (dt (by omega)),ct (aN (by omega)),ct (aN (by omega)),ct (at_p hdim hi hlt),ct (at_p hdim hlt hi)];have hA:bG.g (m.1,(m.2.1,m.2.2)) (i:Int) (j:Int)=aj m i j:=at_g (by omega) _ _;have hB:bG.g (m.1,(m.2.1,m.2.2)) (j:Int) (i:Int)=aj m j i:=at_g (by omega) _ _;simp only[Int.toNat_natCast,hA,hB];by_cases he:oD m d i j
   ·rw[cf (nf ((DU (eJ hs) hd hi hlt).2 he)),bh (by rw[bv];omega)];rcases ih (j+1) hlt (by omega)with hc|hc;·exact Or.inl hc
    ·refine Or.inr ⟨hc.1,λj' h1 h2=>?_⟩;by_cases e:j'=j;·subst e;exact he
     ·exact hc.2 j' (by omega) h2
   ·rw[ct (nt (λhc=>he ((DU (eJ hs) hd hi hlt).1 hc)))];exact Or.inl ⟨rfl,j,hlt,he⟩
  ·rw[cf (df (by omega))];exact Or.inr ⟨rfl,λj' h1 h2=>by omega⟩
def N2(hN:10<=N)(hs:bg m=true){d:List Int}(hdl:d.length=m.1.toNat)(hd:jH m.1.toNat (aj m) (λx=>d.getD x 0))(k8:List Int->Option J)(kr:List Int->Bool->Option J):∀(M i:Nat),i<=m.1.toNat->m.1.toNat-i<M ->
  (Z43L N k8 kr M d (i:Int) m.1 m.2.1 m.2.2=kr [] false/\∃i' j',i'<m.1.toNat/\j'<m.1.toNat/\¬ oD m d i' j') \/
  (Z43L N k8 kr M d (i:Int) m.1 m.2.1 m.2.2=k8 d/\∀i',i<=i'->i'<m.1.toNat->∀j',j'<m.1.toNat->oD m d i' j'):=by
 have hdim:=dE (eJ hs);obtain⟨n,r,hn,hr,hn1,hn5,hnr,hr8,hl⟩:=bf hdim;intro M;induction M with
 |zero=>intro i _ hM;omega
 |succ M ih =>
  intro i hi hM;simp only[Z43L,Z44,Z45];by_cases hlt:i<m.1.toNat
  ·rw[ct (dt (by omega))];simp only[Z46,Z47,Z48,Z49,Z50,Z51];have hc:=N1 (J:=J) (N:=N) hs hdl hd (λa b c d e=>Z53 N a b c d e (λa b c d e=>Z43L N k8 kr M a b c d e)) kr hlt N 0 (by omega) (by omega);rw[show((0:Nat):Int)=0 from rfl]at hc;rcases hc with⟨hc,j',h1,h2⟩|⟨hc,h1⟩;·exact Or.inl ⟨hc,i,j',hlt,h1,h2⟩
   ·rw[hc];simp only[Z53];rw[bh (by rw[bv];omega)];rcases ih (i+1) hlt (by omega)with h2|h2;·exact Or.inl h2
    ·refine Or.inr ⟨h2.1,λi' h3 h4=>?_⟩;by_cases e:i'=i;·subst e;exact λj' hj'=>h1 j' (by omega) hj'
     ·exact h2.2 i' (by omega) h4
  ·rw[cf (df (by omega))];exact Or.inr ⟨rfl,λi' h1 h2=>by omega⟩
end
def ok:Spec:=λm hb hp=>⟨10,λN hN=>by
 have hs:bg m=true:=hp;have hdim:=dE (eJ hs);obtain⟨n,r,hn,hr,hn1,hn5,hnr,hr8,hl⟩:=bf hdim;simp only[Z0,Z1,Z2,Z3];rw[ct (by rw[jD (by omega),dt (by omega)];rfl)];simp only[Z4,Z5,Z6,Z7,Z8];have hz:∀x,(List.replicate m.1.toNat (0:Int)).getD x 0=0:=λx=>by rw[List.getD_eq_getElem?_getD,List.getElem?_replicate];split<;>rfl
 obtain⟨d,⟨h1,h2,h3⟩,h4⟩:=outer (J:=Unit×List Int×Bool×Unit) hN hs (λa b c d=>Z39 N a b c d (λt2 t3=>some ((),(t2,(t3,()))))) N 0 (List.replicate m.1.toNat 0) (by omega) (by omega) (by simp) (λj hj=>by show 0<=(List.replicate m.1.toNat (0:Int)).getD j 0/\(List.replicate m.1.toNat (0:Int)).getD j 0<=_/\(0<(List.replicate m.1.toNat (0:Int)).getD j 0->_);rw[hz];exact⟨by omega,by omega,λhc=>by omega⟩) (λx hx=>by omega);rw[show((0:Nat):Int)=0 from rfl]at h4;rw[h4];simp only[Z39,Z40,Z41,Z42,Z43];have hc:=N2 (J:=Unit×List Int×Bool×Unit) hN hs h1 h2 (λd4=>Z54 N d4 (λt2 t3=>some ((),(t2,(t3,()))))) (λt2 t3=>some ((),(t2,(t3,())))) N 0 (by omega) (by omega);rw[show((0:Nat):Int)=0 from rfl]at hc;rcases hc with⟨hc,i',j',h5,h6,h7⟩|⟨hc,h5⟩;·rw[hc,g,NL hs h2 h3 h5 h6 h7];rfl
 ·have h6:=Dz h1 h2 h3 (λi hi j hj=>h5 i (by omega) hi j hj);rw[hc,g,h6];simp only[Z54];rw[df (λe=>by rw[e]at h1;simp at h1;omega)];rfl⟩
def fac_ex{m:Int×Int×List Int}(hs:bg m=true)(h:∃e,cT m.1.toNat (aj m) e):bq m≠[]:=by
 have hdim:=dE (eJ hs);obtain⟨n,r,hn,hr,hn1,hn5,hnr,hr8,hl⟩:=bf hdim;have hz:∀x,(List.replicate m.1.toNat (0:Int)).getD x 0=0:=λx=>by rw[List.getD_eq_getElem?_getD,List.getElem?_replicate];split<;>rfl
 obtain⟨d,⟨h1,h2,h3⟩,h4⟩:=outer (J:=Unit) (N:=10) (Nat.le_refl _) hs (λ_ _ _ _=>none) 10 0 (List.replicate m.1.toNat 0) (by omega) (by omega) (by simp) (λj hj=>by show 0<=(List.replicate m.1.toNat (0:Int)).getD j 0/\(List.replicate m.1.toNat (0:Int)).getD j 0<=_/\(0<(List.replicate m.1.toNat (0:Int)).getD j 0->_);rw[hz];exact⟨by omega,by omega,λhc=>by omega⟩) (λx hx=>by omega);obtain⟨e,he⟩:=h;rw[Dz h1 h2 h3 (λi hi j hj=>NK hs h2 h3 he hi hj)];intro hc;rw[hc]at h1;simp at h1;omega
end aV
end
end Go.Fw
namespace Go.Fw
def jL(m:Int×Int×List Int):(bn m&&!decide (bq m=[]))=(bg m&&!decide (bq m=[])):=by
 by_cases h:bq m=[];·rw[dt h];simp
 ·cases hs:bn m;·simp[bg,hs]
  ·rw[NE hs h]
def yL{m:Int×Int×List Int}{k:Nat}(h:(bg m&&!decide (bq m=[]))=true)(hk:k<m.1.toNat):(bn (aU m k)&&!decide (bq (aU m k)=[]))=bg (aU m k):=by
 simp only[Bool.and_eq_true,Bool.not_eq_true',decide_eq_false_iff_not]at h;cases hs:bg (aU m k);·rw[jL,hs];rfl
 ·have hd:=dE (eJ h.1);have:=aV.fac_ex hs ⟨_,qH hd hk (tr h.2).2.1⟩;rw[jL,hs,df this];rfl
def tK{a b:Int×Int×List Int}(ha:aO a=true)(h1:a.1=b.1)(h2:a.2.1=b.2.1)(hl:a.2.2.length=b.2.2.length)(h:∀i j,i<a.2.1.toNat->j<a.1.toNat->aj a i j=aj b i j):a=b:=by
 obtain⟨n,r,hn,hr,hn1,hn5,hnr,hr8,hla⟩:=bf ha;obtain⟨a1,a2,a3⟩:=a;obtain⟨b1,b2,b3⟩:=b;simp only at h1 h2 hn hr;subst h1 h2;have:a3=b3:=by
  apply List.ext_getElem hl;intro p p1 p2;have hla':a3.length=r*n:=hla;have hp:p<r*n:=by omega
  have hi:p / n<r:=Nat.div_lt_of_lt_mul (by rw[Nat.mul_comm];exact hp);have hj:p%n<n:=Nat.mod_lt _ (by omega);have:=h (p / n) (p%n) (by show p / n<a2.toNat;omega) (by show p%n<a1.toNat;omega);have e:p / n*a1.toNat+p%n=p:=by rw[show a1.toNat=n by omega,Nat.mul_comm];exact Nat.div_add_mod p n
  unfold aj at this;rw[e]at this;simp only[List.getD_eq_getElem?_getD,List.getElem?_eq_getElem p1,List.getElem?_eq_getElem p2,Option.getD_some]at this;exact this
 rw[this]
def DV{m:Int×Int×List Int}(hd:aO m=true){k:Nat}(hk:k<m.1.toNat):aU (aU m k) k=m:=by
 obtain⟨n,r,hn,hr,hn1,hn5,hnr,hr8,hl⟩:=bf hd;have hd1:=mT hd k;refine tK (mT hd1 k) rfl rfl (by simp[aU]) λi j hi hj=>?_;have hi:i<m.2.1.toNat:=hi;have hj:j<m.1.toNat:=hj;rw[lq hd1 hi hj,lq hd hi hj,lq hd hi hk,lq hd (by omega) hj];generalize aj m i j=a;generalize aj m i k=b;generalize aj m k j=c;generalize aj m k k=e;cases hf:(decide (i=k)||decide (j=k))
 ·simp only[Bool.or_eq_false_iff]at hf;simp only[hf.1,hf.2,decide_true,Bool.or_true,Bool.true_or,ki,Bool.false_eq_true,if_false,if_true];by_cases h1:0<b/\0<c;·rw[if_pos h1,if_neg (by omega),if_pos (by omega)];grind
  ·rw[if_neg h1];by_cases h2:b<0/\c<0;·rw[if_pos h2,if_pos (by omega)];grind
   ·rw[if_neg h2,if_neg (by omega),if_neg (by omega)]
 ·simp only[ki,if_true,Int.neg_neg]
structure bw(m:Int×Int×List Int)(d:Nat->Int):Prop where
 shaped:bn m=true
 good:cT m.1.toNat (aj m) d
def bw.sizes{m:Int×Int×List Int}{d:Nat->Int}(h:bw m d):bg m=true:=by rw[bg,h.shaped,Bool.true_and,List.all_eq_true];intro i hi;rw[List.all_eq_true];intro j hj;exact ow h.good (List.mem_range.1 hi) (List.mem_range.1 hj)
def bw.fac{m:Int×Int×List Int}{d:Nat->Int}(h:bw m d):bq m≠[]:=aV.fac_ex h.sizes ⟨d,h.good⟩
def bw.ok{m:Int×Int×List Int}{d:Nat->Int}(h:bw m d):(bg m&&!decide (bq m=[]))=true:=by rw[h.sizes,df h.fac];rfl
def bw.dim{m:Int×Int×List Int}{d:Nat->Int}(h:bw m d):aO m=true:=dE h.shaped
def DW{m:Int×Int×List Int}(h:(bg m&&!decide (bq m=[]))=true):∃d,bw m d:=by simp only[Bool.and_eq_true,Bool.not_eq_true',decide_eq_false_iff_not]at h;exact⟨_,eJ h.1,(tr h.2).2.1⟩
def kp{m:Int×Int×List Int}:bn m=true↔aO m=true/\∀x∈m.2.2,-99<=x/\x<=99:=by simp only[bn,lh,Bool.and_eq_true,List.all_eq_true,cC]
def bw.mut{m:Int×Int×List Int}{d:Nat->Int}(h:bw m d){k:Nat}(hk:k<m.1.toNat)(hs:bg (aU m k)=true):bw (aU m k) d:=⟨eJ hs,qH h.dim hk h.good⟩
def gF{m:Int×Int×List Int}(hd:aO m=true)(names:List Int){p q:Nat}(hp:p<m.2.1.toNat)(hq:q<m.1.toNat) :
  aj (b9 m names) p q=aj m (eD m.1.toNat (names.map Int.toNat) p) (cY (names.map Int.toNat) q):=by
 obtain⟨n,r,hn,hr,hn1,hn5,hnr,hr8,hl⟩:=bf hd;have e0:m.1.toNat=n:=by omega
 have hlt:=hY (n:=n) (r:=r) (i:=p) (j:=q) (by omega) (by omega);unfold aj b9;show((List.range m.2.2.length).map λp=>m.2.2.getD (eV m.1.toNat (names.map Int.toNat) p) 0).getD (p*m.1.toNat+q) 0=_;rw[List.getD_eq_getElem?_getD,List.getElem?_map,List.getElem?_range (by rw[e0];omega)];show m.2.2.getD (eV m.1.toNat (names.map Int.toNat) (p*m.1.toNat+q)) 0=_;unfold eV;rw[tz hq,DA hq]
def mW{m:Int×Int×List Int}(names:List Int)(h:aO m=true):aO (b9 m names)=true:=by simpa[aO,b9]using h
def bw.ren{m:Int×Int×List Int}{d:Nat->Int}(h:bw m d){names:List Int}(hn:dF names m.1=true):bw (b9 m names) λp=>d (cY (names.map Int.toNat) p):=by
 obtain⟨L,rfl,h1,h2,h3⟩:=kj hn;have hd:=h.dim;obtain⟨n,r,en,hr,hn1,hn5,hnr,hr8,hl⟩:=bf hd;refine⟨kp.2 ⟨mW _ hd,λx hx=>?_⟩,λu hu=>?_⟩
 ·have h0:=(kp.1 h.shaped).2;obtain⟨p,_,rfl⟩:=List.mem_map.1 hx;rw[List.getD_eq_getElem?_getD];cases hq:m.2.2[eV m.1.toNat ((aF L).map Int.toNat) p]? with
  |none=>exact⟨by decide,by decide⟩
  |some y=>exact h0 y (List.mem_of_getElem? hq)
 ·have hu:u<m.1.toNat:=hu;rw[iD];have pu:=(eU (fK h1 h2 h3 hu)).1;refine⟨(h.good _ (by omega)).1,λv hv=>?_⟩;have hv:v<m.1.toNat:=hv;have pv:=(eU (fK h1 h2 h3 hv)).1;rw[gF hd _ (by omega) hv,gF hd _ (by omega) hu,iD];unfold eD;rw[if_pos hu,if_pos hv];exact(h.good _ (by omega)).2 _ (by omega)
def iG(m:Int×Int×List Int):Int×Int×List Int:=(m.1,m.1,m.2.2.take (m.1*m.1).toNat)
def N3{m:Int×Int×List Int}(hd:aO m=true):ac (m.1*m.1)=m.1*m.1/\0<=m.1*m.1/\m.1*m.1<=25/\m.1*m.1<=(m.2.2.length:Int):=by
 obtain⟨n,r,hn,hr,hn1,hn5,hnr,hr8,hl⟩:=bf hd;have h1:n*n<=r*n:=Nat.mul_le_mul_right n hnr;have h2:n*n<=5*5:=Nat.mul_le_mul hn5 hn5;rw[hn,hl];have e:(n:Int)*(n:Int)=((n*n:Nat):Int):=by rw[Int.natCast_mul]
 rw[e];rw[aM (by omega) (by omega)];exact⟨rfl,by omega,by omega,by omega⟩
def DX{m:Int×Int×List Int}(hd:aO m=true):bn m=true↔∀i,i<m.2.1.toNat->∀j,j<m.1.toNat->-99<=aj m i j/\aj m i j<=99:=by
 obtain⟨n,r,hn,hr,hn1,hn5,hnr,hr8,hl⟩:=bf hd;have e0:m.1.toNat=n:=by omega
 rw[kp];constructor
 ·rintro ⟨_,h⟩ i hi j hj
  have:=hY (n:=n) (r:=r) (i:=i) (j:=j) (by omega) (by omega);refine h _ (bO 0 ?_);rw[e0];omega
 ·intro h;refine⟨hd,λx hx=>?_⟩;obtain⟨p,hp,rfl⟩:=List.getElem_of_mem hx;have hp2:p<r*n:=by omega
  have hi:p / n<r:=Nat.div_lt_of_lt_mul (by rw[Nat.mul_comm];exact hp2);have hj:p%n<n:=Nat.mod_lt _ (by omega);have:=h (p / n) (by omega) (p%n) (by omega);have e:p / n*m.1.toNat+p%n=p:=by rw[e0,Nat.mul_comm];exact Nat.div_add_mod p n
  unfold aj at this;rw[e]at this;simpa only[List.getD_eq_getElem?_getD,List.getElem?_eq_getElem hp,Option.getD_some]using this
section
variable {m : Int × Int × List Int} {L : List Nat} (hd : aO m = true) (h1 : L.Nodup) (h2 : ∀ x ∈ L, x < m.1.toNat) (h3 : L.length = m.1.toNat)
include hd h1 h2 h3
theorem N4:bn (b9 m (aF L))=bn m:=by
 obtain⟨n,r,hn,hr,hn1,hn5,hnr,hr8,hl⟩:=bf hd;rw[Bool.eq_iff_iff,DX (mW _ hd),DX hd];show(∀i,i<m.2.1.toNat->∀j,j<m.1.toNat->-99<=aj (b9 m (aF L)) i j/\aj (b9 m (aF L)) i j<=99)↔_;constructor;·intro h i hi j hj;have a1:=yA (r:=m.2.1.toNat) h1 h2 h3 (by omega) hi;have a2:=h2 _ (bO (l:=L) (j:=j) 0 (by omega));have:=h _ a1 _ a2;rw[gF hd _ a1 a2,iD,DH h1 h2 h3,jJ h1 (by omega)]at this;exact this
 ·intro h i hi j hj;rw[gF hd _ hi hj,iD];have:=(eU (fK h1 h2 h3 hj)).1;exact h _ (yB h1 h2 h3 (by omega) hi) _ (by omega)
theorem N5{k:Nat}(hk:k<m.1.toNat):aU (b9 m (aF L)) (L.getD k 0)=b9 (aU m k) (aF L):=by
 obtain⟨n,r,hn,hr,hn1,hn5,hnr,hr8,hl⟩:=bf hd;have hx:=h2 _ (bO (l:=L) (j:=k) 0 (by omega));have dR:=mW (aF L) hd;refine tK (mT dR _) rfl rfl (by simp[aU,b9]) λp q hp hq=>?_;have hp:p<m.2.1.toNat:=hp;have hq:q<m.1.toNat:=hq;have pq:=(eU (fK h1 h2 h3 hq));have bp:=yB (r:=m.2.1.toNat) h1 h2 h3 (by omega) hp;rw[lq dR hp hq,gF (mT hd k) _ hp hq];show _=aj (aU m k) (eD m.1.toNat ((aF L).map Int.toNat) p) (cY ((aF L).map Int.toNat) q);rw[gF hd _ hp hq,gF hd _ hp hx,gF hd _ (by omega) hq,iD,lq hd bp (by omega),jJ h1 (by omega)];have e1:eD m.1.toNat L (L.getD k 0)=k:=by unfold eD;rw[if_pos hx,jJ h1 (by omega)]
 have e2:decide (p=L.getD k 0)=decide (eD m.1.toNat L p=k):=by
  rw[decide_eq_decide];constructor;·intro e;rw[e];exact e1
  ·intro e;have:=DI (p:=p) h1 h2 h3;rw[e]at this;unfold cD at this;rw[if_pos hk]at this;exact this.symm
 have e3:decide (q=L.getD k 0)=decide (cY L q=k):=by
  rw[decide_eq_decide];constructor;·intro e;rw[e,jJ h1 (by omega)]
  ·intro e;rw[<-e];exact pq.2.symm
 rw[e1,e2,e3]
theorem DY(hsq:m.2.1=m.1){O:List Nat}(o1:O.Nodup)(o2:∀x∈O,x<m.1.toNat)(o3:O.length=m.1.toNat) :
  b9 (b9 m (aF L)) (aF O)=b9 m (aF (L.map λx=>O.getD x 0)):=by
 obtain⟨n,r,hn,hr,hn1,hn5,hnr,hr8,hl⟩:=bf hd;have dR:=mW (aF L) hd;have n1:(L.map λx=>O.getD x 0).Nodup:=by refine List.pairwise_map.2 (h1.imp_of_mem λ{a b} ha hb hne e=>hne ?_);exact ln o1 (by have:=h2 a ha;omega) (by have:=h2 b hb;omega) e
 have n2:∀x∈L.map λx=>O.getD x 0,x<m.1.toNat:=λx hx=>by obtain⟨y,hy,rfl⟩:=List.mem_map.1 hx;have:=h2 y hy;exact o2 _ (bO 0 (by omega))
 have n3:(L.map λx=>O.getD x 0).length=m.1.toNat:=by simpa using h3
 have key:∀p,p<m.1.toNat->cY (L.map λx=>O.getD x 0) p=cY L (cY O p):=λp hp=>by
  have a1:=eU (fK o1 o2 o3 hp);have a2:=eU (fK h1 h2 h3 (show cY O p<m.1.toNat by omega));have e:(L.map λx=>O.getD x 0).getD (cY L (cY O p)) 0=p:=by rw[List.getD_eq_getElem?_getD,List.getElem?_map,List.getElem?_eq_getElem a2.1];have:=a2.2;rw[List.getD_eq_getElem?_getD,List.getElem?_eq_getElem a2.1,Option.getD_some]at this;show O.getD (L[cY L (cY O p)]) 0=p;rw[this];exact a1.2
  have:=jJ n1 (j:=cY L (cY O p)) (by rw[List.length_map];exact a2.1);rw[e]at this;exact this
 refine tK (mW _ dR) rfl rfl (by simp[b9]) λp q hp hq=>?_;have hp:p<m.1.toNat:=by have:p<m.2.1.toNat:=hp;omega
 have hq:q<m.1.toNat:=hq;have ap:=(eU (fK o1 o2 o3 hp)).1;have aq:=(eU (fK o1 o2 o3 hq)).1;have e1:=gF dR (aF O) (p:=p) (q:=q) (show p<m.2.1.toNat by omega) hq;refine e1.trans ?_;show aj (b9 m (aF L)) (eD m.1.toNat ((aF O).map Int.toNat) p) (cY ((aF O).map Int.toNat) q)=_;rw[iD,gF hd _ (show p<m.2.1.toNat by omega) hq,iD];unfold eD;rw[if_pos hp,if_pos hp,gF hd _ (by omega) (by omega),iD,key p hp,key q hq];unfold eD;rw[if_pos (by omega)]
end
def yM{n:Nat}:∀(g:List Nat) (f:List Int),g.Nodup->(∀x∈g,x<n/\(x:Int)∉f)->f++aF g∈dv n g.length f
 |[],f,_,_=>by simp[dv,aF]
 |x::g,f,hn,h=>by
  obtain⟨h1,h2⟩:=List.nodup_cons.1 hn;obtain⟨h3,h4⟩:=h x List.mem_cons_self;rw[List.length_cons,dv,List.mem_flatMap];refine⟨x,List.mem_range.2 h3, ?_⟩;have:(f.any λy=>decide (y=((x:Nat):Int)))=false:=by rw[List.any_eq_false];intro y hy;simp only[decide_eq_true_eq];exact λe=>h4 (e▸hy)
  rw[this,cond_false];have ih:=yM g (f++[(x:Int)]) h2 (λy hy=>by
   obtain⟨k1,k2⟩:=h y (List.mem_cons_of_mem _ hy);refine⟨k1,λhm=>?_⟩;rcases List.mem_append.1 hm with hm|hm;·exact k2 hm
   ·have:(y:Int)=(x:Int):=List.mem_singleton.1 hm;exact h1 (by rw[show x=y by omega];exact hy))
  rw[List.append_assoc]at ih;exact ih
def N6{f f':List Int->List Int}{os:List (List Int)}{b b':List Int}(h:∀o∈os,∃o'∈os,f' o=f o')(h':∀o∈os,∃o'∈os,f o=f' o')(hb:∃o∈os,b=f o)(hb':∃o∈os,b'=f' o):cU f b os=cU f' b' os:=by
 have im:∀{f:List Int->List Int}{b:List Int},(∃o∈os,b=f o)->∃o∈os,cU f b os=f o:=λ{f b} hb=>by
  rcases qL f os b with e|e;·rw[e];exact hb
  ·exact e
 obtain⟨o1,g1,e1⟩:=im hb;obtain⟨o2,g2,e2⟩:=im hb';obtain⟨o3,g3,e3⟩:=h' o1 g1;obtain⟨o4,g4,e4⟩:=h o2 g2;refine mU ?_ ?_;·rw[e1,e3];exact(tG f' os b').2 o3 g3
 ·rw[e2,e4];exact(tG f os b).2 o4 g4
def N7{m:Int×Int×List Int}(hd:aO m=true)(hsq:m.2.1=m.1){names:List Int}(hn:dF names m.1=true):bL (b9 m names)=bL m:=by
 obtain⟨n,r,en,hr,hn1,hn5,hnr,hr8,hl⟩:=bf hd;have e1:m.1.toNat=n:=by omega
 obtain⟨L,rfl,h1,h2,h3⟩:=kj hn;have dR:=mW (aF L) hd;have nm:∀{o:List Int},o∈dv n n []->∃O:List Nat,o=aF O/\O.Nodup/\(∀x∈O,x<m.1.toNat)/\O.length=m.1.toNat:=λ{o} ho=>by have:=oA hn5 ((qJ hn5 o).2 ho);rw[<-en]at this;exact kj this
 have nmo:∀{O:List Nat},O.Nodup->(∀x∈O,x<m.1.toNat)->O.length=m.1.toNat->aF O∈dv n n []:=λ{O} a1 a2 a3=>by have:=yM (n:=n) O [] a1 (λx hx=>⟨by have:=a2 x hx;omega,by simp⟩);rw[a3,e1]at this;simpa using this
 have hid:(List.range n).map Int.ofNat∈dv n n []:=(qJ hn5 _).1 (tD hn5);have r1:=tE hd hsq;have r2:=tE dR (show(b9 m (aF L)).2.1=(b9 m (aF L)).1 from hsq);rw[e1]at r1;rw[show(b9 m (aF L)).1.toNat=n from e1]at r2;unfold bL;show((m.1,m.2.1,cU (ca (b9 m (aF L))) (b9 m (aF L)).2.2 (dv m.1.toNat m.1.toNat [])):Int×Int×List Int)=(m.1,m.2.1,cU (ca m) m.2.2 (dv m.1.toNat m.1.toNat []));rw[e1];refine congrArg (λz=>(m.1,m.2.1,z)) (N6 (λo ho=>?_) (λo ho=>?_) ⟨_,hid,by unfold ca;rw[r2]⟩ ⟨_,hid,by unfold ca;rw[r1]⟩)
 ·obtain⟨O,rfl,o1,o2,o3⟩:=nm ho;let K:List Nat:=(List.range n).map λp=>O.getD (cY L p) 0;have k3:K.length=m.1.toNat:=by simp[K,e1]
  have kg:∀p,p<n->K.getD p 0=O.getD (cY L p) 0:=λp hp=>by show((List.range n).map λp=>O.getD (cY L p) 0).getD p 0=_;rw[List.getD_eq_getElem?_getD,List.getElem?_map,List.getElem?_range hp];rfl
  have k1:K.Nodup:=by refine List.pairwise_map.2 (List.Pairwise.imp_of_mem (λ{a b} ha hb hne e=>hne ?_) List.nodup_range);have ha:=List.mem_range.1 ha;have hb:=List.mem_range.1 hb;have pa:=eU (fK h1 h2 h3 (show a<m.1.toNat by omega));have pb:=eU (fK h1 h2 h3 (show b<m.1.toNat by omega));have:=ln o1 (by omega) (by omega) e;rw[<-pa.2,<-pb.2,this]
  have k2:∀x∈K,x<m.1.toNat:=λx hx=>by obtain⟨p,hp,rfl⟩:=List.mem_map.1 hx;have hp:=List.mem_range.1 hp;have pa:=eU (fK h1 h2 h3 (show p<m.1.toNat by omega));exact o2 _ (bO 0 (by omega))
  refine⟨aF K,nmo k1 k2 k3, ?_⟩;unfold ca;rw[DY hd h1 h2 h3 hsq k1 k2 k3];have:(L.map λx=>K.getD x 0)=O:=by
   apply List.ext_getElem (by simp;omega);intro i hi hi';have hi2:i<L.length:=by simpa using hi
   rw[List.getElem_map];have hlt:=h2 _ (List.getElem_mem hi2);rw[kg _ (by omega)];have:cY L L[i]=i:=by have:=jJ h1 hi2;rwa [List.getD_eq_getElem?_getD,List.getElem?_eq_getElem hi2,Option.getD_some]at this
   rw[this,List.getD_eq_getElem?_getD,List.getElem?_eq_getElem hi',Option.getD_some]
  rw[this]
 ·obtain⟨O,rfl,o1,o2,o3⟩:=nm ho;refine⟨aF (L.map λx=>O.getD x 0),nmo ?_ ?_ (by simpa using h3), ?_⟩;·refine List.pairwise_map.2 (h1.imp_of_mem λ{a b} ha hb hne e=>hne ?_);exact ln o1 (by have:=h2 a ha;omega) (by have:=h2 b hb;omega) e
  ·intro x hx;obtain⟨y,hy,rfl⟩:=List.mem_map.1 hx;have:=h2 y hy;exact o2 _ (bO 0 (by omega))
  ·unfold ca;rw[DY hd h1 h2 h3 hsq o1 o2 o3]
abbrev z3:Int×Int×List Int:=(0,(0,[]))
def cE(x:Int×Int×List Int)(k:Nat):Int×Int×List Int:=bL (aU x k)
def eL(S:List (Int×Int×List Int))(d:List Int):Bool:=S.any λy=>decide (y.2.2=d)
def eM(S:List (Int×Int×List Int))(y:Int×Int×List Int):List (Int×Int×List Int):=if eL S y.2.2=true then S else S++[y]
def d8(x:Int×Int×List Int)(k:Nat)(S:List (Int×Int×List Int)):Option (List (Int×Int×List Int)) :=
 if bg (aU x k)=true then(if(eM S (cE x k)).length<=100 then some (eM S (cE x k))else none)else none
def dU(x:Int×Int×List Int):Nat->Nat->List (Int×Int×List Int)->Option (List (Int×Int×List Int))
 |_,0,S=>some S
 |k,r+1,S=>(d8 x k S).bind (dU x (k+1) r)
def eN(n:Nat):Nat->Nat->List (Int×Int×List Int)->Option (List (Int×Int×List Int))
 |0,_,_=>none
 |F+1,a,S=>if a<S.length then(dU (S.getD a z3) 0 n S).bind (eN n F (a+1))else some S
def fV(m:Int×Int×List Int):Option (List (Int×Int×List Int)):=eN m.1.toNat 102 0 [bL m]
def bU(n:Int)(x:Int×Int×List Int):Prop:=(∃d,bw x d)/\x.1=n/\x.2.1=n
def d9(n:Int)(S:List (Int×Int×List Int)):Prop:=∀x∈S,bU n x
def oE{S:List (Int×Int×List Int)}{d:List Int}:eL S d=true↔∃y∈S,y.2.2=d:=by simp[eL]
def yO{m:Int×Int×List Int}(hd:aO m=true)(hsq:m.2.1=m.1):∃o,dF o m.1=true/\bL m=b9 m o:=by
 obtain⟨n,r,hn,hr',hn1,hn5,hnr,hr8,hl⟩:=bf hd;have e1:m.1.toNat=n:=by omega
 have hx:∀o,b9 m o=(m.1,m.2.1,ca m o):=λo=>rfl;rcases qL (ca m) (dv n n []) m.2.2 with h|⟨o,ho,h⟩
 ·refine⟨(List.range n).map Int.ofNat, ?_, ?_⟩;·rw[hn];exact oA hn5 (tD hn5)
  ·have:=tE hd hsq;rw[e1]at this;rw[this];unfold bL;rw[e1,h]
 ·refine⟨o, ?_, ?_⟩;·rw[hn];exact oA hn5 ((qJ hn5 o).2 ho)
  ·rw[hx];unfold bL;rw[e1,h]
def bU.can{n:Int}{x:Int×Int×List Int}(h:bU n x):bU n (bL x):=by obtain⟨⟨d,hR⟩,h1,h2⟩:=h;obtain⟨o,ho,e⟩:=yO hR.dim (h2.trans h1.symm);exact⟨⟨_,by rw[e];exact hR.ren ho⟩,h1,h2⟩
def bU.mut{n:Int}{x:Int×Int×List Int}(h:bU n x){k:Nat}(hk:k<n.toNat)(hs:bg (aU x k)=true):bU n (aU x k):=by obtain⟨⟨d,hR⟩,h1,h2⟩:=h;exact⟨⟨d,hR.mut (by rw[h1];exact hk) hs⟩,h1,h2⟩
def bU.nxt{n:Int}{x:Int×Int×List Int}(h:bU n x){k:Nat}(hk:k<n.toNat)(hs:bg (aU x k)=true):bU n (cE x k):=(h.mut hk hs).can
def bU.dim{n:Int}{x:Int×Int×List Int}(h:bU n x):aO x=true:=by obtain⟨⟨d,hR⟩,_⟩:=h;exact hR.dim
def bU.shaped{n:Int}{x:Int×Int×List Int}(h:bU n x):bn x=true:=by obtain⟨⟨d,hR⟩,_⟩:=h;exact hR.shaped
def bU.bound{n:Int}{x:Int×Int×List Int}(h:bU n x):1<=n/\n<=5/\(x.2.2.length:Int)=n*n:=by
 obtain⟨m,r,hn,hr',hn1,hn5,hnr,hr8,hl⟩:=bf h.dim;obtain⟨_,h1,h2⟩:=h;have:r=m:=by omega
 subst this;exact⟨by omega,by omega,by rw[hl,<-h1,hn];exact Int.natCast_mul r r⟩
def N8{n:Int}{S:List (Int×Int×List Int)}{y:Int×Int×List Int}(h:d9 n S)(hy:bU n y):d9 n (eM S y):=by
 intro x hx;unfold eM at hx;split at hx;·exact h x hx
 ·rcases List.mem_append.1 hx with hx|hx;·exact h x hx
  ·rw[List.mem_singleton.1 hx];exact hy
def yP{S:List (Int×Int×List Int)}{y d:Int×Int×List Int}{a:Nat}(h:a<S.length):(eM S y).getD a d=S.getD a d:=by
 unfold eM;split;·rfl
 ·rw[List.getD_eq_getElem?_getD,List.getElem?_append_left h,List.getD_eq_getElem?_getD]
def DZ{S:List (Int×Int×List Int)}{y:Int×Int×List Int}:S.length<=(eM S y).length:=by
 unfold eM;split;·exact Nat.le_refl _
 ·simp
def qM{n:Int}{S:List (Int×Int×List Int)}(h:d9 n S){a:Nat}(ha:a<S.length):bU n (S.getD a z3):=h _ (bO _ ha)
def yQ{n:Int}{x:Int×Int×List Int}{k:Nat}{S S':List (Int×Int×List Int)}(hS:d9 n S)(hx:bU n x)(hk:k<n.toNat)(h:d8 x k S=some S') :
  S'=eM S (cE x k)/\d9 n S'/\S.length<=S'.length/\S'.length<=100:=by
 unfold d8 at h;split at h
 ·rename_i hs;split at h;·rename_i hl;injection h with h;subst h;exact⟨rfl,N8 hS (hx.nxt hk hs),DZ,hl⟩
  ·cases h
 ·cases h
def qN{n:Int}{x:Int×Int×List Int}(hx:bU n x):∀(r k:Nat) {S S':List (Int×Int×List Int)},k+r=n.toNat->d9 n S->S.length<=100->dU x k r S=some S' ->
  d9 n S'/\S.length<=S'.length/\S'.length<=100/\∀a d,a<S.length->S'.getD a d=S.getD a d
 |0,k,S,S',_,hS,hl,h=>by injection h with h;subst h;exact⟨hS,Nat.le_refl _,hl,λ_ _ _=>rfl⟩
 |r+1,k,S,S',hk,hS,hl,h=>by obtain⟨S1,h1,h2⟩:=Option.bind_eq_some_iff.1 (show(d8 x k S).bind (dU x (k+1) r)=some S' from h);obtain⟨e,f1,f2,f3⟩:=yQ hS hx (by omega) h1;obtain⟨g1,g2,g3,g4⟩:=qN hx r (k+1) (by omega) f1 f3 h2;refine⟨g1,Nat.le_trans f2 g2,g3,λa d ha=>?_⟩;rw[g4 a d (by omega),e,yP ha]
def fW(m:Int×Int×List Int):Bool:=(bg m&&!decide (bq m=[]))&&decide (m.2.1=m.1)
def dw(n:Int)(S:List (Int×Int×List Int)):List (Int×Int×List Int):=(gj (S.map (·.2.2))).map λd=>(n,(n,d))
def dG(m:Int×Int×List Int):List (Int×Int×List Int)×Bool :=
 if fW m=true then(match fV m with
  |some S=>(dw m.1 S,true)
  |none=>([],false))else([],false)
def tN{m:Int×Int×List Int}(hp:fW m=true):bU m.1 m:=by simp only[fW,Bool.and_eq_true,decide_eq_true_eq]at hp;obtain⟨d,hR⟩:=DW (m:=m) (by simpa using hp.1);exact⟨⟨d,hR⟩,rfl,hp.2⟩
def D0{n:Int}:∀(F a:Nat) {S S':List (Int×Int×List Int)},d9 n S->S.length<=100->eN n.toNat F a S=some S'->d9 n S'/\S.length<=S'.length/\S'.length<=100
 |0,a,S,S',_,_,h=>by cases h
 |F+1,a,S,S',hS,hl,h=>by
  have e1:eN n.toNat (F+1) a S=if a<S.length then(dU (S.getD a z3) 0 n.toNat S).bind (eN n.toNat F (a+1))else some S:=rfl
  rw[e1]at h;split at h;·rename_i ha;obtain⟨S1,h1,h2⟩:=Option.bind_eq_some_iff.1 h;obtain⟨f1,f2,f3,f4⟩:=qN (qM hS ha) n.toNat 0 (by omega) hS hl h1;obtain⟨g1,g2,g3⟩:=D0 F _ f1 f3 h2;exact⟨g1,Nat.le_trans f2 g2,g3⟩
  ·injection h with h;subst h;exact⟨hS,Nat.le_refl _,hl⟩
def mX{m:Int×Int×List Int}(hp:fW m=true){S:List (Int×Int×List Int)}(h:fV m=some S):d9 m.1 S/\1<=S.length/\S.length<=100 :=
 D0 _ _ (λx hx=>by rw[List.mem_singleton.1 hx];exact(tN hp).can) (by simp) h
def bU.len{n:Int}{x:Int×Int×List Int}(h:bU n x):1<=x.2.2.length/\x.2.2.length<=25:=by obtain⟨b1,b2,b3⟩:=h.bound;have h1:n*n<=5*5:=Int.mul_le_mul b2 b2 (by omega) (by omega);have h2:1*1<=n*n:=Int.mul_le_mul b1 b1 (by omega) (by omega);omega
def bU.ents{n:Int}{x:Int×Int×List Int}(h:bU n x):∀u∈x.2.2,-99<=u/\u<=99:=by obtain⟨⟨d,hR⟩,_⟩:=h;exact(kp.1 hR.shaped).2
def N9{n:Int}{S S':List (Int×Int×List Int)}(hS:d9 n S)(hp:S'.Perm S)(hs:fU (S'.map (·.2.2))):S'=dw n S:=by unfold dw;rw[<-DQ (hp.map _) hs,List.map_map];refine((List.map_congr_left λx hx=>?_).trans (List.map_id _)).symm;obtain⟨_,h1,h2⟩:=hS x (hp.mem_iff.1 hx);obtain⟨a,b,c⟩:=x;simp only at h1 h2;subst h1 h2;rfl
def cN(p:UInt8->Bool):List UInt8->List (List UInt8)
 |[]=>[[]]
 |b::l=>if p b=true then[]::cN p l else match cN p l with
  |h::t=>(b::h)::t
  |[]=>[[b]]
def oF(p:UInt8->Bool):∀l,cN p l≠[]
 |[]=>by simp[cN]
 |b::l=>by
  rw[cN];split;·simp
  ·split<;>simp
def lu(a:List UInt8):List (List UInt8)->List (List UInt8)
 |h::t=>(a++h)::t
 |[]=>[a]
def Oa{q:List (List UInt8)}(h:q≠[]):lu [] q=q:=by
 cases q with
 |nil=>exact absurd rfl h
 |cons x xs=>rfl
def Ob{p:UInt8->Bool}{b:UInt8}(h:p b=true)(a l:List UInt8):lu a (cN p (b::l))=a::cN p l:=by rw[cN,if_pos h];simp[lu]
def kq(l:List UInt8):ByteArray:=⟨l.toArray⟩
def eW(s:ByteArray):List ByteArray:=(cN (λb=>b == 32) s.data.toList).map kq
def hZ(c:UInt8):Bool:=decide (48<=c.toNat)&&decide (c.toNat<=57)
def lv(a:Nat)(c:UInt8):Nat:=10*a+(c.toNat-48)
def eE(a:Nat)(l:List UInt8):Nat:=l.foldl lv a
def qQ(a:Nat):eE a []=a:=rfl
def qR(a:Nat)(c:UInt8)(l:List UInt8):eE a (c::l)=eE (lv a c) l:=by unfold eE;rw[List.foldl_cons]
def Oi(l m:List UInt8)(a:Nat):eE a (l++m)=eE (eE a l) m:=by unfold eE;rw[List.foldl_append]
def qS(a:Nat)(c:UInt8):lv a c=10*a+(c.toNat-48):=by unfold lv;rfl
def yT(u:Nat):(Lib.decDigits u).all hZ=true:=by
 induction u using Nat.strongRecOn with
 |_ u ih =>
  have key:∀t,t<10->hZ (UInt8.ofNat (48+t))=true:=λt ht=>by
   have:(UInt8.ofNat (48+t)).toNat=48+t:=by rw[UInt8.toNat_ofNat'];omega
   simp only[hZ,this,Bool.and_eq_true,decide_eq_true_eq];omega
  rw[Lib.decDigits];split;·rename_i h;rw[List.all_cons,key u h];rfl
  ·rename_i h;rw[List.all_append,ih (u / 10) (by omega),List.all_cons,key (u%10) (by omega)];rfl
def Om(u:Nat):eE 0 (Lib.decDigits u)=u:=by
 induction u using Nat.strongRecOn with
 |_ u ih =>
  have key:∀t,t<10->(UInt8.ofNat (48+t)).toNat-48=t:=λt ht=>by
   have:(UInt8.ofNat (48+t)).toNat=48+t:=by rw[UInt8.toNat_ofNat'];omega
   omega
  rw[Lib.decDigits];split;·rename_i h;rw[qR,qS,key u h,qQ];omega
  ·rename_i h;rw[Oi,ih (u / 10) (by omega),qR,qS,key (u%10) (by omega),qQ];omega
def D6(u:Nat):Lib.decDigits u≠[]:=by rw[Lib.decDigits];split<;>simp
def D7:∀(k u:Nat),u<10 ^ k->1<=k->(Lib.decDigits u).length<=k
 |0,_,_,h=>by omega
 |k+1,u,h,_=>by
  rw[Lib.decDigits];split;·simp
  ·rename_i hs;have hk:1<=k:=by
    rcases Nat.eq_zero_or_pos k with h'|h';·subst h';omega
    ·exact h'
   have:=D7 k (u / 10) (by rw[Nat.div_lt_iff_lt_mul (by omega),<-Nat.pow_succ];exact h) hk;simp;omega
def yU{p:UInt8->Bool}:∀(x l:List UInt8),(∀b∈x,p b=false)->cN p (x++l)=lu x (cN p l)
 |[],l,_=>(Oa (oF p l)).symm
 |b::x,l,h=>by
  have ih:=yU x l λc hc=>h c (List.mem_cons_of_mem _ hc);rw[List.cons_append,cN,if_neg (by rw[h b (List.mem_cons_self ..)];simp),ih];have hne:=oF p l;cases hq:cN p l with
  |nil=>exact absurd hq hne
  |cons y ys=>rfl
def yV:∀(xs:List (List UInt8)),xs≠[]->(∀x∈xs,∀b∈x,(b == (32:UInt8))=false)->cN (λb=>b == 32) (Lib.join xs [32])=xs
 |[],h,_=>absurd rfl h
 |[x],_,h=>by rw[Lib.join_one];have:=yU (p:=λb=>b == 32) x [] (h x (List.mem_cons_self ..));rw[List.append_nil]at this;rw[this];simp[cN,lu]
 |x::y::ys,_,h=>by
  have ih:=yV (y::ys) (by simp) λz hz=>h z (List.mem_cons_of_mem _ hz);have e:Lib.join (x::y::ys) [32]=x++(32::Lib.join (y::ys) [32]):=by rw[Lib.join_cons,Lib.join_cons];simp[Lib.joinTail]
  rw[e,yU _ _ (h x (List.mem_cons_self ..)),Ob (by rfl),ih]
def D9(n:Int):∀b∈Lib.itoa n,(b == (32:UInt8))=false:=by
 have key:∀u,∀b∈Lib.decDigits u,(b == (32:UInt8))=false:=λu b hb=>by have:=List.all_eq_true.1 (yT u) b hb;simp only[hZ,Bool.and_eq_true,decide_eq_true_eq]at this;rw[beq_eq_false_iff_ne];intro e;subst e;have:(32:UInt8).toNat=32:=rfl;omega
 intro b hb;unfold Lib.itoa at hb;split at hb
 ·rcases List.mem_cons.1 hb with rfl|hb;·rfl
  ·exact key _ b hb
 ·exact key _ b hb
def eX(l:List UInt8):Nat:=match l with
 |c::_=>if c=45 then 1 else 0
 |[]=>0
def oG(s:ByteArray):Int×Bool :=
  if(s.data.toList.drop (eX s.data.toList)).length=0\/9<(s.data.toList.drop (eX s.data.toList)).length then(0,false)
  else if(s.data.toList.drop (eX s.data.toList)).all hZ=true then
    (if eX s.data.toList=1 then -(eE 0 (s.data.toList.drop (eX s.data.toList)):Int)else(eE 0 (s.data.toList.drop (eX s.data.toList)):Int),
     gu (cr (if eX s.data.toList=1 then -(eE 0 (s.data.toList.drop (eX s.data.toList)):Int)else(eE 0 (s.data.toList.drop (eX s.data.toList)):Int))) s)
  else(0,false)
def oH{a b:ByteArray}:gu a b=true↔a=b:=by
 unfold gu;rw[beq_iff_eq,ByteArray.toList_eq,ByteArray.toList_eq];constructor;·intro h;apply ByteArray.ext;exact Array.toList_inj.1 h
 ·intro h;rw[h]
def ia(w:ByteArray):Option Int:=if(oG w).2=true then some (oG w).1 else none
def Ea{w:ByteArray}{n:Int}(hin:bz n (-999999999) 999999999=true)(hw:w=cr n):oG w=(n,true):=by
 rw[cC]at hin;have hd:w.data.toList=Lib.itoa n:=by rw[hw,yu]
 have hu:n.natAbs<10 ^ 9:=by
  have h9':(10:Nat) ^ 9=1000000000:=by decide
  omega
 have hl:=D7 9 n.natAbs hu (by omega);have hne:(Lib.decDigits n.natAbs).length≠0:=λe=>D6 _ (List.length_eq_zero_iff.1 e);have hall:=yT n.natAbs;have hval:=Om n.natAbs;by_cases hneg:n<0
 ·have e:Lib.itoa n=45::Lib.decDigits n.natAbs:=by unfold Lib.itoa;rw[if_pos hneg]
  have hs:eX w.data.toList=1:=by rw[hd,e];rfl
  have hdr:w.data.toList.drop 1=Lib.decDigits n.natAbs:=by rw[hd,e];rfl
  have hv:-((n.natAbs:Nat):Int)=n:=by omega
  unfold oG;rw[hs,hdr,if_neg (by omega),if_pos hall,if_pos rfl,hval,hv,oH.2 hw.symm]
 ·have e:Lib.itoa n=Lib.decDigits n.natAbs:=by unfold Lib.itoa;rw[if_neg hneg,show n.toNat=n.natAbs by omega]
  have hs:eX w.data.toList=0:=by
   rw[hd,e];unfold eX;split;·rename_i c r hc;rw[hc,List.all_cons,Bool.and_eq_true]at hall;have h1:=hall.1;simp only[hZ,Bool.and_eq_true,decide_eq_true_eq]at h1;rw[if_neg];intro nw;subst nw;have:(45:UInt8).toNat=45:=rfl;omega
   ·rfl
  have hdr:w.data.toList.drop 0=Lib.decDigits n.natAbs:=by rw[hd,e];rfl
  have hv:((n.natAbs:Nat):Int)=n:=by omega
  unfold oG;rw[hs,hdr,if_neg (by omega),if_pos hall,if_neg (by omega),hval,hv,oH.2 hw.symm]
def Oo{n:Int}(hin:bz n (-999999999) 999999999=true):ia (cr n)=some n:=by unfold ia;rw[Ea hin rfl,if_pos rfl]
def fw(f:ByteArray->Option Int):List ByteArray->Option (List Int)
 |[]=>some []
 |w::ws=>match f w with
  |none=>none
  |some n=>match fw f ws with
   |none=>none
   |some l=>some (n::l)
def tP(s:ByteArray):List Int×Bool:=if gu s ByteArray.empty=true then([],true)else match fw ia (eW s)with
 |none=>([],false)
 |some l=>(l,true)
def Oy(n:Int):Lib.itoa n≠[]:=by
 unfold Lib.itoa;split;·simp
 ·exact D6 _
def Oz{row:List Int}(h:row≠[]):eB row≠[]:=by
 cases row with
 |nil=>exact absurd rfl h
 |cons x xs =>unfold eB;rw[List.map_cons,Lib.join_cons];have:=Oy x;simp[this]
def OA{row:List Int}(h:row≠[]):eW (eI row)=row.map cr:=by
 have hd:(eI row).data.toList=Lib.join (row.map Lib.itoa) [32]:=by simp[eI,eB]
 unfold eW;rw[hd,yV (row.map Lib.itoa) (by simpa using h) λx hx=>by obtain⟨n,_,rfl⟩:=List.mem_map.1 hx;exact D9 n,List.map_map];rfl
def Ej:∀{row:List Int},(∀n∈row,bz n (-999999999) 999999999=true)->fw ia (row.map cr)=some row
 |[],_=>rfl
 |n::ns,h=>by rw[List.map_cons,fw,Oo (h n (List.mem_cons_self ..)),Ej λm hm=>h m (List.mem_cons_of_mem _ hm)]
def Ek{row:List Int}(h:row≠[])(hr:∀n∈row,bz n (-999999999) 999999999=true):tP (eI row)=(row,true):=by unfold tP;rw[if_neg,OA h,Ej hr];intro he;have e:=oH.1 he;have:=congrArg (λb:ByteArray=>b.data.toList) e;simp[eI]at this;exact Oz h this
def fy(x:Int×Int×List Int)(i j:Nat):Int:=aj x i j*aj x j i
def m7(x:Int×Int×List Int):Bool:=(List.range' 0 x.1.toNat).all λi=>(List.range' 0 x.1.toNat).all λj=>!decide (fy x i j < -3)
def jN(m:Int×Int×List Int):Int×Int×List Int:=if(bg m&&!decide (bq m=[]))=true then iG m else(0,0,[])
def jO(m:Int×Int×List Int):List (Int×Int×List Int)×Bool :=
 if((dG (jN m)).2&&(dG (jN m)).1.all m7)=true then((dG (jN m)).1,true)else([],false)
def OC{n:Int}{x:Int×Int×List Int}(h:bU n x)(i j:Nat):-9801<=fy x i j/\fy x i j<=9801:=by
 have key:∀i j,-99<=aj x i j/\aj x i j<=99:=λi j=>by
  unfold aj;rw[List.getD_eq_getElem?_getD];cases hq:x.2.2[i*x.1.toNat+j]? with
  |none=>simp
  |some u=>exact h.ents u (List.mem_of_getElem? hq)
 have h1:=key i j;have h2:=key j i;unfold fy;generalize aj x i j=a at *
 generalize aj x j i=b at *
 have:(a*b).natAbs<=99*99:=by rw[Int.natAbs_mul];exact Nat.mul_le_mul (by omega) (by omega)
 omega
def OD{n:Int}{S:List (Int×Int×List Int)}(hS:d9 n S){x:Int×Int×List Int}(h:x∈dw n S):x∈S:=by obtain⟨d,hd,rfl⟩:=List.mem_map.1 h;obtain⟨y,hy,rfl⟩:=List.mem_map.1 ((lr _).mem_iff.1 hd);obtain⟨_,h1,h2⟩:=hS y hy;obtain⟨a,b,c⟩:=y;simp only at h1 h2;subst h1 h2;exact hy
def yX{n:Int}{S:List (Int×Int×List Int)}:(dw n S).length=S.length:=by unfold dw;rw[List.length_map,(lr _).length_eq,List.length_map]
def OE{m:Int×Int×List Int}(h:(dG m).2=true):fW m=true/\d9 m.1 (dG m).1/\1<=(dG m).1.length/\(dG m).1.length<=100:=by
 unfold dG at h ⊢;cases hp:fW m;·rw[hp]at h;cases h
 rw[hp]at h;simp only[if_true]at h ⊢;cases hc:fV m with
 |none=>rw[hc]at h;cases h
 |some S =>
  obtain⟨f1,f2,f3⟩:=mX hp hc;refine⟨trivial,λx hx=>f1 x (OD f1 hx), ?_, ?_⟩;·show 1<=(dw m.1 S).length;rw[yX];exact f2
  ·show(dw m.1 S).length<=100;rw[yX];exact f3
def yY:(Int×Int×List Int)×Bool:=((0,0,[]),false)
def eY(f:Int×Int×List Int->Int->(Int×Int×List Int)×Bool)(m:Int×Int×List Int):List Int->(Int×Int×List Int)×Bool
 |[]=>(m,true)
 |k::ks=>if(f m k).2=true then eY f (f m k).1 ks else yY
end Go.Fw
namespace Go.Fw
section
variable {J : Type}
namespace aS
def P(b:List Int)(r:Int×Int):Bool:=bc b r
def lz(h:Int):Int:=ac (ac (h*6364136223846793005)+1442695040888963407)
def tQ(h:Int):Int:=fj .and .i64 (fj .xor .i64 (Int.fdiv h (2 ^ (min (33:Int).toNat (IntKind.bits .i64)))) (Int.fdiv h (2 ^ (min (45:Int).toNat (IntKind.bits .i64))))) 255
def g(b:List Int)(r:Int×Int):(Int×Int)×Int :=
 if r.1<(b.length:Int)then((r.1+1,lz r.2),fj .and .i64 (ac (tQ (lz r.2)+ac (b.getD r.1.toNat 0))) 255)else((r.1,lz r.2),tQ (lz r.2))
def Z0{J:Type}(N:Nat)(b0:List Int)(r0:Int×Int)(kr:Int->List Int->I2 (Option J)):Option J :=
 cond (lk N (decide (0<=(33:Int)))) (
  cond (lk N (decide (0<=(45:Int)))) (
   cond (lk N (decide (r0.1<(b0.length:Int))))
   (
    cond (lk N (ax r0.1 b0.length)) (
     kr (fj .and .i64 (ac ((fj .and .i64 (fj .xor .i64 (Int.fdiv (ac ((ac (r0.2*6364136223846793005))+1442695040888963407)) (2 ^ (min (33:Int).toNat (IntKind.bits .i64)))) (Int.fdiv (ac ((ac (r0.2*6364136223846793005))+1442695040888963407)) (2 ^ (min (45:Int).toNat (IntKind.bits .i64))))) 255)+(ac ((b0.getD r0.1.toNat 0))))) 255) b0 (ac (r0.1+1)) (ac ((ac (r0.2*6364136223846793005))+1442695040888963407))) none)
   (
    kr (fj .and .i64 (fj .xor .i64 (Int.fdiv (ac ((ac (r0.2*6364136223846793005))+1442695040888963407)) (2 ^ (min (33:Int).toNat (IntKind.bits .i64)))) (Int.fdiv (ac ((ac (r0.2*6364136223846793005))+1442695040888963407)) (2 ^ (min (45:Int).toNat (IntKind.bits .i64))))) 255) b0 r0.1 (ac ((ac (r0.2*6364136223846793005))+1442695040888963407)))) none) none
def Spec:Prop:=∀{U:Type} (u:U) (b0:List Int) (r0:Int×Int),Ty.bd (.sl 0 (.int .u8)) b0->P b0 r0=true->∃N0,∀N,N0<=N->Z0 N b0 r0 (λv2 w0_0 w0_1 w0_2=>some (u,((w0_1,w0_2),((),(v2,())))))=some (u,((g b0 r0).1,((),((g b0 r0).2,()))))
def keep{b:List Int}{r:Int×Int}(h:bc b r=true):bc b (g b r).1=true:=by rw[yr]at h ⊢;unfold g;split<;>simp only<;>omega
def range(b:List Int)(r:Int×Int):0<=(g b r).2/\(g b r).2<=255:=by
 unfold g;split;·exact Dh _ 255 255 rfl (by omega)
 ·exact Dh _ 255 255 rfl (by omega)
def ok:Spec:=λu b r hb hp=>⟨0,λN hN=>by
 have h:=yr.1 hp;simp only[Z0];rw[ct (dt (by omega)),ct (dt (by omega))];by_cases hl:r.1<(b.length:Int)
 ·obtain⟨i,hi⟩:=Int.eq_ofNat_of_zero_le h.1;have e1:g b r=((r.1+1,lz r.2),fj .and .i64 (ac (tQ (lz r.2)+ac (b.getD r.1.toNat 0))) 255):=if_pos hl;have e2:ac (r.1+1)=r.1+1:=by have:=h.2.2;rw[bv]at this;exact aM (by omega) (by omega)
  rw[ct (dt hl),ct (by rw[hi];exact aN (by omega)),e1,e2];rfl
 ·have e1:g b r=((r.1,lz r.2),tQ (lz r.2)):=if_neg hl;rw[cf (df hl),e1];rfl⟩
end aS
namespace ah
def P(b:List Int)(r:Int×Int)(n:Int):Bool:=bc b r
def Em(b:List Int)(r:Int×Int)(n:Int):(Int×Int)×Int :=
 ((aS.g b (aS.g b (aS.g b (aS.g b r).1).1).1).1,
  Int.tmod (ac (ac (ac (ac ((aS.g b r).2*16777216)+ac ((aS.g b (aS.g b r).1).2*65536))+ac ((aS.g b (aS.g b (aS.g b r).1).1).2*256))+(aS.g b (aS.g b (aS.g b (aS.g b r).1).1).1).2)) n)
def g(b:List Int)(r:Int×Int)(n:Int):(Int×Int)×Int :=
 if n<=0 then(r,0)else if n<=256 then((aS.g b r).1,Int.tmod (aS.g b r).2 n)else Em b r n
def Z0{J:Type}(N:Nat)(b0:List Int)(r0:Int×Int)(a:Int)(kr:Int->List Int->I2 (Option J)):Option J :=
 cond (lk N (decide (a<=0)))
 (
  kr 0 b0 r0.1 r0.2)
 (
  cond (lk N (decide (a<=256)))
  (
   cond (lk N (aS.P b0 r0)) (
    cond (lk N (!(decide (a=0)))) (
     kr (Int.tmod (aS.g b0 r0).2 a) b0 (aS.g b0 r0).1.1 (aS.g b0 r0).1.2) none) none)
  (
   cond (lk N (aS.P b0 r0)) (
    cond (lk N (aS.P b0 (aS.g b0 r0).1)) (
     cond (lk N (aS.P b0 (aS.g b0 (aS.g b0 r0).1).1)) (
      cond (lk N (aS.P b0 (aS.g b0 (aS.g b0 (aS.g b0 r0).1).1).1)) (
       cond (lk N (!(decide (a=0)))) (
        kr (Int.tmod (ac ((ac ((ac ((ac ((aS.g b0 r0).2*16777216))+(ac ((aS.g b0 (aS.g b0 r0).1).2*65536))))+(ac ((aS.g b0 (aS.g b0 (aS.g b0 r0).1).1).2*256))))+(aS.g b0 (aS.g b0 (aS.g b0 (aS.g b0 r0).1).1).1).2)) a) b0 (aS.g b0 (aS.g b0 (aS.g b0 (aS.g b0 r0).1).1).1).1.1 (aS.g b0 (aS.g b0 (aS.g b0 (aS.g b0 r0).1).1).1).1.2) none) none) none) none) none))
def Spec:Prop:=∀{U:Type} (u:U) (b0:List Int) (r0:Int×Int) (v1:Int),Ty.bd (.sl 0 (.int .u8)) b0->P b0 r0 v1=true->∃N0,∀N,N0<=N->Z0 N b0 r0 v1 (λv4 w0_0 w0_1 w0_2=>some (u,((w0_1,w0_2),((),(v4,())))))=some (u,((g b0 r0 v1).1,((),((g b0 r0 v1).2,()))))
def keep{b:List Int}{r:Int×Int}{n:Int}(h:bc b r=true):bc b (g b r n).1=true:=by
 unfold g;split;·exact h
 ·split;·exact aS.keep h
  ·exact aS.keep (aS.keep (aS.keep (aS.keep h)))
def range{b:List Int}{r:Int×Int}{n:Int}(h1:1<=n)(h2:n<=256):0<=(g b r n).2/\(g b r n).2<n:=by have h:=aS.range b r;unfold g;rw[if_neg (by omega),if_pos h2];exact⟨Int.tmod_nonneg _ h.1,Int.tmod_lt_of_pos _ (by omega)⟩
def ok:Spec:=λu b r n hb hp=>⟨0,λN hN=>by
 have k1:=aS.keep hp;have k2:=aS.keep k1;have k3:=aS.keep k2;have p0:aS.P b r=true:=hp;have p1:aS.P b (aS.g b r).1=true:=k1;have p2:aS.P b (aS.g b (aS.g b r).1).1=true:=k2;have p3:aS.P b (aS.g b (aS.g b (aS.g b r).1).1).1=true:=k3;simp only[Z0];by_cases h1:n<=0;·rw[ct (dt h1),show g b r n=(r,0)from if_pos h1]
 ·rw[cf (df h1)];have hz:(!(decide (n=0)))=true:=by rw[df (by omega)];rfl
  by_cases h2:n<=256;·rw[ct (dt h2),show g b r n=((aS.g b r).1,Int.tmod (aS.g b r).2 n)from(if_neg h1).trans (if_pos h2)];simp only[aD,p0,hz,cond_true]
  ·rw[cf (df h2),show g b r n=Em b r n from(if_neg h1).trans (if_neg h2)];simp only[aD,p0,p1,p2,p3,hz,cond_true];rfl⟩
end ah
namespace bX
def P(b:List Int)(r:Int×Int)(n:Int):Bool:=bc b r
def g(b:List Int)(r:Int×Int)(n:Int):(Int×Int)×Bool:=((ah.g b r n).1,decide ((ah.g b r n).2=0))
def Z0{J:Type}(N:Nat)(b0:List Int)(r0:Int×Int)(a:Int)(kr:Bool->List Int->I2 (Option J)):Option J :=
 cond (lk N (ah.P b0 r0 a)) (
  kr (lk N (decide ((ah.g b0 r0 a).2=0))) b0 (ah.g b0 r0 a).1.1 (ah.g b0 r0 a).1.2) none
def Spec:Prop:=∀{U:Type} (u:U) (b0:List Int) (r0:Int×Int) (v1:Int),Ty.bd (.sl 0 (.int .u8)) b0->P b0 r0 v1=true->∃N0,∀N,N0<=N->Z0 N b0 r0 v1 (λv4 w0_0 w0_1 w0_2=>some (u,((w0_1,w0_2),((),(v4,())))))=some (u,((g b0 r0 v1).1,((),((g b0 r0 v1).2,()))))
def keep{b:List Int}{r:Int×Int}{n:Int}(h:bc b r=true):bc b (g b r n).1=true:=ah.keep h
def ok:Spec:=λu b r n hb hp=>⟨0,λN hN=>by simp only[Z0,aD,show ah.P b r n=true from hp,cond_true];rfl⟩
end bX
namespace aG
def P(b:List Int)(r:Int×Int)(m:Int×Int×List Int)(i j a c:Int):Bool :=
 bc b r&&(aO m&&(bz i 0 (m.1-1)&&(bz j 0 (m.1-1)&&(bz a 0 1000&&bz c 0 1000))))
def joinM(s:Bool)(m:Int×Int×List Int)(i j a c:Int):Int×Int×List Int :=
 (m.1,m.2.1,(m.2.2.set (i*m.1+j).toNat (if s=true then -a else a)).set (j*m.1+i).toNat (if s=true then c else -c))
def g(b:List Int)(r:Int×Int)(m:Int×Int×List Int)(i j a c:Int):(Int×Int)×(Int×Int×List Int) :=
 ((bX.g b r 2).1,joinM (bX.g b r 2).2 m i j a c)
def Z0{J:Type}(N:Nat)(b0:List Int)(r0:Int×Int)(a:MT)(b c d e:Int)(kn:LI->I2 (List Int->I2 (Option J))):Option J :=
 cond (lk N (bX.P b0 r0 2)) (
  cond (lk N ((bX.g b0 r0 2).2))
  (
   cond (lk N (ax (ac ((ac (b*a.1))+c)) a.2.2.length)) (
    cond (lk N (ax (ac ((ac (c*a.1))+b)) (a.2.2.set (ac ((ac (b*a.1))+c)).toNat (ac (0-d))).length)) (
     kn ((a.2.2.set (ac ((ac (b*a.1))+c)).toNat (ac (0-d))).set (ac ((ac (c*a.1))+b)).toNat (ac (0-(ac (0-e))))) a.1 a.2.1 b0 (bX.g b0 r0 2).1.1 (bX.g b0 r0 2).1.2) none) none)
  (
   cond (lk N (ax (ac ((ac (b*a.1))+c)) a.2.2.length)) (
    cond (lk N (ax (ac ((ac (c*a.1))+b)) (a.2.2.set (ac ((ac (b*a.1))+c)).toNat d).length)) (
     kn ((a.2.2.set (ac ((ac (b*a.1))+c)).toNat d).set (ac ((ac (c*a.1))+b)).toNat (ac (0-e))) a.1 a.2.1 b0 (bX.g b0 r0 2).1.1 (bX.g b0 r0 2).1.2) none) none)) none
def Spec:Prop:=∀{U:Type} (u:U) (b0:List Int) (r0:Int×Int) (v1:MT) (v2 v3 v4 v5:Int),Ty.bd (.sl 0 (.int .u8)) b0->Ty.bd (.pair (.int .i64) (.pair (.int .i64) (.sl 0 (.int .i64)))) v1->P b0 r0 v1 v2 v3 v4 v5=true->∃N0,∀N,N0<=N->Z0 N b0 r0 v1 v2 v3 v4 v5 (λw1_2 w1_0 w1_1 w0_0 w0_1 w0_2=>some (u,((w0_1,w0_2),((w1_0,(w1_1,w1_2)),()))))=some (u,((g b0 r0 v1 v2 v3 v4 v5).1,((g b0 r0 v1 v2 v3 v4 v5).2,())))
def keep{b:List Int}{r:Int×Int}{m:Int×Int×List Int}{i j a c:Int}(h:bc b r=true):bc b (g b r m i j a c).1=true:=bX.keep h
def dim_join{s:Bool}{m:Int×Int×List Int}{i j a c:Int}(h:aO m=true):aO (joinM s m i j a c)=true:=by simpa[aO,joinM]using h
def ok:Spec:=λu b r m i j a c hb hbm hp=>⟨0,λN hN=>by
 simp only[P,Bool.and_eq_true,cC]at hp;obtain⟨h1,h2,hi,hj,ha,hc⟩:=hp;obtain⟨n,q,hn,hr,hn1,hn5,hnr,hr8,hl⟩:=bf h2;obtain⟨x,rfl⟩:=Int.eq_ofNat_of_zero_le hi.1;obtain⟨y,rfl⟩:=Int.eq_ofNat_of_zero_le hj.1;have lx:x<n:=by omega
 have ly:y<n:=by omega
 have b1:=hY (n:=n) (r:=q) (i:=x) (j:=y) (by omega) ly;have b2:=hY (n:=n) (r:=q) (i:=y) (j:=x) (by omega) lx;have hq:q*n<=8*5:=Nat.mul_le_mul hr8 hn5;have e1:(x:Int)*m.1+(y:Int)=((x*n+y:Nat):Int):=by rw[hn];simp
 have e2:(y:Int)*m.1+(x:Int)=((y*n+x:Nat):Int):=by rw[hn];simp
 have e1':(x:Int)*m.1=((x*n:Nat):Int):=by rw[hn];simp
 have e2':(y:Int)*m.1=((y*n:Nat):Int):=by rw[hn];simp
 have a1:ac ((x:Int)*m.1)=(x:Int)*m.1:=by rw[e1'];exact aM (by omega) (by omega)
 have a2:ac ((y:Int)*m.1)=(y:Int)*m.1:=by rw[e2'];exact aM (by omega) (by omega)
 have w1:ac (ac ((x:Int)*m.1)+(y:Int))=(x:Int)*m.1+(y:Int):=by rw[a1,e1];exact aM (by omega) (by omega)
 have w2:ac (ac ((y:Int)*m.1)+(x:Int))=(y:Int)*m.1+(x:Int):=by rw[a2,e2];exact aM (by omega) (by omega)
 have wa:ac (0-a)=-a:=by rw[aM (by omega) (by omega)];omega
 have wc:ac (0-c)=-c:=by rw[aM (by omega) (by omega)];omega
 have wc2:ac (0-(-c))=c:=by rw[aM (by omega) (by omega)];omega
 have i1:ax ((x:Int)*m.1+(y:Int)) m.2.2.length=true:=by rw[e1];exact aN (by omega)
 have i2:∀z:Int,ax ((y:Int)*m.1+(x:Int)) (m.2.2.set ((x:Int)*m.1+(y:Int)).toNat z).length=true:=λz=>by rw[e2,List.length_set];exact aN (by omega)
 have hP:bX.P b r 2=true:=h1;simp only[Z0,aD,hP,w1,w2,wa,wc,wc2,i1,i2,cond_true,g,joinM];cases(bX.g b r 2).2<;>rfl⟩
end aG
namespace az
def P(n:Int):Bool:=bz n 0 5
def g(n:Int):Int×Int×List Int:=(n,n,List.replicate (n*n).toNat 0)
def Z0{J:Type}(N:Nat)(a:Int)(kr:LI->I2 (Option J)):Option J :=
 cond (lk N (bT 0 (ac (a*a))&&decide ((ac (a*a))<1099511627776))) (
  kr (List.replicate (ac (a*a)).toNat (0:Int)) a a) none
def Spec:Prop:=∀ (v0:Int),P v0=true->∃N0,∀N,N0<=N->Z0 N v0 (λv2_2 v2_0 v2_1=>some ((),((v2_0,(v2_1,v2_2)),())))=some ((),((g v0),()))
def ok:Spec:=λn hp=>⟨0,λN hN=>by
 have h:=cC.1 hp;obtain⟨j,rfl⟩:=Int.eq_ofNat_of_zero_le h.1;have hj:j*j<=5*5:=Nat.mul_le_mul (by omega) (by omega);have e:(j:Int)*(j:Int)=((j*j:Nat):Int):=by simp
 have hw:ac ((j:Int)*(j:Int))=(j:Int)*(j:Int):=by rw[e];exact aM (by omega) (by omega)
 simp only[Z0];rw[hw,ct (by rw[e,jD (by omega),dt (by omega)];rfl)];rfl⟩
end az
end
end Go.Fw
namespace Go.Fw
def En{m:Int×Int×List Int}{n r:Nat}(hn:m.1=(n:Int))(hl:m.2.2.length=r*n){i j:Nat}(hi:i<r)(hj:j<n)(x:Int){u v:Nat}(hv:v<n) :
  (m.2.2.set (i*n+j) x).getD (u*n+v) 0=if u=i/\v=j then x else m.2.2.getD (u*n+v) 0:=by
 have hlt:=hY (n:=n) (r:=r) hi hj;rw[cM (by omega)];by_cases e:i*n+j=u*n+v
 ·rw[if_pos e];have h1:i=u:=by
   have:=congrArg (· / n) e
   simpa[tz hj,tz hv]using this
  subst h1;rw[if_pos ⟨rfl,by omega⟩]
 ·rw[if_neg e,if_neg];rintro ⟨rfl,rfl⟩
  exact e rfl
def tR{s:Bool}{m:Int×Int×List Int}(hd:aO m=true){i j:Nat}{x y a c:Int}(hx:x=(i:Int))(hy:y=(j:Int))(hi:i<m.1.toNat)(hj:j<m.1.toNat){u v:Nat}(hv:v<m.1.toNat) :
  aj (aG.joinM s m x y a c) u v=if u=j/\v=i then(if s=true then c else -c)else if u=i/\v=j then(if s=true then -a else a)else aj m u v:=by
 subst hx hy;obtain⟨n,r,hn,hr,hn1,hn5,hnr,hr8,hl⟩:=bf hd;have e0:m.1.toNat=n:=by omega
 rw[e0]at hi hj hv;unfold aj aG.joinM;show((m.2.2.set ((i:Int)*m.1+(j:Int)).toNat _).set ((j:Int)*m.1+(i:Int)).toNat _).getD (u*m.1.toNat+v) 0=_;have e1:((i:Int)*m.1+(j:Int)).toNat=i*n+j:=by rw[hn];norm_cast
 have e2:((j:Int)*m.1+(i:Int)).toNat=j*n+i:=by rw[hn];norm_cast
 rw[e1,e2,e0];have h2:=En (m:=(m.1,m.2.1,m.2.2.set (i*n+j) (if s=true then -a else a))) (n:=n) (r:=r) hn (by simpa using hl) (i:=j) (j:=i) (by omega) hi (if s=true then c else -c) (u:=u) hv;have h1:=En (m:=m) (n:=n) (r:=r) hn hl (i:=i) (j:=j) (by omega) hj (if s=true then -a else a) (u:=u) hv;refine h2.trans ?_;show(if u=j/\v=i then _ else(m.2.2.set (i*n+j) (if s=true then -a else a)).getD (u*n+v) 0)=_;rw[h1]
def ic{s:Bool}{m:Int×Int×List Int}{d:Nat->Int}(h:bw m d){i j:Nat}{x y a c:Int}(hx:x=(i:Int))(hy:y=(j:Int))(hi:i<m.1.toNat)(hj:j<m.1.toNat)(hne:i≠j)(ha:-99<=a/\a<=99)(hc:-99<=c/\c<=99)(hdd:d i*a=d j*c) :
  bw (aG.joinM s m x y a c) d:=by
 have hd:=h.dim;refine⟨kp.2 ⟨aG.dim_join hd,λz hz=>?_⟩,λu hu=>⟨(h.good u hu).1,λv hv=>?_⟩⟩
 ·have h0:=(kp.1 h.shaped).2;have hz:z∈(m.2.2.set (x*m.1+y).toNat (if s=true then -a else a)).set (y*m.1+x).toNat (if s=true then c else -c):=hz;rcases List.mem_or_eq_of_mem_set hz with hz|rfl
  ·rcases List.mem_or_eq_of_mem_set hz with hz|rfl;·exact h0 z hz
   ·split<;>omega
  ·split<;>omega
 ·have hu:u<m.1.toNat:=hu;have hv:v<m.1.toNat:=hv;have hg:=(h.good u hu).2 v hv;have E1:=tR (s:=s) (a:=a) (c:=c) hd hx hy hi hj (u:=i) hj;have E2:=tR (s:=s) (a:=a) (c:=c) hd hx hy hi hj (u:=j) hi;rw[if_neg (λe=>hne e.1),if_pos ⟨rfl,rfl⟩]at E1;rw[if_pos ⟨rfl,rfl⟩]at E2;by_cases e1:u=j/\v=i
  ·rw[e1.1,e1.2,E1,E2];cases s;·simp only[Bool.false_eq_true,if_false,Int.mul_neg];omega
   ·simp only[if_true,Int.mul_neg];omega
  by_cases e2:u=i/\v=j
  ·rw[e2.1,e2.2,E1,E2];cases s;·simp only[Bool.false_eq_true,if_false,Int.mul_neg];omega
   ·simp only[if_true,Int.mul_neg];omega
  rw[tR hd hx hy hi hj hv,tR hd hx hy hi hj hu,if_neg e1,if_neg e2,if_neg (λe=>e2 ⟨e.2,e.1⟩),if_neg (λe=>e1 ⟨e.2,e.1⟩)];exact hg
def Eo(n:Int)(u v:Nat):aj (az.g n) u v=0:=by unfold aj az.g;rw[List.getD_eq_getElem?_getD,List.getElem?_replicate];split<;>rfl
def ku{n:Int}(h1:1<=n)(h5:n<=5){d:Nat->Int}(hd:∀i,0<d i):bw (az.g n) d:=by
 refine⟨kp.2 ⟨?_,λx hx=>?_⟩,λu hu=>⟨hd u,λv hv=>?_⟩⟩
 ·have:n=1\/n=2\/n=3\/n=4\/n=5:=by omega
  rcases this with rfl|rfl|rfl|rfl|rfl<;>rfl
 ·have:=(List.mem_replicate.1 hx).2;omega
 ·rw[Eo,Eo];simp
end Go.Fw
namespace Go.Fw
section
variable {J : Type}
namespace aX
def P(b:List Int)(r:Int×Int):Bool:=bc b r
def markov:Int×Int×List Int:=(3,3,[0,2,-2,-2,0,2,2,-2,0])
def step4(b:List Int)(i:Nat)(s:(Int×Int)×List Int)(j:Nat):(Int×Int)×List Int :=
 ((ah.g b s.1 5).1,(s.2.set (i*4+j) ((ah.g b s.1 5).2-2)).set (j*4+i) (2-(ah.g b s.1 5).2))
def row4(b:List Int)(s:(Int×Int)×List Int)(i:Nat):(Int×Int)×List Int:=(List.range i).foldl (step4 b i) s
def oI(b:List Int)(r:Int×Int):(Int×Int)×List Int:=(List.range 4).foldl (row4 b) (r,List.replicate 16 0)
def two(b:List Int)(r:Int×Int):(Int×Int)×(Int×Int×List Int) :=
 aG.g b (ah.g b (ah.g b r 4).1 4).1 (az.g 2) 0 1 (1+(ah.g b r 4).2) (1+(ah.g b (ah.g b r 4).1 4).2)
def j1(b:List Int)(r:Int×Int):(Int×Int)×(Int×Int×List Int):=aG.g b r (az.g 3) 0 1 1 1
def j2(b:List Int)(r:Int×Int):(Int×Int)×(Int×Int×List Int):=aG.g b (j1 b r).1 (j1 b r).2 1 2 1 1
def j3(b:List Int)(r:Int×Int):(Int×Int)×(Int×Int×List Int):=aG.g b (ah.g b (j2 b r).1 2).1 (j2 b r).2 0 2 (1+(ah.g b (j2 b r).1 2).2) 1
def three(b:List Int)(r:Int×Int):(Int×Int)×(Int×Int×List Int):=((j3 b r).1,((j3 b r).2.1,(j3 b r).2.2.1,(j3 b r).2.2.2.set 6 (ac (0-(j3 b r).2.2.2.getD 2 0))))
def g(b:List Int)(r:Int×Int):(Int×Int)×(Int×Int×List Int) :=
 if(ah.g b r 4).2=0 then((ah.g b r 4).1,markov)else
 if(ah.g b r 4).2=1 then two b (ah.g b r 4).1 else
 if(ah.g b r 4).2=2 then three b (ah.g b r 4).1 else
 ((oI b (ah.g b r 4).1).1,(4,4,(oI b (ah.g b r 4).1).2))
def Z1{J:Type}(N:Nat)(b0:List Int)(r0:Int×Int)(kn:List Int->I4 (Option J)):Option J :=
 kn b0 r0.1 r0.2 0 0
def Z3{J:Type}(N:Nat)(a:List Int)(b c d e:Int)(kn:List Int->I4 (Option J))(kr:LI->I2 (List Int->I2 (Option J))):Option J :=
 let x2_:=(ah.g a (b,c) 4);let x5_:=(ah.g a x2_.1 4);let x6_:=(aG.g a x2_.1 (az.g 3) 0 1 1 1);let x9_:=(ah.g a x5_.1 4);let x0_:=(aG.g a x6_.1 ((az.g 3).1,((az.g 3).2.1,x6_.2.2.2)) 1 2 1 1);let x4_:=(aG.g a x9_.1 (az.g 2) 0 1 (ac (1+x5_.2)) (ac (1+x9_.2)));let x8_:=(ah.g a x0_.1 2);let x1_:=(
   cond (lk N (aG.P a x9_.1 (az.g 2) 0 1 (ac (1+x5_.2)) (ac (1+x9_.2)))) (
   kr x4_.2.2.2 (az.g 2).1 (az.g 2).2.1 a x4_.1.1 x4_.1.2) none)
 let x3_:=(aG.g a x8_.1 ((az.g 3).1,((az.g 3).2.1,x0_.2.2.2)) 0 2 (ac (1+x8_.2)) 1);let x7_:=(
   bo (
   cond (lk N (ah.P a x5_.1 4)) x1_ none))
 cond (lk N (ah.P a (b,c) 4)) (
 cond (lk N (decide (x2_.2=0)))
 (
 kr ([0,2,(-2),(-2),0,2,2,(-2),0]:List Int) 3 3 a x2_.1.1 x2_.1.2)
 (
 cond (lk N (decide (x2_.2=1)))
 (
 cond (lk N (az.P 2)) (
 ce (
 cond (lk N (ah.P a x2_.1 4)) x7_ none)
 (
 cond (lk N (ah.P a x2_.1 4)) (
 ce x7_
 (
 ce x7_
 (
 cond (lk N (ah.P a x5_.1 4)) (
 bo x1_) none))) none)) none)
 (
 cond (lk N (decide (x2_.2=2)))
 (
 cond (lk N (az.P 3)) (
 cond (lk N (aG.P a x2_.1 (az.g 3) 0 1 1 1)) (
 cond (lk N (aG.P a x6_.1 ((az.g 3).1,((az.g 3).2.1,x6_.2.2.2)) 1 2 1 1)) (
 bo (
 cond (lk N (ah.P a x0_.1 2)) (
 cond (lk N (aG.P a x8_.1 ((az.g 3).1,((az.g 3).2.1,x0_.2.2.2)) 0 2 (ac (1+x8_.2)) 1)) (
 cond (lk N (ax 2 x3_.2.2.2.length)) (
 cond (lk N (ax 6 x3_.2.2.2.length)) (
 kr (x3_.2.2.2.set 6 (ac (0-(x3_.2.2.2.getD 2 0)))) (az.g 3).1 (az.g 3).2.1 a x3_.1.1 x3_.1.2) none) none) none) none)) none) none) none)
 (
 kn a x2_.1.1 x2_.1.2 d e)))) none
def Z5{J:Type}(N:Nat)(a:List Int)(b c d e:Int)(kn:LI->List Int->I6 (Option J)):Option J :=
 cond (lk N (az.P 4)) (
  kn (az.g 4).2.2 a b c d e (az.g 4).1 (az.g 4).2.1) none
def Z8{J:Type}(N:Nat)(a:LI)(b:List Int)(c d e f g h:Int)(kn:LI->Int->List Int->I6 (Option J)):Option J :=
 kn a 0 b c d e f g h
def Z12{J:Type}(N:Nat)(a:LI)(b:Int)(c:List Int)(d e f g h i:Int)(kn:LI->Int->List Int->I6 (Option J))(k1:LI->I4 (List Int->I2 (Option J))):Option J :=
 cond (lk N (decide (b<4)))
 (
  kn a b c d e f g h i)
 (
  k1 a f g h i c d e)
def Z16{J:Type}(N:Nat)(a:LI)(b:Int)(c:List Int)(d e f g h i:Int)(kn:LI->I2 (List Int->I6 (Option J))):Option J :=
 kn a b 0 c d e f g h i
def Z19{J:Type}(N:Nat)(f:LI)(a c:Int)(b:List Int)(d e h i j l:Int)(kn:LI->I2 (List Int->I6 (Option J)))(k3:LI->Int->List Int->I6 (Option J)):Option J :=
 cond (lk N (decide (c<a)))
 (
  cond (lk N (ah.P b (d,e) 5)) (
   cond (lk N (ax (ac ((ac (a*4))+c)) f.length)) (
    cond (lk N (ax (ac ((ac (c*4))+a)) (f.set (ac ((ac (a*4))+c)).toNat (ac ((ah.g b (d,e) 5).2-2))).length)) (
     kn ((f.set (ac ((ac (a*4))+c)).toNat (ac ((ah.g b (d,e) 5).2-2))).set (ac ((ac (c*4))+a)).toNat (ac (0-(ac ((ah.g b (d,e) 5).2-2))))) a (ac (c+1)) b (ah.g b (d,e) 5).1.1 (ah.g b (d,e) 5).1.2 h i j l) none) none) none)
 (
  k3 f a b d e h i j l)
def Z18L{J:Type}(N:Nat)(k3:LI->Int->List Int->I6 (Option J)):Nat->LI->Int->Int->List Int->Int->Int->Int->Int->Int->Int->Option J
 |0,_,_,_,_,_,_,_,_,_,_=>none
 |M+1,a,b,c,d,e,f,g,h,i,j=>Z19 N a b c d e f g h i j (λa b c d e f g h i j=>Z18L N k3 M a b c d e f g h i j) k3
def Z18 N a b c d e f g h i j k3:=(Z18L N k3 N a b c d e f g h i j:Option J)
def Z17 N a b c d e f g h i j kn:=(Z18 N a b c d e f g h i j kn:Option J)
def Z15 N a b c d e f g h i kn:=(Z16 N a b c d e f g h i (λa b j c d e f g h i=>Z17 N a b j c d e f g h i kn):Option J)
def Z14 N a b c d e f g h i kn:=(Z15 N a b c d e f g h i kn:Option J)
def Z20{J:Type}(N:Nat)(a:LI)(b:Int)(c:List Int)(d e f g h i:Int)(kn:LI->Int->List Int->I6 (Option J)):Option J :=
 kn a (ac (b+1)) c d e f g h i
def Z13 N a b c d e f g h i kn:=(Z14 N a b c d e f g h i (λa b c d e f g h i=>Z20 N a b c d e f g h i kn):Option J)
def Z11 N a b c d e f g h i kn k1:=(Z12 N a b c d e f g h i (λa b c d e f g h i=>Z13 N a b c d e f g h i kn) k1:Option J)
def Z10L{J:Type}(N:Nat)(k1:LI->I4 (List Int->I2 (Option J))):Nat->LI->Int->List Int->Int->Int->Int->Int->Int->Int->Option J
 |0,_,_,_,_,_,_,_,_,_=>none
 |M+1,a,b,c,d,e,f,g,h,i=>Z11 N a b c d e f g h i (λa b c d e f g h i=>Z10L N k1 M a b c d e f g h i) k1
def Z10 N a b c d e f g h i k1:=(Z10L N k1 N a b c d e f g h i:Option J)
def Z9 N a b c d e f g h i kn:=(Z10 N a b c d e f g h i kn:Option J)
def Z7 N a b c d e f g h kn:=(Z8 N a b c d e f g h (λa i b c d e f g h=>Z9 N a i b c d e f g h kn):Option J)
def Z21{J:Type}(N:Nat)(a:LI)(g h b c:Int)(d:List Int)(e f:Int)(kr:LI->I2 (List Int->I2 (Option J))):Option J :=
 kr a b c d e f
def Z6 N a b c d e f g h kr:=(Z7 N a b c d e f g h (λa e f g h b c d=>Z21 N a e f g h b c d kr):Option J)
def Z4 N a b c d e kr:=(Z5 N a b c d e (λf a b c d e g h=>Z6 N f a b c d e g h kr):Option J)
def Z2 N a b c d e kr:=(Z3 N a b c d e (λa b c d e=>Z4 N a b c d e kr) kr:Option J)
def Z0 N b0 r0 kr:=(Z1 N b0 r0 (λa b c d e=>Z2 N a b c d e kr):Option J)
def Spec:Prop:=∀{U:Type} (u:U) (b0:List Int) (r0:Int×Int),Ty.bd (.sl 0 (.int .u8)) b0->P b0 r0=true->∃N0,∀N,N0<=N->Z0 N b0 r0 (λv2_2 v2_0 v2_1 w0_0 w0_1 w0_2=>some (u,((w0_1,w0_2),((),((v2_0,(v2_1,v2_2)),())))))=some (u,((g b0 r0).1,((),((g b0 r0).2,()))))
def Ep{b:List Int}{i j:Nat}{s:(Int×Int)×List Int}(h:bc b s.1=true/\s.2.length=16):bc b (step4 b i s j).1=true/\(step4 b i s j).2.length=16 :=
 ⟨ah.keep h.1,by simpa[step4]using h.2⟩
def za{b:List Int}{i:Nat}:∀(l:List Nat) {s:(Int×Int)×List Int},(bc b s.1=true/\s.2.length=16)->bc b (l.foldl (step4 b i) s).1=true/\(l.foldl (step4 b i) s).2.length=16
 |[],_,h=>h
 |_::l,_,h=>za l (Ep h)
def zb{b:List Int}:∀(l:List Nat) {s:(Int×Int)×List Int},(bc b s.1=true/\s.2.length=16)->bc b (l.foldl (row4 b) s).1=true/\(l.foldl (row4 b) s).2.length=16
 |[],_,h=>h
 |i::l,_,h=>zb l (za (i:=i) (List.range i) h)
def inner{J:Type}{N:Nat}{b:List Int}(k3:List Int->Int->List Int->Int->Int->Int->Int->Int->Int->Option J)(t0 t1 m0 m1:Int){i:Nat}(hi:i<4):∀(M j:Nat) (s:(Int×Int)×List Int),j<=i->(bc b s.1=true/\s.2.length=16)->i-j<M ->
  Z18L N k3 M s.2 (i:Int) (j:Int) b s.1.1 s.1.2 t0 t1 m0 m1=k3 (((List.range i).drop j).foldl (step4 b i) s).2 (i:Int) b (((List.range i).drop j).foldl (step4 b i) s).1.1 (((List.range i).drop j).foldl (step4 b i) s).1.2 t0 t1 m0 m1:=by
 intro M;induction M with
 |zero=>intro j s _ _ h;omega
 |succ M ih =>
  intro j s hj hs hM;simp only[Z18L,Z19];by_cases h:j<i
  ·have e1:ac (ac ((i:Int)*4)+(j:Int))=((i*4+j:Nat):Int):=by rw[aM (n:=(i:Int)*4) (by omega) (by omega),aM (by omega) (by omega)];simp
   have e2:ac (ac ((j:Int)*4)+(i:Int))=((j*4+i:Nat):Int):=by rw[aM (n:=(j:Int)*4) (by omega) (by omega),aM (by omega) (by omega)];simp
   have hr:=ah.range (b:=b) (r:=s.1) (n:=5) (by omega) (by omega);have hP:ah.P b s.1 5=true:=hs.1;have es:((s.1.1,s.1.2):Int×Int)=s.1:=rfl;have e3:ac ((ah.g b s.1 5).2-2)=(ah.g b s.1 5).2-2:=aM (by omega) (by omega);have e4:ac (0-((ah.g b s.1 5).2-2))=2-(ah.g b s.1 5).2:=by rw[aM (by omega) (by omega)];omega
   rw[ct (dt (by omega)),es,ct hP,e1,e2,e3,e4,ct (aN (by rw[hs.2];omega)),ct (aN (by rw[List.length_set,hs.2];omega)),Int.toNat_natCast,Int.toNat_natCast,bh (by rw[bv];omega),iA h,List.foldl_cons];exact ih (j+1) (step4 b i s j) h (Ep hs) (by omega)
  ·rw[cf (df (by omega)),List.drop_of_length_le (by rw[List.length_range];omega)];rfl
def outer{J:Type}{N:Nat}(hN:10<=N){b:List Int}(k1:List Int->Int->Int->Int->Int->List Int->Int->Int->Option J)(t0 t1 m0 m1:Int):∀(M i:Nat) (s:(Int×Int)×List Int),i<=4->(bc b s.1=true/\s.2.length=16)->4-i<M ->
  Z10L N k1 M s.2 (i:Int) b s.1.1 s.1.2 t0 t1 m0 m1=k1 (((List.range 4).drop i).foldl (row4 b) s).2 t0 t1 m0 m1 b (((List.range 4).drop i).foldl (row4 b) s).1.1 (((List.range 4).drop i).foldl (row4 b) s).1.2:=by
 intro M;induction M with
 |zero=>intro i s _ _ h;omega
 |succ M ih =>
  intro i s hi hs hM;simp only[Z10L,Z11,Z12];by_cases h:i<4;·rw[ct (dt (by omega))];simp only[Z13,Z14,Z15,Z16,Z17,Z18];refine(inner _ t0 t1 m0 m1 h N 0 s (Nat.zero_le _) hs (by omega)).trans ?_;simp only[Z20];rw[List.drop_zero,bh (by rw[bv];omega),iA h,List.foldl_cons];exact ih (i+1) (row4 b s i) h (za _ hs) (by omega)
  ·rw[cf (df (by omega)),List.drop_of_length_le (by rw[List.length_range];omega)];rfl
def dim_zero{n:Int}(h1:1<=n)(h5:n<=5):aO (az.g n)=true:=by
 have:n=1\/n=2\/n=3\/n=4\/n=5:=by omega
 rcases this with rfl|rfl|rfl|rfl|rfl<;>rfl
def joinP{b:List Int}{r:Int×Int}{m:Int×Int×List Int}{i j a c:Int}(h1:bc b r=true)(h2:aO m=true)(hi:0<=i/\i<m.1)(hj:0<=j/\j<m.1)(ha:0<=a/\a<=1000)(hc:0<=c/\c<=1000):aG.P b r m i j a c=true:=by simp only[aG.P,Bool.and_eq_true,cC];exact⟨h1,h2,by omega,by omega,by omega,by omega⟩
def keep{b:List Int}{r:Int×Int}(h:bc b r=true):bc b (g b r).1=true:=by
 have h0:=ah.keep (n:=4) h;unfold g;split;·exact h0
 split;·exact aG.keep (ah.keep (ah.keep h0))
 split;·have k1:bc b (j1 b (ah.g b r 4).1).1=true:=aG.keep h0;have k2:bc b (j2 b (ah.g b r 4).1).1=true:=aG.keep k1;have k3:bc b (j3 b (ah.g b r 4).1).1=true:=aG.keep (ah.keep k2);exact k3
 ·exact(zb (List.range 4) ⟨h0,by simp⟩).1
def dim{b:List Int}{r:Int×Int}(h:bc b r=true):aO (g b r).2=true/\(g b r).2.1=(g b r).2.2.1:=by
 have h0:=ah.keep (n:=4) h;unfold g;split;·exact⟨rfl,rfl⟩
 split;·exact⟨aG.dim_join (dim_zero (by omega) (by omega)),rfl⟩
 split;·have:aO (j3 b (ah.g b r 4).1).2=true:=aG.dim_join (aG.dim_join (aG.dim_join (dim_zero (by omega) (by omega))));exact⟨by simpa[aO,three]using this,rfl⟩
 ·have:=(zb (List.range 4) (s:=((ah.g b r 4).1,List.replicate 16 0)) ⟨h0,by simp⟩).2;refine⟨?_,rfl⟩;simp only[aO,Bool.and_eq_true,decide_eq_true_eq,cC];refine⟨by omega,by omega, ?_⟩;show((oI b (ah.g b r 4).1).2.length:Int)=4*4;unfold oI;omega
def ok:Spec:=λu b r hb hp=>⟨20,λN hN=>by
 have h0:=ah.keep (n:=4) hp;have hP:ah.P b r 4=true:=hp;have er:((r.1,r.2):Int×Int)=r:=rfl;simp only[Z0,Z1,Z2,Z3,er];rw[ct hP];by_cases c0:(ah.g b r 4).2=0;·rw[ct (dt c0),show g b r=((ah.g b r 4).1,markov)from if_pos c0];rfl
 rw[cf (df c0)];by_cases c1:(ah.g b r 4).2=1;·rw[ct (dt c1),show g b r=two b (ah.g b r 4).1 from(if_neg c0).trans (if_pos c1)];have h1:=ah.keep (n:=4) h0;have h2:=ah.keep (n:=4) h1;have r1:=ah.range (b:=b) (r:=(ah.g b r 4).1) (n:=4) (by omega) (by omega);have r2:=ah.range (b:=b) (r:=(ah.g b (ah.g b r 4).1 4).1) (n:=4) (by omega) (by omega);have p1:ah.P b (ah.g b r 4).1 4=true:=h0;have p2:ah.P b (ah.g b (ah.g b r 4).1 4).1 4=true:=h1;have w1:ac (1+(ah.g b (ah.g b r 4).1 4).2)=1+(ah.g b (ah.g b r 4).1 4).2:=aM (by omega) (by omega);have w2:ac (1+(ah.g b (ah.g b (ah.g b r 4).1 4).1 4).2)=1+(ah.g b (ah.g b (ah.g b r 4).1 4).1 4).2:=aM (by omega) (by omega);have pz:az.P 2=true:=rfl;have pj:=joinP (m:=az.g 2) (i:=0) (j:=1) (a:=1+(ah.g b (ah.g b r 4).1 4).2) (c:=1+(ah.g b (ah.g b (ah.g b r 4).1 4).1 4).2) h2 (dim_zero (by omega) (by omega)) (show(0:Int)<=0/\(0:Int)<2 by omega) (show(0:Int)<=1/\(1:Int)<2 by omega) (by omega) (by omega);simp only[aD,p1,p2,w1,w2,pz,pj,cond_true,fG];rfl
 rw[cf (df c1)];by_cases c2:(ah.g b r 4).2=2
 ·rw[ct (dt c2),show g b r=three b (ah.g b r 4).1 from(if_neg c0).trans ((if_neg c1).trans (if_pos c2))];generalize(ah.g b r 4).1=r1 at h0;have pz:az.P 3=true:=rfl;have d0:aO (az.g 3)=true:=dim_zero (by omega) (by omega);have k1:bc b (j1 b r1).1=true:=aG.keep h0;have k2:bc b (j2 b r1).1=true:=aG.keep k1;have k3:=ah.keep (n:=2) k2;have d1:aO (j1 b r1).2=true:=aG.dim_join d0;have d2:aO (j2 b r1).2=true:=aG.dim_join d1;have q1:aG.P b r1 (az.g 3) 0 1 1 1=true:=joinP h0 d0 (show(0:Int)<=0/\(0:Int)<3 by omega) (show(0:Int)<=1/\(1:Int)<3 by omega) (by omega) (by omega);have q2:aG.P b (j1 b r1).1 (j1 b r1).2 1 2 1 1=true:=joinP k1 d1 (show(0:Int)<=1/\(1:Int)<3 by omega) (show(0:Int)<=2/\(2:Int)<3 by omega) (by omega) (by omega);have rr:=ah.range (b:=b) (r:=(j2 b r1).1) (n:=2) (by omega) (by omega);have w1:ac (1+(ah.g b (j2 b r1).1 2).2)=1+(ah.g b (j2 b r1).1 2).2:=aM (by omega) (by omega);have q3:aG.P b (ah.g b (j2 b r1).1 2).1 (j2 b r1).2 0 2 (1+(ah.g b (j2 b r1).1 2).2) 1=true:=joinP k3 d2 (show(0:Int)<=0/\(0:Int)<3 by omega) (show(0:Int)<=2/\(2:Int)<3 by omega) (by omega) (by omega);have p2:ah.P b (j2 b r1).1 2=true:=k2;have len:(j3 b r1).2.2.2.length=9:=by simp[j3,j2,j1,aG.g,aG.joinM,az.g]
  have i2:ax 2 (j3 b r1).2.2.2.length=true:=by rw[len];rfl
  have i6:ax 6 (j3 b r1).2.2.2.length=true:=by rw[len];rfl
  have f1:aG.g b r1 (az.g 3) 0 1 1 1=j1 b r1:=rfl;have f2:aG.g b (j1 b r1).1 (j1 b r1).2 1 2 1 1=j2 b r1:=rfl;have f3:aG.g b (ah.g b (j2 b r1).1 2).1 (j2 b r1).2 0 2 (1+(ah.g b (j2 b r1).1 2).2) 1=j3 b r1:=rfl;have s1:(((az.g 3).1,((az.g 3).2.1,(j1 b r1).2.2.2)):Int×Int×List Int)=(j1 b r1).2:=rfl;have s1':(((az.g 3).1,((az.g 3).2.1,(j2 b r1).2.2.2)):Int×Int×List Int)=(j2 b r1).2:=rfl;simp only[aD,pz,q1,f1,s1,q2,f2,p2,s1',w1,q3,f3,i2,i6,cond_true,fG];rfl
 rw[cf (df c2),show g b r=((oI b (ah.g b r 4).1).1,(4,4,(oI b (ah.g b r 4).1).2))from(if_neg c0).trans ((if_neg c1).trans (if_neg c2))];simp only[Z4,Z5];rw[ct (show az.P 4=true from rfl)];simp only[Z6,Z7,Z8,Z9,Z10];have ez:(az.g 4).2.2=List.replicate 16 0:=rfl;rw[ez];refine(outer (by omega) (λm5_2 t2_0 t2_1 m5_0 m5_1 io100000_0 io100000_1 io100000_2=>Z21 N m5_2 t2_0 t2_1 m5_0 m5_1 io100000_0 io100000_1 io100000_2 _) 0 0 4 4 N 0 ((ah.g b r 4).1,List.replicate 16 0) (Nat.zero_le _) ⟨h0,by simp⟩ (by omega)).trans ?_;rw[List.drop_zero];simp only[Z21];rfl⟩
end aX
end
end Go.Fw
